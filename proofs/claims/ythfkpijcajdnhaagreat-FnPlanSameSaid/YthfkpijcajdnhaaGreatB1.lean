/-
  What 'FlowTimes' computes: the times of a key's rows, and all their joins, in order. Printed by a program: what functions compute, and their contracts (part 1). Printed by a program: what functions compute, and their contracts (part 2). 'DrawPlanFlow' by hand: a list of lists that is cut and written. No statement is proved here.
-/
import Derived.Test.YthfkpijcajdnhaaGreatAR
import Derived.Test.YthfkpijcajdnhaaGreatProg

namespace Go.Proofs.YthfkpijcajdnhaaGreat
open Go
def ub (x:Row):Bool:=decide (0≤x.Key∧x.Key≤3∧0≤x.Val∧x.Val≤99∧(0≤x.At.A∧x.At.A≤7∧0≤x.At.B∧x.At.B≤7)∧-99999≤x.Diff∧x.Diff≤99999)
def Hb (xs:List Row):Bool:=xs.all ub&&decide (xs.length≤400)
def Ea (t:Time):Bool:=decide (0≤t.A∧t.A≤7∧0≤t.B∧t.B≤7)
def jT (xs:List Row) (k:Int) (t:Time):Bool :=
 xs.any (fun x=>decide (x.Key=k∧x.At.A=t.A∧x.At.B≤t.B))&&xs.any (fun x=>decide (x.Key=k∧x.At.B=t.B∧x.At.A≤t.A))
def rowP (p:Time→Bool) (i:Int) (n:Nat):List Time:=((List.range n).filter fun b:Nat=>p ⟨i,(b:Int)⟩).map fun b:Nat=>(⟨i,(b:Int)⟩ : Time)
def oc (p:Time→Bool):Nat→List Time
 | 0=>[]
 | n+1=>oc p n++rowP p n 8
def Xa (xs:List Row) (k:Int):List Time:=if Hb xs=true then oc (jT xs k) 8 else []
def VJ (xs:List Row) (_:Int):Prop:=xs.length≤1000000
def LW:Spec:=⟨[.lst .row,.int .i64],.one .fr (.lst .time),false,fun x=>(Xa x.1 x.2.1,0),fun x=>VJ x.1 x.2.1⟩
end Go.Proofs.YthfkpijcajdnhaaGreat

namespace Go.Proofs.YthfkpijcajdnhaaGreat
open Go
noncomputable section
set_option maxRecDepth 100000
def tt:TT:=[(2,⟨.scalar,1,[.int .i64 0],some .int,false⟩),
 (3,⟨.scalar,1,[.int .i64 0],some .int,false⟩),
 (4,⟨.scalar,1,[.bool false],some .bool,false⟩),
 (5,⟨.scalar,1,[.int .u8 0],some .byte,false⟩),
 (6,⟨.scalar,1,[.int .u8 0],some .byte,false⟩),
 (7,⟨(.struct [(0,1),(1,1),(2,1),(3,1)]),4,[.int .i64 0,.int .i64 0,.bool false,.int .u8 0],none,false⟩),
 (8,⟨(.struct [(0,1),(1,1),(2,1),(3,1)]),4,[.int .i64 0,.int .i64 0,.bool false,.int .u8 0],none,false⟩),
 (9,⟨.scalar,1,[.str ByteArray.empty],some .str,false⟩),
 (10,⟨.scalar,1,[.str ByteArray.empty],some .str,false⟩),
 (11,⟨.scalar,1,[.str ByteArray.empty],some .str,false⟩),
 (12,⟨.scalar,1,[.int .u64 0],none,false⟩),
 (13,⟨(.struct [(0,1),(1,1)]),2,[.str ByteArray.empty,.int .u64 0],none,false⟩),
 (14,⟨(.struct [(0,1),(1,1)]),2,[.str ByteArray.empty,.int .u64 0],none,false⟩),
 (21,⟨.scalar,1,[.int .i32 0],none,false⟩),
 (22,⟨(.slice 5),1,[.nl .byte],none,false⟩),
 (23,⟨(.slice 25),1,[.nl .plan],none,false⟩),
 (24,⟨(.struct [(0,1),(1,1),(2,1)]),3,[.int .i64 0,.int .i64 0,.nl .plan],some .plan,false⟩),
 (25,⟨(.struct [(0,1),(1,1),(2,1)]),3,[.int .i64 0,.int .i64 0,.nl .plan],some .plan,false⟩),
 (26,⟨(.slice 29),1,[.nl .lrow],none,false⟩),
 (29,⟨(.slice 44),1,[.nl .row],some .lrow,false⟩),
 (37,⟨(.struct [(0,1),(1,1)]),2,[.int .i64 0,.int .i64 0],some .time,true⟩),
 (38,⟨(.struct [(0,1),(1,1)]),2,[.int .i64 0,.int .i64 0],some .time,true⟩),
 (39,⟨(.slice 42),1,[.nl .item],some .litem,false⟩),
 (41,⟨(.struct [(0,1),(1,1),(2,1)]),3,[.int .i64 0,.int .i64 0,.int .i64 0],some .item,true⟩),
 (42,⟨(.struct [(0,1),(1,1),(2,1)]),3,[.int .i64 0,.int .i64 0,.int .i64 0],some .item,true⟩),
 (43,⟨(.struct [(0,1),(1,1),(2,2),(4,1)]),5,[.int .i64 0,.int .i64 0,.int .i64 0,.int .i64 0,.int .i64 0],some .row,true⟩),
 (44,⟨(.struct [(0,1),(1,1),(2,2),(4,1)]),5,[.int .i64 0,.int .i64 0,.int .i64 0,.int .i64 0,.int .i64 0],some .row,true⟩),
 (51,⟨(.slice 38),1,[.nl .time],none,false⟩),
 (57,⟨(.slice 39),1,[.nl .litem],none,false⟩),
 (80,⟨(.struct [(0,1),(1,1)]),2,[.nl .byte,.int .i64 0],none,false⟩),
 (81,⟨(.struct [(0,1),(1,1)]),2,[.nl .byte,.int .i64 0],none,false⟩),
 (91,⟨(.slice 3),1,[.nl .int],none,false⟩),
 (113,⟨.scalar,1,[.int .u64 0],none,false⟩),
 (121,⟨.scalar,1,[.int .u64 0],none,false⟩),
 (129,⟨.scalar,1,[.int .u32 0],none,false⟩),
 (131,⟨.scalar,1,[.int .u64 0],none,false⟩),
 (133,⟨.scalar,1,[.int .i64 0],some .int,false⟩),
 (140,⟨.scalar,1,[.int .u64 0],none,false⟩),
 (155,⟨.scalar,1,[.int .u8 0],some .byte,false⟩),
 (156,⟨.scalar,1,[.int .u8 0],some .byte,false⟩),
 (159,⟨.scalar,1,[.int .i32 0],none,false⟩),
 (160,⟨.scalar,1,[.int .i32 0],none,false⟩),
 (163,⟨(.struct [(0,1),(1,1)]),2,[.str ByteArray.empty,.int .u8 0],none,false⟩),
 (164,⟨(.struct [(0,1),(1,1)]),2,[.str ByteArray.empty,.int .u8 0],none,false⟩)]
def MF:SP:=[]
abbrev F35:Fnn:=⟨[.tmp 2],.rdr,none,[]⟩
abbrev dO:(LB×Int)→RV:=fun q=>(some (RT.av (.rdr) q),.dead)
abbrev eO (fr:Fr) {A X Y Z:Type} (S:da ((LB×Int)) A X Y Z):Prop:=ua Tryz.prog tt ⟨Tryz.f35.ntmps,none,[]⟩ fr (ia Tryz.f35) F35 S
def Er (x1:LB):Tr ((LB×Int)) LB Empty Empty Empty :=
 .c (cmp .gtr (aa .byte x1) 2000)
 (.w [le3 0 2000 (aa .byte x1)] (.l (.n (List.drop (Int.toNat 0) (List.take (Int.toNat 2000) x1)))))
 (.l (.n x1))
def fO:=fun x1=>(Er x1).val
def gO:=fun x1=>(Er x1).ob
def Gr:=fun x1=>da.mk (fO x1) (gO x1) [0,1] [(0,.S .byte x1)] dO (fun q=>[(0,.S .byte q)]) nE nE nE
theorem E4 (G:Good Tryz.prog tt MF) {fr:Fr}:∀ x1,eO fr (Gr x1) :=
 fun x1=>fa G [] trivial [(1,[0,5]),(2,[0])] [] [] (Er x1) rfl rfl (by kernel_rfl)
def Hr (a0:LB):Tr ((LB×Int)) Empty Empty Empty Empty :=
 .s (Gr a0) (fun q4=>.l (.r (q4,0))) nE nE nE
def Ir:=fun a0=>(Hr a0).val
def Jr:=fun a0=>(Hr a0).ob
def iO:=fun a0=>da.mk (Ir a0) (Jr a0) [] [(0,.S .byte a0)] dO nE nE nE nE
theorem G4 (G:Good Tryz.prog tt MF) {fr:Fr}:∀ a0,eO fr (iO a0) :=
 fun a0=>fa G [([0,1],fun e=>⟨Gr (gL .byte e 0 0)⟩)] ⟨fun _=>⟨rfl,E4 G _⟩,trivial⟩ [(0,[0]),(3,[2])] [] [] (Hr a0) rfl rfl (by kernel_rfl)
def Kg (a0:LB):(LB×Int):=ocR (Ir a0)
def Yl (a0:LB):Prop:=Jr a0
def QF:Spec:=⟨[(.lst .byte)],.rdr,false,fun x=>(Kg x.1,0),fun x=>Yl x.1⟩
theorem H4 (G:Good Tryz.prog tt MF):Con Tryz.prog 35 QF :=
 Ca (pts:=[(.lst .byte)]) (rt:=.rdr) (o:=fun x=>Ir x.1) (ob:=fun x=>Jr x.1) G (fn:=Tryz.f35) (c:=ia Tryz.f35) (by kernel_rfl) (by kernel_rfl) (by kernel_rfl) (rs:=[.tmp 2]) (fz:=F35.fz) (by kernel_rfl) (by kernel_rfl) (fun _=>rfl) rfl (fun x=>iO x.1) (fun _=>⟨rfl,rfl,rfl,rfl,rfl⟩) (fun x _=>G4 G x.1)
def jO:SP:=[]
abbrev F38:Fnn:=⟨[.tmp 4],.one .fr (.int .i64),some 0,[]⟩
abbrev I4 (b:LB):Int×Int→RV:=fun q=>(some (RT.av (.one .fr (.int .i64)) q.1),.box [(.sh,.lst .byte b),(.fr,.i q.2)])
abbrev J4 (fr:Fr) {A X Y Z:Type} (S:da (Int×Int) A X Y Z):Prop:=ua Tryz.prog tt ⟨Tryz.f38.ntmps,some 0,[]⟩ fr (ia Tryz.f38) F38 S
def Kr (a0:(LB×Int)) (a1:Int):Tr (Int×Int) Empty Empty Empty Empty :=
 .c (cond (cmp .lss a1 1) true (cmp .eql (aa .byte a0.1) 0))
 (.l (.r (0,(ar .add .i64 a0.2 1))))
 (.c (cmp .lss (ar .sub .i64 (ar .add .i64 a0.2 1) 1) (aa .byte a0.1))
 (.w [inb (ar .sub .i64 (ar .add .i64 a0.2 1) 1) (aa .byte a0.1),(a1:Int)≠0] (.l (.r ((ar .rem .i64 (IntKind.wrap .i64 (rd .byte a0.1 (ar .sub .i64 (ar .add .i64 a0.2 1) 1))) a1),(ar .add .i64 a0.2 1)))))
 (.w [((aa .byte a0.1):Int)≠0,inb (ar .rem .i64 (ar .sub .i64 (ar .add .i64 a0.2 1) 1) (aa .byte a0.1)) (aa .byte a0.1),((aa .byte a0.1):Int)≠0,inb (ar .rem .i64 (ar .add .i64 (ar .mul .i64 (ar .sub .i64 (ar .add .i64 a0.2 1) 1) 7) 3) (aa .byte a0.1)) (aa .byte a0.1),((aa .byte a0.1):Int)≠0] (.w [(64:Int)≠0] (.w [(a1:Int)≠0] (.l (.r ((ar .rem .i64 (xr .i64 (ar .add .i64 (ar .add .i64 (ar .add .i64 (ar .mul .i64 (IntKind.wrap .i64 (rd .byte a0.1 (ar .rem .i64 (ar .sub .i64 (ar .add .i64 a0.2 1) 1) (aa .byte a0.1)))) 131) (ar .mul .i64 (IntKind.wrap .i64 (rd .byte a0.1 (ar .rem .i64 (ar .add .i64 (ar .mul .i64 (ar .sub .i64 (ar .add .i64 a0.2 1) 1) 7) 3) (aa .byte a0.1)))) 1117)) (ar .mul .i64 (ar .sub .i64 (ar .add .i64 a0.2 1) 1) 29)) (ar .mul .i64 (ar .quo .i64 (ar .sub .i64 (ar .add .i64 a0.2 1) 1) (aa .byte a0.1)) 53)) (ar .quo .i64 (ar .add .i64 (ar .add .i64 (ar .add .i64 (ar .mul .i64 (IntKind.wrap .i64 (rd .byte a0.1 (ar .rem .i64 (ar .sub .i64 (ar .add .i64 a0.2 1) 1) (aa .byte a0.1)))) 131) (ar .mul .i64 (IntKind.wrap .i64 (rd .byte a0.1 (ar .rem .i64 (ar .add .i64 (ar .mul .i64 (ar .sub .i64 (ar .add .i64 a0.2 1) 1) 7) 3) (aa .byte a0.1)))) 1117)) (ar .mul .i64 (ar .sub .i64 (ar .add .i64 a0.2 1) 1) 29)) (ar .mul .i64 (ar .quo .i64 (ar .sub .i64 (ar .add .i64 a0.2 1) 1) (aa .byte a0.1)) 53)) 64)) a1),(ar .add .i64 a0.2 1))))))))
def Lr:=fun a0 a1=>(Kr a0 a1).val
def Mr:=fun a0 a1=>(Kr a0 a1).ob
def kO:=fun a0 a1=>da.mk (Lr a0 a1) (Mr a0 a1) [] [(0,.box [(.sh,.lst .byte a0.1),(.fr,.i a0.2)]),(1,.I a1)] (I4 a0.1) nE nE nE nE
theorem L4 (G:Good Tryz.prog tt jO) {fr:Fr}:∀ a0 a1,J4 fr (kO a0 a1) :=
 fun a0 a1=>fa G [] trivial [(0,[0,1]),(1,[0,1]),(2,[0,1,24]),(3,[0,4]),(4,[0,1,5]),(5,[0,1,5,36]),(6,[0,4]),(7,[0,1,6]),(8,[0,1,6]),(9,[0,4])] [] [] (Kr a0 a1) rfl rfl (by kernel_rfl)
def va (a0:(LB×Int)) (a1:Int):Int×Int:=ocR (Lr a0 a1)
def Fb (a0:(LB×Int)) (a1:Int):Prop:=Mr a0 a1
def Af:Spec:=⟨[.rdr,(.int .i64)],.one .fr (.int .i64),true,fun x=>va x.1 x.2.1,fun x=>Fb x.1 x.2.1⟩
theorem P4 (G:Good Tryz.prog tt jO):Con Tryz.prog 38 Af :=
 Pf (pts:=[.rdr,(.int .i64)]) (rt:=.one .fr (.int .i64)) (o:=fun x=>Lr x.1 x.2.1) (ob:=fun x=>Mr x.1 x.2.1) G (fn:=Tryz.f38) (c:=ia Tryz.f38) (by kernel_rfl) (by kernel_rfl) (by kernel_rfl) (rs:=[.tmp 4]) (fz:=F38.fz) (by kernel_rfl) (by kernel_rfl) (fun h=>Bool.noConfusion h) rfl (fun x=>x.1.1) (fun _=>rfl) (fun x=>kO x.1 x.2.1) (fun _=>⟨rfl,rfl,rfl,rfl,rfl⟩) (fun x _=>L4 G x.1 x.2.1)
abbrev V61:=(LB×Int)→Int→Plan×Int
abbrev Q61:=(LB×Int)→Int→Prop
def Nr (v:V61) (p:Q61):Spec:=⟨[.rdr,(.int .i64)],.one .fr (.st .plan),true,fun x=>v x.1 x.2.1,fun x=>p x.1 x.2.1⟩
def lO (r61V:V61) (r61P:Q61):SP:=[(38,Af),(61,Nr r61V r61P)]
abbrev F61:Fnn:=⟨[.cell 4 25],.one .fr (.st .plan),some 0,[]⟩
abbrev R4 (b:LB):Plan×Int→RV:=fun q=>(some (RT.av (.one .fr (.st .plan)) q.1),.box [(.sh,.lst .byte b),(.fr,.i q.2)])
abbrev T4 (fr:Fr) {A X Y Z:Type} (S:da (Plan×Int) A X Y Z):Prop:=ua Tryz.prog tt ⟨Tryz.f61.ntmps,some 0,[]⟩ fr (ia Tryz.f61) F61 S
def Zl (r61V:V61) (r61P:Q61) (a0:(LB×Int)) (a1:Int):Tr (Plan×Int) Empty Empty Empty Empty :=
 .k (va (a0.1,a0.2) 6) fun u1=>.w [(((!(cmp .lss a1 2))&&true)=true→(Fb (a0.1,a0.2) 6))] (.c (cond (cmp .lss a1 2) true (cmp .eql u1.1 0))
 (.k (va (a0.1,(cond ((!(cmp .lss a1 2))&&true) u1.2 a0.2)) 2) fun u3=>.w [(Fb (a0.1,(cond ((!(cmp .lss a1 2))&&true) u1.2 a0.2)) 2)] (.l (.r ((Plan.mk 1 u3.1 []),u3.2))))
 (.k (va (a0.1,(cond ((!(cmp .lss a1 2))&&true) u1.2 a0.2)) 6) fun u4=>.w [(Fb (a0.1,(cond ((!(cmp .lss a1 2))&&true) u1.2 a0.2)) 6)] (.c (cmp .eql u4.1 0)
 (.k (va (a0.1,u4.2) 7) fun u6=>.k (r61V (a0.1,u6.2) (ar .sub .i64 a1 1)) fun u7=>.w [(Fb (a0.1,u4.2) 7),(r61P (a0.1,u6.2) (ar .sub .i64 a1 1))] (.l (.r ((Plan.mk 2 (ar .add .i64 1 u6.1) [(Plan.mk u7.1.Kind u7.1.Num u7.1.Kids)]),u7.2))))
 (.c (cmp .eql u4.1 1)
 (.k (r61V (a0.1,u4.2) (ar .sub .i64 a1 1)) fun u9=>.k (r61V (a0.1,u9.2) (ar .sub .i64 a1 1)) fun u10=>.w [(r61P (a0.1,u4.2) (ar .sub .i64 a1 1)),(r61P (a0.1,u9.2) (ar .sub .i64 a1 1))] (.l (.r ((Plan.mk 3 0 [(Plan.mk u9.1.Kind u9.1.Num u9.1.Kids),(Plan.mk u10.1.Kind u10.1.Num u10.1.Kids)]),u10.2))))
 (.c (cmp .eql u4.1 2)
 (.k (r61V (a0.1,u4.2) (ar .sub .i64 a1 1)) fun u12=>.w [(r61P (a0.1,u4.2) (ar .sub .i64 a1 1))] (.l (.r ((Plan.mk 4 0 [(Plan.mk u12.1.Kind u12.1.Num u12.1.Kids)]),u12.2))))
 (.c (cmp .eql u4.1 3)
 (.k (r61V (a0.1,u4.2) (ar .sub .i64 a1 1)) fun u14=>.k (r61V (a0.1,u14.2) (ar .sub .i64 a1 1)) fun u15=>.w [(r61P (a0.1,u4.2) (ar .sub .i64 a1 1)),(r61P (a0.1,u14.2) (ar .sub .i64 a1 1))] (.l (.r ((Plan.mk 5 0 [(Plan.mk u14.1.Kind u14.1.Num u14.1.Kids),(Plan.mk u15.1.Kind u15.1.Num u15.1.Kids)]),u15.2))))
 (.k (va (a0.1,u4.2) 3) fun u16=>.k (r61V (a0.1,u16.2) (ar .sub .i64 a1 1)) fun u17=>.w [(Fb (a0.1,u4.2) 3),(r61P (a0.1,u16.2) (ar .sub .i64 a1 1))] (.l (.r ((Plan.mk 6 (ar .add .i64 1 u16.1) [(Plan.mk u17.1.Kind u17.1.Num u17.1.Kids)]),u17.2))))))))))
def Qi:=fun r61V r61P a0 a1=>(Zl r61V r61P a0 a1).val
def Ri:=fun r61V r61P a0 a1=>(Zl r61V r61P a0 a1).ob
def mO:=fun r61V r61P a0 a1=>da.mk (Qi r61V r61P a0 a1) (Ri r61V r61P a0 a1) [] [(0,.box [(.sh,.lst .byte a0.1),(.fr,.i a0.2)]),(1,.I a1)] (R4 a0.1) nE nE nE nE
theorem U4 {r61V:V61} {r61P:Q61} (G:Good Tryz.prog tt (lO r61V r61P)) {fr:Fr}:∀ a0 a1,T4 fr (mO r61V r61P a0 a1) :=
 fun a0 a1=>fa G [] trivial [(0,[0,1,4]),(1,[0,1,4,11]),(2,[0,4]),(3,[0,1,4,16]),(4,[0,1,4,16,17]),(5,[0,4]),(6,[0,1,4,16,28]),(7,[0,4]),(8,[0,1,4,16,40]),(9,[0,4]),(10,[0,1,4,48]),(11,[0,4]),(12,[0,4])] [] [] (Zl r61V r61P a0 a1) rfl rfl (by kernel_rfl)
theorem V4 {r61V:V61} {r61P:Q61} (G:Good Tryz.prog tt (lO r61V r61P)):Con Tryz.prog 61 (Nr (fun a0 a1=>ocR (Qi r61V r61P a0 a1)) (fun a0 a1=>Ri r61V r61P a0 a1)) :=
 Pf (pts:=[.rdr,(.int .i64)]) (rt:=.one .fr (.st .plan)) (o:=fun x=>Qi r61V r61P x.1 x.2.1) (ob:=fun x=>Ri r61V r61P x.1 x.2.1) G (fn:=Tryz.f61) (c:=ia Tryz.f61) (by kernel_rfl) (by kernel_rfl) (by kernel_rfl) (rs:=[.cell 4 25]) (fz:=F61.fz) (by kernel_rfl) (by kernel_rfl) (fun h=>Bool.noConfusion h) rfl (fun x=>x.1.1) (fun _=>rfl) (fun x=>mO r61V r61P x.1 x.2.1) (fun _=>⟨rfl,rfl,rfl,rfl,rfl⟩) (fun x _=>U4 G x.1 x.2.1)
def ld:Nat→V61×Q61
 | 0=>(fun _ _=>default,fun _ _=>False)
 | n+1=>(fun a0 a1=>ocR (Qi (ld n).1 (ld n).2 a0 a1),fun a0 a1=>Ri (ld n).1 (ld n).2 a0 a1)
def am:V61:=(ld Nc).1
def RF:Q61:=(ld Nc).2
def nO:Spec:=Nr am RF
def SF:SP:=[(61,nO),(38,Af)]
abbrev F36:Fnn:=⟨[.cell 2 25],.one .fr (.st .plan),some 0,[]⟩
abbrev oO (b:LB):Plan×Int→RV:=fun q=>(some (RT.av (.one .fr (.st .plan)) q.1),.box [(.sh,.lst .byte b),(.fr,.i q.2)])
abbrev pO (fr:Fr) {A X Y Z:Type} (S:da (Plan×Int) A X Y Z):Prop:=ua Tryz.prog tt ⟨Tryz.f36.ntmps,some 0,[]⟩ fr (ia Tryz.f36) F36 S
def Pr (x2:LB) (x3 x4 x5:Int) (x6:LP):Tr (Plan×Int) (Int×Int×Int) Empty Empty Empty :=
 .k (va (x2,x3) 24) fun u7=>.w [(Fb (x2,x3) 24)] (.c (cmp .eql u7.1 0)
 (.k (va (x2,u7.2) 9) fun u9=>.w [(Fb (x2,u7.2) 9)] (.l (.n (u9.2,(ar .sub .i64 u9.1 1),x5))))
 (.c (cmp .eql u7.1 1)
 (.l (.n (u7.2,x4,(ar .add .i64 x5 5))))
 (.c (cmp .eql u7.1 2)
 (.l (.r ((Plan.mk 4 0 [(Plan.mk x4 x5 x6),(Plan.mk x4 x5 x6)]),u7.2)))
 (.c (cmp .eql u7.1 3)
 (.l (.r ((Plan.mk 4 0 [(Plan.mk 4 0 [(Plan.mk x4 x5 x6)])]),u7.2)))
 (.l (.n (u7.2,x4,x5)))))))
def Qr:=fun x2 x3 x4 x5 x6=>(Pr x2 x3 x4 x5 x6).val
def UF:=fun x2 x3 x4 x5 x6=>(Pr x2 x3 x4 x5 x6).ob
def Rr:=fun x2 x3 x4 x5 x6=>da.mk (Qr x2 x3 x4 x5 x6) (UF x2 x3 x4 x5 x6) [0,1,1] [(0,.box [(.sh,.lst .byte x2),(.fr,.i x3)]),(2,.box [(.fr,.i 0),(.fr,.i 0),(.fr,.nl .plan)]),(3,.box [(.fr,.i x4),(.fr,.i x5),(.fr,.lst .plan x6)])] (oO x2) (fun q=>[(0,.box [(.sh,.lst .byte x2),(.fr,.i q.1)]),(2,.box [(.fr,.i 0),(.fr,.i 0),(.fr,.nl .plan)]),(3,.box [(.fr,.i q.2.1),(.fr,.i q.2.2),(.fr,.lst .plan x6)])]) nE nE nE
theorem X4 (G:Good Tryz.prog tt SF) {fr:Fr}:∀ x2 x3 x4 x5 x6,pO fr (Rr x2 x3 x4 x5 x6) :=
 fun x2 x3 x4 x5 x6=>fa G [] trivial [(2,[0,2,3,7]),(3,[0,2,3,7,8]),(4,[0,2,3]),(5,[0,2,3,7,14]),(6,[0,2,3]),(7,[0,2,3,7,20]),(8,[0,2]),(9,[0,2,3,26]),(10,[0,2])] [] [] (Pr x2 x3 x4 x5 x6) rfl rfl (by kernel_rfl)
def Ur (a0:(LB×Int)):Tr (Plan×Int) Empty Empty Empty Empty :=
 .k (am (a0.1,a0.2) 4) fun u1=>.w [(RF (a0.1,a0.2) 4)] (.s (Rr a0.1 u1.2 u1.1.Kind u1.1.Num u1.1.Kids) (fun q16=>.l (.r ((Plan.mk q16.2.1 q16.2.2 u1.1.Kids),q16.1))) nE nE nE)
def Vr:=fun a0=>(Ur a0).val
def Wr:=fun a0=>(Ur a0).ob
def qO:=fun a0=>da.mk (Vr a0) (Wr a0) [] [(0,.box [(.sh,.lst .byte a0.1),(.fr,.i a0.2)])] (oO a0.1) nE nE nE nE
theorem Y4 (G:Good Tryz.prog tt SF) {fr:Fr}:∀ a0,pO fr (qO a0) :=
 fun a0=>fa G [([0,1,1],fun e=>⟨Rr (gL .byte e 0 0) (gI e 0 1) (gI e 3 0) (gI e 3 1) (gL .plan e 3 2)⟩)] ⟨fun _=>⟨rfl,X4 G _ _ _ _ _⟩,trivial⟩ [(0,[0,2]),(1,[0,2,3]),(11,[0,2])] [] [] (Ur a0) rfl rfl (by kernel_rfl)
def Ue (a0:(LB×Int)):Plan×Int:=ocR (Vr a0)
def bm (a0:(LB×Int)):Prop:=Wr a0
def VF:Spec:=⟨[.rdr],.one .fr (.st .plan),true,fun x=>Ue x.1,fun x=>bm x.1⟩
theorem Z4 (G:Good Tryz.prog tt SF):Con Tryz.prog 36 VF :=
 Pf (pts:=[.rdr]) (rt:=.one .fr (.st .plan)) (o:=fun x=>Vr x.1) (ob:=fun x=>Wr x.1) G (fn:=Tryz.f36) (c:=ia Tryz.f36) (by kernel_rfl) (by kernel_rfl) (by kernel_rfl) (rs:=[.cell 2 25]) (fz:=F36.fz) (by kernel_rfl) (by kernel_rfl) (fun h=>Bool.noConfusion h) rfl (fun x=>x.1.1) (fun _=>rfl) (fun x=>qO x.1) (fun _=>⟨rfl,rfl,rfl,rfl,rfl⟩) (fun x _=>Y4 G x.1)
def rO:SP:=[(38,Af)]
abbrev F80:Fnn:=⟨[.cell 2 38],.one .fr (.st .time),some 0,[]⟩
abbrev j5 (b:LB):Time×Int→RV:=fun q=>(some (RT.av (.one .fr (.st .time)) q.1),.box [(.sh,.lst .byte b),(.fr,.i q.2)])
abbrev l5 (fr:Fr) {A X Y Z:Type} (S:da (Time×Int) A X Y Z):Prop:=ua Tryz.prog tt ⟨Tryz.f80.ntmps,some 0,[]⟩ fr (ia Tryz.f80) F80 S
def Xr (a0:(LB×Int)):Tr (Time×Int) Empty Empty Empty Empty :=
 .k (va (a0.1,a0.2) 10) fun u1=>.w [(Fb (a0.1,a0.2) 10)] (.c (cmp .eql u1.1 0)
 (.k (va (a0.1,u1.2) 8) fun u3=>.k (va (a0.1,u3.2) 8) fun u4=>.w [(Fb (a0.1,u1.2) 8),(Fb (a0.1,u3.2) 8)] (.l (.r ((Time.mk u3.1 u4.1),u4.2))))
 (.k (va (a0.1,u1.2) 4) fun u5=>.k (va (a0.1,u5.2) 4) fun u6=>.w [(Fb (a0.1,u1.2) 4),(Fb (a0.1,u5.2) 4)] (.l (.r ((Time.mk u5.1 u6.1),u6.2)))))
def Yr:=fun a0=>(Xr a0).val
def Zr:=fun a0=>(Xr a0).ob
def sO:=fun a0=>da.mk (Yr a0) (Zr a0) [] [(0,.box [(.sh,.lst .byte a0.1),(.fr,.i a0.2)])] (j5 a0.1) nE nE nE nE
theorem n5 (G:Good Tryz.prog tt rO) {fr:Fr}:∀ a0,l5 fr (sO a0) :=
 fun a0=>fa G [] trivial [(0,[0,2]),(1,[0,2,5]),(2,[0,2]),(3,[0,2])] [] [] (Xr a0) rfl rfl (by kernel_rfl)
def es (a0:(LB×Int)):Time×Int:=ocR (Yr a0)
def js (a0:(LB×Int)):Prop:=Zr a0
def WF:Spec:=⟨[.rdr],.one .fr (.st .time),true,fun x=>es x.1,fun x=>js x.1⟩
theorem w5 (G:Good Tryz.prog tt rO):Con Tryz.prog 80 WF :=
 Pf (pts:=[.rdr]) (rt:=.one .fr (.st .time)) (o:=fun x=>Yr x.1) (ob:=fun x=>Zr x.1) G (fn:=Tryz.f80) (c:=ia Tryz.f80) (by kernel_rfl) (by kernel_rfl) (by kernel_rfl) (rs:=[.cell 2 38]) (fz:=F80.fz) (by kernel_rfl) (by kernel_rfl) (fun h=>Bool.noConfusion h) rfl (fun x=>x.1.1) (fun _=>rfl) (fun x=>sO x.1) (fun _=>⟨rfl,rfl,rfl,rfl,rfl⟩) (fun x _=>n5 G x.1)
def tO:SP:=[(38,Af),(80,WF)]
abbrev F91:Fnn:=⟨[.cell 2 44],.one .fr (.st .row),some 0,[]⟩
abbrev A5 (b:LB):Row×Int→RV:=fun q=>(some (RT.av (.one .fr (.st .row)) q.1),.box [(.sh,.lst .byte b),(.fr,.i q.2)])
abbrev B5 (fr:Fr) {A X Y Z:Type} (S:da (Row×Int) A X Y Z):Prop:=ua Tryz.prog tt ⟨Tryz.f91.ntmps,some 0,[]⟩ fr (ia Tryz.f91) F91 S
def ns (a0:(LB×Int)):Tr (Row×Int) Empty Empty Empty Empty :=
 .k (va (a0.1,a0.2) 4) fun u1=>.k (va (a0.1,u1.2) 9) fun u2=>.k (es (a0.1,u2.2)) fun u3=>.k (va (a0.1,u3.2) 8) fun u4=>.w [(Fb (a0.1,a0.2) 4),(Fb (a0.1,u1.2) 9),inb u2.1 (aa .int [0,1,2,3,4,9,10,57,99]),(js (a0.1,u2.2)),(Fb (a0.1,u3.2) 8),inb u4.1 (aa .int [1,1,1,2,(-1),(-1),3,0])] (.l (.r ((Row.mk u1.1 (rd .int [0,1,2,3,4,9,10,57,99] u2.1) u3.1 (rd .int [1,1,1,2,(-1),(-1),3,0] u4.1)),u4.2)))
def qs:=fun a0=>(ns a0).val
def ws:=fun a0=>(ns a0).ob
def uO:=fun a0=>da.mk (qs a0) (ws a0) [] [(0,.box [(.sh,.lst .byte a0.1),(.fr,.i a0.2)])] (A5 a0.1) nE nE nE nE
theorem C5 (G:Good Tryz.prog tt tO) {fr:Fr}:∀ a0,B5 fr (uO a0) :=
 fun a0=>fa G [] trivial [(0,[0,2]),(1,[0,2])] [] [] (ns a0) rfl rfl (by kernel_rfl)
def Ve (a0:(LB×Int)):Row×Int:=ocR (qs a0)
def cm (a0:(LB×Int)):Prop:=ws a0
def As:Spec:=⟨[.rdr],.one .fr (.st .row),true,fun x=>Ve x.1,fun x=>cm x.1⟩
theorem D5 (G:Good Tryz.prog tt tO):Con Tryz.prog 91 As :=
 Pf (pts:=[.rdr]) (rt:=.one .fr (.st .row)) (o:=fun x=>qs x.1) (ob:=fun x=>ws x.1) G (fn:=Tryz.f91) (c:=ia Tryz.f91) (by kernel_rfl) (by kernel_rfl) (by kernel_rfl) (rs:=[.cell 2 44]) (fz:=F91.fz) (by kernel_rfl) (by kernel_rfl) (fun h=>Bool.noConfusion h) rfl (fun x=>x.1.1) (fun _=>rfl) (fun x=>uO x.1) (fun _=>⟨rfl,rfl,rfl,rfl,rfl⟩) (fun x _=>C5 G x.1)
def Kh:SP:=[(38,Af),(91,As)]
abbrev F63:Fnn:=⟨[.tmp 4],.one (.acc true) (.lst .row),some 0,[]⟩
abbrev dm (b:LB):LR×Int→RV:=fun q=>(some (RT.av (.one (.acc true) (.lst .row)) q.1),.box [(.sh,.lst .byte b),(.fr,.i q.2)])
abbrev Si (fr:Fr) {A X Y Z:Type} (S:da (LR×Int) A X Y Z):Prop:=ua Tryz.prog tt ⟨Tryz.f63.ntmps,some 0,[]⟩ fr (ia Tryz.f63) F63 S
def Cs (x48:LB) (x49:Int) (x50:LR) (_x51:Int) (x52:Row):Tr (LR×Int) (Int×Int×Int×Int) Empty Empty Empty :=
 .k (va (x48,x49) 3) fun u53=>.w [(((cmp .gtr (aa .row x50) 0)&&true)=true→(Fb (x48,x49) 3))] (.c (cond (cmp .gtr (aa .row x50) 0) (cmp .eql u53.1 0) false)
 (.k (va (x48,(cond ((cmp .gtr (aa .row x50) 0)&&true) u53.2 x49)) (aa .row x50)) fun u55=>.w [(Fb (x48,(cond ((cmp .gtr (aa .row x50) 0)&&true) u53.2 x49)) (aa .row x50)),inb u55.1 (aa .row x50)] (.k (va (x48,u55.2) 2) fun u56=>.w [(Fb (x48,u55.2) 2)] (.c (cmp .eql u56.1 0)
 (.l (.n (u56.2,(rd .row x50 u55.1).Key,(rd .row x50 u55.1).Val,(IntKind.wrap .i64 (0 - (rd .row x50 u55.1).Diff)))))
 (.l (.n (u56.2,(rd .row x50 u55.1).Key,(rd .row x50 u55.1).Val,x52.Diff))))))
 (.l (.n ((cond ((cmp .gtr (aa .row x50) 0)&&true) u53.2 x49),x52.Key,x52.Val,x52.Diff))))
def XF:=fun x48 x49 x50 x51 x52=>(Cs x48 x49 x50 x51 x52).val
def Ds:=fun x48 x49 x50 x51 x52=>(Cs x48 x49 x50 x51 x52).ob
def Es:=fun x48 x49 x50 x51 x52=>da.mk (XF x48 x49 x50 x51 x52) (Ds x48 x49 x50 x51 x52) [0,1,0,0,1,0,0,1,0,1,1] [(0,.box [(.sh,.lst .byte x48),(.fr,.i x49)]),(5,.A .row x50),(6,.I x51),(7,.box [(.fr,.i x52.Key),(.fr,.i x52.Val),(.fr,.i x52.At.A),(.fr,.i x52.At.B),(.fr,.i x52.Diff)])] (dm x48) (fun q=>[(0,.box [(.sh,.lst .byte x48),(.fr,.i q.1)]),(5,.A .row x50),(6,.I x51),(7,.box [(.fr,.i q.2.1),(.fr,.i q.2.2.1),(.fr,.i x52.At.A),(.fr,.i x52.At.B),(.fr,.i q.2.2.2)])]) nE nE nE
theorem E5 (G:Good Tryz.prog tt Kh) {fr:Fr}:∀ x48 x49 x50 x51 x52,Si fr (Es x48 x49 x50 x51 x52) :=
 fun x48 x49 x50 x51 x52=>fa G [] trivial [(6,[0,5,6,7,27]),(7,[0,5,6,7,8]),(8,[0,5,6,7,8]),(9,[0,5,6,7,8]),(10,[0,5,6,7,8,43]),(11,[0,5,6,7])] [] [] (Cs x48 x49 x50 x51 x52) rfl rfl (by kernel_rfl)
def Fs (x43:LB) (x44:Int) (x45:LR) (x46:Int):Tr (LR×Int) (Int×LR) Empty Empty Empty :=
 .k (Ve (x43,x44)) fun u47=>.w [(cm (x43,x44))] (.s (Es x43 u47.2 x45 x46 u47.1) (fun q62=>.w [lim (aa .row x45) (aa .row [(Row.mk q62.2.1 q62.2.2.1 u47.1.At q62.2.2.2)])] (.l (.n (q62.1,(x45++[(Row.mk q62.2.1 q62.2.2.1 u47.1.At q62.2.2.2)]))))) nE nE nE)
def vO:=fun x43 x44 x45 x46=>(Fs x43 x44 x45 x46).val
def wO:=fun x43 x44 x45 x46=>(Fs x43 x44 x45 x46).ob
def em:=fun x43 x44 x45 x46=>da.mk (vO x43 x44 x45 x46) (wO x43 x44 x45 x46) [0,1,0,0,1,0,1,1] [(0,.box [(.sh,.lst .byte x43),(.fr,.i x44)]),(5,.A .row x45),(6,.I x46)] (dm x43) (fun q=>[(0,.box [(.sh,.lst .byte x43),(.fr,.i q.1)]),(5,.A .row q.2),(6,.I x46)]) nE nE nE
theorem G5 (G:Good Tryz.prog tt Kh) {fr:Fr}:∀ x43 x44 x45 x46,Si fr (em x43 x44 x45 x46) :=
 fun x43 x44 x45 x46=>fa G [([0,1,0,0,1,0,0,1,0,1,1],fun e=>⟨Es (gL .byte e 0 0) (gI e 0 1) (gL .row e 5 0) (gI e 6 0) (gRow e 7)⟩)] ⟨fun _=>⟨rfl,E5 G _ _ _ _ _⟩,trivial⟩ [(5,[0,5,6,7]),(12,[0,5,6])] [] [] (Fs x43 x44 x45 x46) rfl rfl (by kernel_rfl)
def fm (x5:LB) (_x6 _x7 s39:Int) (s40:LR) (s41:Int):Tr (LR×Int) (Int×LR×Int) (Int×LR) Empty Empty :=
 .c (cmp .gtr s41 0)
 (.s (em x5 s39 s40 s41) (fun q68=>.l (.n (q68.1,q68.2,(ar .sub .i64 s41 1)))) nE nE nE)
 (.l (.x (s39,s40)))
def Ti:=fun x5 x6 x7 s39 s40 s41=>(fm x5 x6 x7 s39 s40 s41).val
def gm:=fun x5 x6 x7 s39 s40 s41=>(fm x5 x6 x7 s39 s40 s41).ob
def YF:=fun x5 x6 x7 s39 s40 s41=>Na (Ti x5 x6 x7 s39 s40 s41) (gm x5 x6 x7 s39 s40 s41) [0,0,1,0,1,1] (fun q=>[(0,.box [(.sh,.lst .byte x5),(.fr,.i q.1)]),(5,.A .row q.2.1),(6,.I q.2.2)]) (s39,s40,s41) (dm x5) (fun q=>(0,[(0,.box [(.sh,.lst .byte x5),(.fr,.i q.1)]),(5,.A .row q.2)])) nE nE
theorem H5 (G:Good Tryz.prog tt Kh) {fr:Fr}:∀ x5 x6 x7 s39 s40 s41,Si fr (YF x5 x6 x7 s39 s40 s41) :=
 fun x5 x6 x7 s39 s40 s41=>fa G [([0,1,0,0,1,0,1,1],fun e=>⟨em (gL .byte e 0 0) (gI e 0 1) (gL .row e 5 0) (gI e 6 0)⟩)] ⟨fun _=>⟨rfl,G5 G _ _ _ _⟩,trivial⟩ [(3,[0,5,6,15]),(4,[0,5,6])] [] [] (fm x5 x6 x7 s39 s40 s41) rfl rfl (by kernel_rfl)
def xO:=fun x5 x6 x7=>lpV (fun s:Int×LR×Int=>ca (Ti x5 x6 x7 s.1 s.2.1 s.2.2)) (x6,[],x7)
def yO:=fun x5 x6 x7=>LpT (fun s:Int×LR×Int=>ca (Ti x5 x6 x7 s.1 s.2.1 s.2.2)) (fun s=>gm x5 x6 x7 s.1 s.2.1 s.2.2) (x6,[],x7)
def Gs:=fun x5 x6 x7=>lpS (YF x5 x6 x7 x6 [] x7) (xO x5 x6 x7) (yO x5 x6 x7)
theorem I5 (G:Good Tryz.prog tt Kh) {fr:Fr}:∀ x5 x6 x7,Si fr (Gs x5 x6 x7) :=
 fun x5 x6 x7=>Oa (fun s:Int×LR×Int=>YF x5 x6 x7 s.1 s.2.1 s.2.2) (x6,[],x7) (fun _=>rfl) (fun _=>⟨rfl,rfl,rfl,rfl,rfl⟩) (by kernel_rfl) fun _=>H5 G _ _ _ _ _ _
def Hs (x1:LB) (x2 x3:Int):Tr (LR×Int) (Int×LR) Empty Empty Empty :=
 .k (va (x1,x2) (ar .add .i64 x3 1)) fun u4=>.w [(Fb (x1,x2) (ar .add .i64 x3 1))] (.s (Gs x1 u4.2 u4.1) nE (fun q82=>.l (.n (q82.1,q82.2))) nE nE)
def zO:=fun x1 x2 x3=>(Hs x1 x2 x3).val
def AO:=fun x1 x2 x3=>(Hs x1 x2 x3).ob
def Is:=fun x1 x2 x3=>da.mk (zO x1 x2 x3) (AO x1 x2 x3) [0,1,1] [(0,.box [(.sh,.lst .byte x1),(.fr,.i x2)]),(1,.I x3),(5,.A .row [])] (dm x1) (fun q=>[(0,.box [(.sh,.lst .byte x1),(.fr,.i q.1)]),(5,.A .row q.2)]) nE nE nE
theorem L5 (G:Good Tryz.prog tt Kh) {fr:Fr}:∀ x1 x2 x3,Si fr (Is x1 x2 x3) :=
 fun x1 x2 x3=>fa G [([0,1,0,1,1],fun e=>⟨Gs (gL .byte e 0 0) (gI e 0 1) (gI e 6 0)⟩)] ⟨fun _=>⟨rfl,I5 G _ _ _⟩,trivial⟩ [(2,[0,5,6])] [] [] (Hs x1 x2 x3) rfl rfl (by kernel_rfl)
def Js (a0:(LB×Int)) (a1:Int):Tr (LR×Int) Empty Empty Empty Empty :=
 .s (Is a0.1 a0.2 a1) (fun q86=>.l (.r (q86.2,q86.1))) nE nE nE
def Ks:=fun a0 a1=>(Js a0 a1).val
def Ls:=fun a0 a1=>(Js a0 a1).ob
def BO:=fun a0 a1=>da.mk (Ks a0 a1) (Ls a0 a1) [] [(0,.box [(.sh,.lst .byte a0.1),(.fr,.i a0.2)]),(1,.I a1)] (dm a0.1) nE nE nE nE
theorem O5 (G:Good Tryz.prog tt Kh) {fr:Fr}:∀ a0 a1,Si fr (BO a0 a1) :=
 fun a0 a1=>fa G [([0,1,1],fun e=>⟨Is (gL .byte e 0 0) (gI e 0 1) (gI e 1 0)⟩)] ⟨fun _=>⟨rfl,L5 G _ _ _⟩,trivial⟩ [(0,[0,1]),(1,[0,1,5]),(13,[0,4])] [] [] (Js a0 a1) rfl rfl (by kernel_rfl)
def Bf (a0:(LB×Int)) (a1:Int):LR×Int:=ocR (Ks a0 a1)
def im (a0:(LB×Int)) (a1:Int):Prop:=Ls a0 a1
def Ms:Spec:=⟨[.rdr,(.int .i64)],.one (.acc true) (.lst .row),true,fun x=>Bf x.1 x.2.1,fun x=>im x.1 x.2.1⟩
theorem P5 (G:Good Tryz.prog tt Kh):Con Tryz.prog 63 Ms :=
 Pf (pts:=[.rdr,(.int .i64)]) (rt:=.one (.acc true) (.lst .row)) (o:=fun x=>Ks x.1 x.2.1) (ob:=fun x=>Ls x.1 x.2.1) G (fn:=Tryz.f63) (c:=ia Tryz.f63) (by kernel_rfl) (by kernel_rfl) (by kernel_rfl) (rs:=[.tmp 4]) (fz:=F63.fz) (by kernel_rfl) (by kernel_rfl) (fun h=>Bool.noConfusion h) rfl (fun x=>x.1.1) (fun _=>rfl) (fun x=>BO x.1 x.2.1) (fun _=>⟨rfl,rfl,rfl,rfl,rfl⟩) (fun x _=>O5 G x.1 x.2.1)
def CO:SP:=[]
abbrev F53:Fnn:=⟨[.tmp 6],.one .fr .bool,none,[]⟩
abbrev R5:Bool→RV:=fun q=>(some (RT.av (.one .fr .bool) q),.dead)
abbrev T5 (fr:Fr) {A X Y Z:Type} (S:da Bool A X Y Z):Prop:=ua Tryz.prog tt ⟨Tryz.f53.ntmps,none,[]⟩ fr (ia Tryz.f53) F53 S
def ZF (a0 a1 a2:Int):Tr Bool Empty Empty Empty Empty :=
 .l (.r (cond (cmp .geq a0 a1) (cmp .leq a0 a2) false))
def aG:=fun a0 a1 a2=>(ZF a0 a1 a2).val
def bG:=fun a0 a1 a2=>(ZF a0 a1 a2).ob
def DO:=fun a0 a1 a2=>da.mk (aG a0 a1 a2) (bG a0 a1 a2) [] [(0,.I a0),(1,.I a1),(2,.I a2)] R5 nE nE nE nE
theorem U5 (G:Good Tryz.prog tt CO) {fr:Fr}:∀ a0 a1 a2,T5 fr (DO a0 a1 a2) :=
 fun a0 a1 a2=>fa G [] trivial [(0,[0,1,2]),(1,[6])] [] [] (ZF a0 a1 a2) rfl rfl (by kernel_rfl)
def Md (a0:Int) (a1:Int) (a2:Int):Bool:=ocR (aG a0 a1 a2)
def Zf (a0:Int) (a1:Int) (a2:Int):Prop:=bG a0 a1 a2
def jm:Spec:=⟨[(.int .i64),(.int .i64),(.int .i64)],.one .fr .bool,false,fun x=>(Md x.1 x.2.1 x.2.2.1,0),fun x=>Zf x.1 x.2.1 x.2.2.1⟩
theorem X5 (G:Good Tryz.prog tt CO):Con Tryz.prog 53 jm :=
 Ca (pts:=[(.int .i64),(.int .i64),(.int .i64)]) (rt:=.one .fr .bool) (o:=fun x=>aG x.1 x.2.1 x.2.2.1) (ob:=fun x=>bG x.1 x.2.1 x.2.2.1) G (fn:=Tryz.f53) (c:=ia Tryz.f53) (by kernel_rfl) (by kernel_rfl) (by kernel_rfl) (rs:=[.tmp 6]) (fz:=F53.fz) (by kernel_rfl) (by kernel_rfl) (fun _=>rfl) rfl (fun x=>DO x.1 x.2.1 x.2.2.1) (fun _=>⟨rfl,rfl,rfl,rfl,rfl⟩) (fun x _=>U5 G x.1 x.2.1 x.2.2.1)
def EO:SP:=[(53,jm)]
abbrev F24:Fnn:=⟨[.tmp 2],.one .fr .bool,none,[]⟩
abbrev Y5:Bool→RV:=fun q=>(some (RT.av (.one .fr .bool) q),.dead)
abbrev Z5 (fr:Fr) {A X Y Z:Type} (S:da Bool A X Y Z):Prop:=ua Tryz.prog tt ⟨Tryz.f24.ntmps,none,[]⟩ fr (ia Tryz.f24) F24 S
def cG (a0:Time):Tr Bool Empty Empty Empty Empty :=
 .k (Md a0.A 0 7) fun u1=>.w [(Zf a0.A 0 7),((u1&&true)=true→(Zf a0.B 0 7))] (.l (.r (cond u1 (Md a0.B 0 7) false)))
def dG:=fun a0=>(cG a0).val
def eG:=fun a0=>(cG a0).ob
def FO:=fun a0=>da.mk (dG a0) (eG a0) [] [(0,.agg true [.i a0.A,.i a0.B])] Y5 nE nE nE nE
theorem d6 (G:Good Tryz.prog tt EO) {fr:Fr}:∀ a0,Z5 fr (FO a0) :=
 fun a0=>fa G [] trivial [(0,[1]),(1,[2])] [] [] (cG a0) rfl rfl (by kernel_rfl)
def je (a0:Time):Bool:=ocR (dG a0)
def Lg (a0:Time):Prop:=eG a0
def Ui:Spec:=⟨[(.st .time)],.one .fr .bool,false,fun x=>(je x.1,0),fun x=>Lg x.1⟩
theorem i6 (G:Good Tryz.prog tt EO):Con Tryz.prog 24 Ui :=
 Ca (pts:=[(.st .time)]) (rt:=.one .fr .bool) (o:=fun x=>dG x.1) (ob:=fun x=>eG x.1) G (fn:=Tryz.f24) (c:=ia Tryz.f24) (by kernel_rfl) (by kernel_rfl) (by kernel_rfl) (rs:=[.tmp 2]) (fz:=F24.fz) (by kernel_rfl) (by kernel_rfl) (fun _=>rfl) rfl (fun x=>FO x.1) (fun _=>⟨rfl,rfl,rfl,rfl,rfl⟩) (fun x _=>d6 G x.1)
def GO:SP:=[(53,jm),(24,Ui)]
abbrev F52:Fnn:=⟨[.tmp 2],.one .fr .bool,none,[]⟩
abbrev j6:Bool→RV:=fun q=>(some (RT.av (.one .fr .bool) q),.dead)
abbrev l6 (fr:Fr) {A X Y Z:Type} (S:da Bool A X Y Z):Prop:=ua Tryz.prog tt ⟨Tryz.f52.ntmps,none,[]⟩ fr (ia Tryz.f52) F52 S
def fG (a0:Row):Tr Bool Empty Empty Empty Empty :=
 .k (Md a0.Key 0 3) fun u1=>.k (Md a0.Val 0 99) fun u2=>.k (je a0.At) fun u3=>.w [(Zf a0.Key 0 3),((u1&&true)=true→(Zf a0.Val 0 99)),(((cond u1 u2 false)&&true)=true→(Lg a0.At)),(((cond (cond u1 u2 false) u3 false)&&true)=true→(Zf a0.Diff (-99999) 99999))] (.l (.r (cond (cond (cond u1 u2 false) u3 false) (Md a0.Diff (-99999) 99999) false)))
def gG:=fun a0=>(fG a0).val
def iG:=fun a0=>(fG a0).ob
def JO:=fun a0=>da.mk (gG a0) (iG a0) [] [(0,.agg true [.i a0.Key,.i a0.Val,.i a0.At.A,.i a0.At.B,.i a0.Diff])] j6 nE nE nE nE
theorem m6 (G:Good Tryz.prog tt GO) {fr:Fr}:∀ a0,l6 fr (JO a0) :=
 fun a0=>fa G [] trivial [(0,[1]),(1,[2])] [] [] (fG a0) rfl rfl (by kernel_rfl)
def jG (a0:Row):Bool:=ocR (gG a0)
def kG (a0:Row):Prop:=iG a0
def lG:Spec:=⟨[(.st .row)],.one .fr .bool,false,fun x=>(jG x.1,0),fun x=>kG x.1⟩
theorem t6 (G:Good Tryz.prog tt GO):Con Tryz.prog 52 lG :=
 Ca (pts:=[(.st .row)]) (rt:=.one .fr .bool) (o:=fun x=>gG x.1) (ob:=fun x=>iG x.1) G (fn:=Tryz.f52) (c:=ia Tryz.f52) (by kernel_rfl) (by kernel_rfl) (by kernel_rfl) (rs:=[.tmp 2]) (fz:=F52.fz) (by kernel_rfl) (by kernel_rfl) (fun _=>rfl) rfl (fun x=>JO x.1) (fun _=>⟨rfl,rfl,rfl,rfl,rfl⟩) (fun x _=>m6 G x.1)
def km:SP:=[(52,lG)]
abbrev F23:Fnn:=⟨[.tmp 2],.one .fr .bool,none,[]⟩
abbrev mG:Bool→RV:=fun q=>(some (RT.av (.one .fr .bool) q),.dead)
abbrev Ns (fr:Fr) {A X Y Z:Type} (S:da Bool A X Y Z):Prop:=ua Tryz.prog tt ⟨Tryz.f23.ntmps,none,[]⟩ fr (ia Tryz.f23) F23 S
def lm (x3:LR) (s8:Int):Tr Bool Int Unit Empty Empty :=
 .c (cmp .lss s8 (aa .row x3))
 (.w [inb s8 (aa .row x3),(kG (rd .row x3 s8))] (.c (!(jG (rd .row x3 s8)))
 (.l (.r false))
 (.l (.n (ar .add .i64 s8 1)))))
 (.l (.x ()))
def Vi:=fun x3 s8=>(lm x3 s8).val
def mm:=fun x3 s8=>(lm x3 s8).ob
def nG:=fun x3 s8=>Na (Vi x3 s8) (mm x3 s8) [0,0,1,0,1,1] (fun q=>[(0,.S .row x3),(3,.I q)]) s8 mG (fun _=>(0,[])) nE nE
theorem v6 (G:Good Tryz.prog tt km) {fr:Fr}:∀ x3 s8,Ns fr (nG x3 s8) :=
 fun x3 s8=>fa G [] trivial [(4,[0,3,10]),(5,[0,3]),(6,[0,3,18]),(7,[2])] [] [] (lm x3 s8) rfl rfl (by kernel_rfl)
def LO:=fun x3=>lpV (fun s:Int=>ca (Vi x3 s)) 0
def MO:=fun x3=>LpT (fun s:Int=>ca (Vi x3 s)) (fun s=>mm x3 s) 0
def Ps:=fun x3=>lpS (nG x3 0) (LO x3) (MO x3)
theorem w6 (G:Good Tryz.prog tt km) {fr:Fr}:∀ x3,Ns fr (Ps x3) :=
 fun x3=>Oa (fun s:Int=>nG x3 s) 0 (fun _=>rfl) (fun _=>⟨rfl,rfl,rfl,rfl,rfl⟩) (by kernel_rfl) fun _=>v6 G _ _
def Qs (x2:LR):Tr Bool Unit Empty Empty Empty :=
 .s (Ps x2) nE (fun _=>.l (.n ())) nE nE
def NO:=fun x2=>(Qs x2).val
def OO:=fun x2=>(Qs x2).ob
def Rs:=fun x2=>da.mk (NO x2) (OO x2) [0,1,1] [(0,.S .row x2)] mG (fun _=>[]) nE nE nE
theorem z6 (G:Good Tryz.prog tt km) {fr:Fr}:∀ x2,Ns fr (Rs x2) :=
 fun x2=>fa G [([0,1,0,1,1],fun e=>⟨Ps (gL .row e 0 0)⟩)] ⟨fun _=>⟨rfl,w6 G _⟩,trivial⟩ [(3,[0,3])] [] [] (Qs x2) rfl rfl (by kernel_rfl)
def Ss (a0:LR):Tr Bool Empty Empty Empty Empty :=
 .c (cmp .gtr (aa .row a0) 400)
 (.l (.r false))
 (.s (Rs a0) (fun _=>.l (.r true)) nE nE nE)
def Ts:=fun a0=>(Ss a0).val
def Us:=fun a0=>(Ss a0).ob
def PO:=fun a0=>da.mk (Ts a0) (Us a0) [] [(0,.S .row a0)] mG nE nE nE nE
theorem A6 (G:Good Tryz.prog tt km) {fr:Fr}:∀ a0,Ns fr (PO a0) :=
 fun a0=>fa G [([0,1,1],fun e=>⟨Rs (gL .row e 0 0)⟩)] ⟨fun _=>⟨rfl,z6 G _⟩,trivial⟩ [(0,[0]),(1,[0,6]),(2,[2]),(8,[2])] [] [] (Ss a0) rfl rfl (by kernel_rfl)
def bg (a0:LR):Bool:=ocR (Ts a0)
def Mg (a0:LR):Prop:=Us a0
def Lh:Spec:=⟨[(.lst .row)],.one .fr .bool,false,fun x=>(bg x.1,0),fun x=>Mg x.1⟩
theorem B6 (G:Good Tryz.prog tt km):Con Tryz.prog 23 Lh :=
 Ca (pts:=[(.lst .row)]) (rt:=.one .fr .bool) (o:=fun x=>Ts x.1) (ob:=fun x=>Us x.1) G (fn:=Tryz.f23) (c:=ia Tryz.f23) (by kernel_rfl) (by kernel_rfl) (by kernel_rfl) (rs:=[.tmp 2]) (fz:=F23.fz) (by kernel_rfl) (by kernel_rfl) (fun _=>rfl) rfl (fun x=>PO x.1) (fun _=>⟨rfl,rfl,rfl,rfl,rfl⟩) (fun x _=>A6 G x.1)
def nm:SP:=[]
abbrev F66:Fnn:=⟨[.tmp 4],.one .fr (.int .i64),none,[]⟩
abbrev oG:Int→RV:=fun q=>(some (RT.av (.one .fr (.int .i64)) q),.dead)
abbrev Vs (fr:Fr) {A X Y Z:Type} (S:da Int A X Y Z):Prop:=ua Tryz.prog tt ⟨Tryz.f66.ntmps,none,[]⟩ fr (ia Tryz.f66) F66 S
def Mh (x3 x4:LB) (s9:Int):Tr Int Int Unit Empty Empty :=
 .c (cmp .lss s9 (aa .int x3))
 (.w [inb s9 (aa .int x3),inb s9 (aa .int x4)] (.c (cmp .lss (rd .int x3 s9) (rd .int x4 s9))
 (.l (.r (-1)))
 (.w [inb s9 (aa .int x3),inb s9 (aa .int x4)] (.c (cmp .gtr (rd .int x3 s9) (rd .int x4 s9))
 (.l (.r 1))
 (.l (.n (ar .add .i64 s9 1)))))))
 (.l (.x ()))
def cg:=fun x3 x4 s9=>(Mh x3 x4 s9).val
def om:=fun x3 x4 s9=>(Mh x3 x4 s9).ob
def pG:=fun x3 x4 s9=>Na (cg x3 x4 s9) (om x3 x4 s9) [0,0,1,0,1,1,1] (fun q=>[(5,.A .int x3),(6,.A .int x4),(7,.I q)]) s9 oG (fun _=>(0,[])) nE nE
theorem C6 (G:Good Tryz.prog tt nm) {fr:Fr}:∀ x3 x4 s9,Vs fr (pG x3 x4 s9) :=
 fun x3 x4 s9=>fa G [] trivial [(4,[5,6,7,33]),(5,[5,6,7]),(6,[5,6,7,44]),(7,[4]),(8,[5,6,7,53]),(9,[4])] [] [] (Mh x3 x4 s9) rfl rfl (by kernel_rfl)
def QO:=fun x3 x4=>lpV (fun s:Int=>ca (cg x3 x4 s)) 0
def RO:=fun x3 x4=>LpT (fun s:Int=>ca (cg x3 x4 s)) (fun s=>om x3 x4 s) 0
def Ws:=fun x3 x4=>lpS (pG x3 x4 0) (QO x3 x4) (RO x3 x4)
theorem D6 (G:Good Tryz.prog tt nm) {fr:Fr}:∀ x3 x4,Vs fr (Ws x3 x4) :=
 fun x3 x4=>Oa (fun s:Int=>pG x3 x4 s) 0 (fun _=>rfl) (fun _=>⟨rfl,rfl,rfl,rfl,rfl⟩) (by kernel_rfl) fun _=>C6 G _ _ _
def Xs (x1 x2:LB):Tr Int Unit Empty Empty Empty :=
 .s (Ws x1 x2) nE (fun _=>.l (.n ())) nE nE
def SO:=fun x1 x2=>(Xs x1 x2).val
def TO:=fun x1 x2=>(Xs x1 x2).ob
def Ys:=fun x1 x2=>da.mk (SO x1 x2) (TO x1 x2) [0,1,1,1] [(5,.A .int x1),(6,.A .int x2)] oG (fun _=>[]) nE nE nE
theorem E6 (G:Good Tryz.prog tt nm) {fr:Fr}:∀ x1 x2,Vs fr (Ys x1 x2) :=
 fun x1 x2=>fa G [([0,1,0,1,1,1],fun e=>⟨Ws (gL .int e 5 0) (gL .int e 6 0)⟩)] ⟨fun _=>⟨rfl,D6 G _ _⟩,trivial⟩ [(3,[5,6,7])] [] [] (Xs x1 x2) rfl rfl (by kernel_rfl)
def Zs (a0 a1:Row):Tr Int Empty Empty Empty Empty :=
 .s (Ys [a0.Key,a0.Val,a0.At.A,a0.At.B] [a1.Key,a1.Val,a1.At.A,a1.At.B]) (fun _=>.l (.r 0)) nE nE nE
def bt:=fun a0 a1=>(Zs a0 a1).val
def ct:=fun a0 a1=>(Zs a0 a1).ob
def UO:=fun a0 a1=>da.mk (bt a0 a1) (ct a0 a1) [] [(0,.agg true [.i a0.Key,.i a0.Val,.i a0.At.A,.i a0.At.B,.i a0.Diff]),(1,.agg true [.i a1.Key,.i a1.Val,.i a1.At.A,.i a1.At.B,.i a1.Diff])] oG nE nE nE nE
theorem G6 (G:Good Tryz.prog tt nm) {fr:Fr}:∀ a0 a1,Vs fr (UO a0 a1) :=
 fun a0 a1=>fa G [([0,1,1,1],fun e=>⟨Ys (gL .int e 5 0) (gL .int e 6 0)⟩)] ⟨fun _=>⟨rfl,E6 G _ _⟩,trivial⟩ [(0,[2,3]),(1,[3,5]),(2,[5,6]),(10,[4])] [] [] (Zs a0 a1) rfl rfl (by kernel_rfl)
def Nh (a0:Row) (a1:Row):Int:=ocR (bt a0 a1)
def pm (a0:Row) (a1:Row):Prop:=ct a0 a1
def et:Spec:=⟨[(.st .row),(.st .row)],.one .fr (.int .i64),false,fun x=>(Nh x.1 x.2.1,0),fun x=>pm x.1 x.2.1⟩
theorem H6 (G:Good Tryz.prog tt nm):Con Tryz.prog 66 et :=
 Ca (pts:=[(.st .row),(.st .row)]) (rt:=.one .fr (.int .i64)) (o:=fun x=>bt x.1 x.2.1) (ob:=fun x=>ct x.1 x.2.1) G (fn:=Tryz.f66) (c:=ia Tryz.f66) (by kernel_rfl) (by kernel_rfl) (by kernel_rfl) (rs:=[.tmp 4]) (fz:=F66.fz) (by kernel_rfl) (by kernel_rfl) (fun _=>rfl) rfl (fun x=>UO x.1 x.2.1) (fun _=>⟨rfl,rfl,rfl,rfl,rfl⟩) (fun x _=>G6 G x.1 x.2.1)
def Ng:SP:=[(66,et)]
abbrev F94:Fnn:=⟨[.tmp 4],.one (.acc true) (.lst .row),none,[]⟩
abbrev Wi:LR→RV:=fun q=>(some (RT.av (.one (.acc true) (.lst .row)) q),.dead)
abbrev Oh (fr:Fr) {A X Y Z:Type} (S:da LR A X Y Z):Prop:=ua Tryz.prog tt ⟨Tryz.f94.ntmps,none,[]⟩ fr (ia Tryz.f94) F94 S
def ft (_x46:LR) (x47 x48 x49 x50 x51:Int) (x52:LR) (x53:Bool) (_x54 x55:Int):Tr LR (LR×Bool) Empty Empty Empty :=
 .c (cond (!x53) (cmp .gtr x55 0) false)
 (.w [lim (aa .row x52) (aa .row [(Row.mk x47 x48 (Time.mk x49 x50) x51)])] (.l (.n ((x52++[(Row.mk x47 x48 (Time.mk x49 x50) x51)]),true))))
 (.l (.n (x52,x53)))
def VO:=fun x46 x47 x48 x49 x50 x51 x52 x53 x54 x55=>(ft x46 x47 x48 x49 x50 x51 x52 x53 x54 x55).val
def WO:=fun x46 x47 x48 x49 x50 x51 x52 x53 x54 x55=>(ft x46 x47 x48 x49 x50 x51 x52 x53 x54 x55).ob
def jt:=fun x46 x47 x48 x49 x50 x51 x52 x53 x54 x55=>da.mk (VO x46 x47 x48 x49 x50 x51 x52 x53 x54 x55) (WO x46 x47 x48 x49 x50 x51 x52 x53 x54 x55) [0,1,0,0,1,0,0,1,0,1,1,1] [(0,.S .row x46),(3,.box [(.fr,.i x47),(.fr,.i x48),(.fr,.i x49),(.fr,.i x50),(.fr,.i x51)]),(5,.A .row x52),(6,.O x53),(7,.I x54),(8,.I x55)] Wi (fun q=>[(0,.S .row x46),(3,.box [(.fr,.i x47),(.fr,.i x48),(.fr,.i x49),(.fr,.i x50),(.fr,.i x51)]),(5,.A .row q.1),(6,.O q.2),(7,.I x54),(8,.I x55)]) nE nE nE
theorem I6 (G:Good Tryz.prog tt Ng) {fr:Fr}:∀ x46 x47 x48 x49 x50 x51 x52 x53 x54 x55,Oh fr (jt x46 x47 x48 x49 x50 x51 x52 x53 x54 x55) :=
 fun x46 x47 x48 x49 x50 x51 x52 x53 x54 x55=>fa G [] trivial [(7,[0,3,5,6,7,8,27]),(8,[0,3,5,7,8]),(9,[0,3,5,6,7,8])] [] [] (ft x46 x47 x48 x49 x50 x51 x52 x53 x54 x55) rfl rfl (by kernel_rfl)
def kt (x36:LR) (x37 x38 x39 x40 x41:Int) (x42:LR) (x43:Bool) (x44:Int):Tr LR (Int×LR×Bool) Empty Empty Empty :=
 .k (Nh (rd .row x36 x44) (Row.mk x37 x38 (Time.mk x39 x40) x41)) fun u45=>.w [inb x44 (aa .row x36),(pm (rd .row x36 x44) (Row.mk x37 x38 (Time.mk x39 x40) x41))] (.s (jt x36 x37 x38 x39 x40 x41 x42 x43 x44 u45) (fun q59=>.c (cond (!q59.2) (cmp .eql u45 0) false)
 (.w [inb x44 (aa .row x36)] (.w [lim (aa .row q59.1) (aa .row [(Row.mk x37 x38 (Time.mk x39 x40) (ar .add .i64 x41 (rd .row x36 x44).Diff))])] (.l (.n ((ar .add .i64 x41 (rd .row x36 x44).Diff),(q59.1++[(Row.mk x37 x38 (Time.mk x39 x40) (ar .add .i64 x41 (rd .row x36 x44).Diff))]),true)))))
 (.w [inb x44 (aa .row x36),lim (aa .row q59.1) (aa .row [(rd .row x36 x44)])] (.l (.n (x41,(q59.1++[(rd .row x36 x44)]),q59.2))))) nE nE nE)
def XO:=fun x36 x37 x38 x39 x40 x41 x42 x43 x44=>(kt x36 x37 x38 x39 x40 x41 x42 x43 x44).val
def YO:=fun x36 x37 x38 x39 x40 x41 x42 x43 x44=>(kt x36 x37 x38 x39 x40 x41 x42 x43 x44).ob
def qm:=fun x36 x37 x38 x39 x40 x41 x42 x43 x44=>da.mk (XO x36 x37 x38 x39 x40 x41 x42 x43 x44) (YO x36 x37 x38 x39 x40 x41 x42 x43 x44) [0,1,0,0,1,0,1,1,1] [(0,.S .row x36),(3,.box [(.fr,.i x37),(.fr,.i x38),(.fr,.i x39),(.fr,.i x40),(.fr,.i x41)]),(5,.A .row x42),(6,.O x43),(7,.I x44)] Wi (fun q=>[(0,.S .row x36),(3,.box [(.fr,.i x37),(.fr,.i x38),(.fr,.i x39),(.fr,.i x40),(.fr,.i q.1)]),(5,.A .row q.2.1),(6,.O q.2.2),(7,.I x44)]) nE nE nE
theorem J6 (G:Good Tryz.prog tt Ng) {fr:Fr}:∀ x36 x37 x38 x39 x40 x41 x42 x43 x44,Oh fr (qm x36 x37 x38 x39 x40 x41 x42 x43 x44) :=
 fun x36 x37 x38 x39 x40 x41 x42 x43 x44=>fa G [([0,1,0,0,1,0,0,1,0,1,1,1],fun e=>⟨jt (gL .row e 0 0) (gI e 3 0) (gI e 3 1) (gI e 3 2) (gI e 3 3) (gI e 3 4) (gL .row e 5 0) (gB e 6 0) (gI e 7 0) (gI e 8 0)⟩)] ⟨fun _=>⟨rfl,I6 G _ _ _ _ _ _ _ _ _ _⟩,trivial⟩ [(6,[0,3,5,6,7,8]),(10,[0,3,5,6,7,37]),(11,[0,3,5,7]),(12,[0,3,5,7]),(13,[0,3,5,6,7]),(14,[0,3,5,6,7])] [] [] (kt x36 x37 x38 x39 x40 x41 x42 x43 x44) rfl rfl (by kernel_rfl)
def rm (x3:LR) (x4:Row) (s31:Int) (s32:LR) (s33:Bool) (s34:Int):Tr LR (Int×LR×Bool×Int) (Int×LR×Bool) Empty Empty :=
 .c (cmp .lss s34 (aa .row x3))
 (.s (qm x3 x4.Key x4.Val x4.At.A x4.At.B s31 s32 s33 s34) (fun q67=>.l (.n (q67.1,q67.2.1,q67.2.2,(ar .add .i64 s34 1)))) nE nE nE)
 (.l (.x (s31,s32,s33)))
def Og:=fun x3 x4 s31 s32 s33 s34=>(rm x3 x4 s31 s32 s33 s34).val
def Ph:=fun x3 x4 s31 s32 s33 s34=>(rm x3 x4 s31 s32 s33 s34).ob
def qG:=fun x3 x4 s31 s32 s33 s34=>Na (Og x3 x4 s31 s32 s33 s34) (Ph x3 x4 s31 s32 s33 s34) [0,0,1,0,1,1,1] (fun q=>[(0,.S .row x3),(3,.box [(.fr,.i x4.Key),(.fr,.i x4.Val),(.fr,.i x4.At.A),(.fr,.i x4.At.B),(.fr,.i q.1)]),(5,.A .row q.2.1),(6,.O q.2.2.1),(7,.I q.2.2.2)]) (s31,s32,s33,s34) Wi (fun q=>(0,[(3,.box [(.fr,.i x4.Key),(.fr,.i x4.Val),(.fr,.i x4.At.A),(.fr,.i x4.At.B),(.fr,.i q.1)]),(5,.A .row q.2.1),(6,.O q.2.2)])) nE nE
theorem L6 (G:Good Tryz.prog tt Ng) {fr:Fr}:∀ x3 x4 s31 s32 s33 s34,Oh fr (qG x3 x4 s31 s32 s33 s34) :=
 fun x3 x4 s31 s32 s33 s34=>fa G [([0,1,0,0,1,0,1,1,1],fun e=>⟨qm (gL .row e 0 0) (gI e 3 0) (gI e 3 1) (gI e 3 2) (gI e 3 3) (gI e 3 4) (gL .row e 5 0) (gB e 6 0) (gI e 7 0)⟩)] ⟨fun _=>⟨rfl,J6 G _ _ _ _ _ _ _ _ _⟩,trivial⟩ [(4,[0,3,5,6,7,13]),(5,[0,3,5,6,7])] [] [] (rm x3 x4 s31 s32 s33 s34) rfl rfl (by kernel_rfl)
def ZO:=fun x3 x4=>lpV (fun s:Int×LR×Bool×Int=>ca (Og x3 x4 s.1 s.2.1 s.2.2.1 s.2.2.2)) (x4.Diff,[],false,0)
def aP:=fun x3 x4=>LpT (fun s:Int×LR×Bool×Int=>ca (Og x3 x4 s.1 s.2.1 s.2.2.1 s.2.2.2)) (fun s=>Ph x3 x4 s.1 s.2.1 s.2.2.1 s.2.2.2) (x4.Diff,[],false,0)
def mt:=fun x3 x4=>lpS (qG x3 x4 x4.Diff [] false 0) (ZO x3 x4) (aP x3 x4)
theorem O6 (G:Good Tryz.prog tt Ng) {fr:Fr}:∀ x3 x4,Oh fr (mt x3 x4) :=
 fun x3 x4=>Oa (fun s:Int×LR×Bool×Int=>qG x3 x4 s.1 s.2.1 s.2.2.1 s.2.2.2) (x4.Diff,[],false,0) (fun _=>rfl) (fun _=>⟨rfl,rfl,rfl,rfl,rfl⟩) (by kernel_rfl) fun _=>L6 G _ _ _ _ _ _
def nt (x1:LR) (x2:Row):Tr LR (Int×LR×Bool) Empty Empty Empty :=
 .s (mt x1 x2) nE (fun q84=>.l (.n (q84.1,q84.2.1,q84.2.2))) nE nE
def bP:=fun x1 x2=>(nt x1 x2).val
def cP:=fun x1 x2=>(nt x1 x2).ob
def qt:=fun x1 x2=>da.mk (bP x1 x2) (cP x1 x2) [0,1,1,1] [(0,.S .row x1),(3,.box [(.fr,.i x2.Key),(.fr,.i x2.Val),(.fr,.i x2.At.A),(.fr,.i x2.At.B),(.fr,.i x2.Diff)]),(5,.A .row []),(6,.O false)] Wi (fun q=>[(3,.box [(.fr,.i x2.Key),(.fr,.i x2.Val),(.fr,.i x2.At.A),(.fr,.i x2.At.B),(.fr,.i q.1)]),(5,.A .row q.2.1),(6,.O q.2.2)]) nE nE nE
theorem P6 (G:Good Tryz.prog tt Ng) {fr:Fr}:∀ x1 x2,Oh fr (qt x1 x2) :=
 fun x1 x2=>fa G [([0,1,0,1,1,1],fun e=>⟨mt (gL .row e 0 0) (gRow e 3)⟩)] ⟨fun _=>⟨rfl,O6 G _ _⟩,trivial⟩ [(3,[0,3,5,6,7])] [] [] (nt x1 x2) rfl rfl (by kernel_rfl)
def sm (x91 x92 x93 x94 x95:Int) (x96:LR) (x97:Bool):Tr LR LR Empty Empty Empty :=
 .c (!x97)
 (.w [lim (aa .row x96) (aa .row [(Row.mk x91 x92 (Time.mk x93 x94) x95)])] (.l (.n (x96++[(Row.mk x91 x92 (Time.mk x93 x94) x95)]))))
 (.l (.n x96))
def rG:=fun x91 x92 x93 x94 x95 x96 x97=>(sm x91 x92 x93 x94 x95 x96 x97).val
def sG:=fun x91 x92 x93 x94 x95 x96 x97=>(sm x91 x92 x93 x94 x95 x96 x97).ob
def ut:=fun x91 x92 x93 x94 x95 x96 x97=>da.mk (rG x91 x92 x93 x94 x95 x96 x97) (sG x91 x92 x93 x94 x95 x96 x97) [0,1,1,1,1] [(3,.box [(.fr,.i x91),(.fr,.i x92),(.fr,.i x93),(.fr,.i x94),(.fr,.i x95)]),(5,.A .row x96),(6,.O x97)] Wi (fun q=>[(5,.A .row q)]) nE nE nE
theorem Q6 (G:Good Tryz.prog tt Ng) {fr:Fr}:∀ x91 x92 x93 x94 x95 x96 x97,Oh fr (ut x91 x92 x93 x94 x95 x96 x97) :=
 fun x91 x92 x93 x94 x95 x96 x97=>fa G [] trivial [(15,[3,5,59]),(16,[5])] [] [] (sm x91 x92 x93 x94 x95 x96 x97) rfl rfl (by kernel_rfl)
def vt (a0:LR) (a1:Row):Tr LR Empty Empty Empty Empty :=
 .s (qt a0 a1) (fun q89=>.s (ut a1.Key a1.Val a1.At.A a1.At.B q89.1 q89.2.1 q89.2.2) (fun q100=>.l (.r q100)) nE nE nE) nE nE nE
def wt:=fun a0 a1=>(vt a0 a1).val
def xt:=fun a0 a1=>(vt a0 a1).ob
def dP:=fun a0 a1=>da.mk (wt a0 a1) (xt a0 a1) [] [(0,.S .row a0),(1,.agg true [.i a1.Key,.i a1.Val,.i a1.At.A,.i a1.At.B,.i a1.Diff])] Wi nE nE nE nE
theorem R6 (G:Good Tryz.prog tt Ng) {fr:Fr}:∀ a0 a1,Oh fr (dP a0 a1) :=
 fun a0 a1=>fa G [([0,1,1,1],fun e=>⟨qt (gL .row e 0 0) (gRow e 3)⟩),([0,1,1,1,1],fun e=>⟨ut (gI e 3 0) (gI e 3 1) (gI e 3 2) (gI e 3 3) (gI e 3 4) (gL .row e 5 0) (gB e 6 0)⟩)] ⟨fun _=>⟨rfl,P6 G _ _⟩,fun _=>⟨rfl,Q6 G _ _ _ _ _ _ _⟩,trivial⟩ [(0,[0,3]),(1,[0,3,5]),(2,[0,3,5,6]),(17,[4])] [] [] (vt a0 a1) rfl rfl (by kernel_rfl)
def zt (a0:LR) (a1:Row):LR:=ocR (wt a0 a1)
def Bt (a0:LR) (a1:Row):Prop:=xt a0 a1
def tG:Spec:=⟨[(.lst .row),(.st .row)],.one (.acc true) (.lst .row),false,fun x=>(zt x.1 x.2.1,0),fun x=>Bt x.1 x.2.1⟩
theorem T6 (G:Good Tryz.prog tt Ng):Con Tryz.prog 94 tG :=
 Ca (pts:=[(.lst .row),(.st .row)]) (rt:=.one (.acc true) (.lst .row)) (o:=fun x=>wt x.1 x.2.1) (ob:=fun x=>xt x.1 x.2.1) G (fn:=Tryz.f94) (c:=ia Tryz.f94) (by kernel_rfl) (by kernel_rfl) (by kernel_rfl) (rs:=[.tmp 4]) (fz:=F94.fz) (by kernel_rfl) (by kernel_rfl) (fun _=>rfl) rfl (fun x=>dP x.1 x.2.1) (fun _=>⟨rfl,rfl,rfl,rfl,rfl⟩) (fun x _=>R6 G x.1 x.2.1)
def dg:SP:=[(94,tG)]
abbrev F68:Fnn:=⟨[.tmp 2],.one (.acc true) (.lst .row),none,[]⟩
abbrev Xi:LR→RV:=fun q=>(some (RT.av (.one (.acc true) (.lst .row)) q),.dead)
abbrev Pg (fr:Fr) {A X Y Z:Type} (S:da LR A X Y Z):Prop:=ua Tryz.prog tt ⟨Tryz.f68.ntmps,none,[]⟩ fr (ia Tryz.f68) F68 S
def um (x2 s7:LR) (s8:Int):Tr LR (LR×Int) LR Empty Empty :=
 .c (cmp .lss s8 (aa .row x2))
 (.w [inb s8 (aa .row x2),(Bt s7 (rd .row x2 s8))] (.l (.n ((zt s7 (rd .row x2 s8)),(ar .add .i64 s8 1)))))
 (.l (.x s7))
def Yi:=fun x2 s7 s8=>(um x2 s7 s8).val
def vm:=fun x2 s7 s8=>(um x2 s7 s8).ob
def uG:=fun x2 s7 s8=>Na (Yi x2 s7 s8) (vm x2 s7 s8) [0,0,1,0,1,1] (fun q=>[(0,.S .row x2),(3,.A .row q.1),(4,.I q.2)]) (s7,s8) Xi (fun q=>(0,[(3,.A .row q)])) nE nE
theorem U6 (G:Good Tryz.prog tt dg) {fr:Fr}:∀ x2 s7 s8,Pg fr (uG x2 s7 s8) :=
 fun x2 s7 s8=>fa G [] trivial [(3,[0,3,4,11]),(4,[0,3,4]),(5,[0,3,4])] [] [] (um x2 s7 s8) rfl rfl (by kernel_rfl)
def eP:=fun x2=>lpV (fun s:LR×Int=>ca (Yi x2 s.1 s.2)) ([],0)
def fP:=fun x2=>LpT (fun s:LR×Int=>ca (Yi x2 s.1 s.2)) (fun s=>vm x2 s.1 s.2) ([],0)
def Ct:=fun x2=>lpS (uG x2 [] 0) (eP x2) (fP x2)
theorem V6 (G:Good Tryz.prog tt dg) {fr:Fr}:∀ x2,Pg fr (Ct x2) :=
 fun x2=>Oa (fun s:LR×Int=>uG x2 s.1 s.2) ([],0) (fun _=>rfl) (fun _=>⟨rfl,rfl,rfl,rfl,rfl⟩) (by kernel_rfl) fun _=>U6 G _ _ _
def Dt (x1:LR):Tr LR LR Empty Empty Empty :=
 .s (Ct x1) nE (fun q18=>.l (.n q18)) nE nE
def gP:=fun x1=>(Dt x1).val
def iP:=fun x1=>(Dt x1).ob
def Et:=fun x1=>da.mk (gP x1) (iP x1) [0,1,1] [(0,.S .row x1),(3,.A .row [])] Xi (fun q=>[(3,.A .row q)]) nE nE nE
theorem X6 (G:Good Tryz.prog tt dg) {fr:Fr}:∀ x1,Pg fr (Et x1) :=
 fun x1=>fa G [([0,1,0,1,1],fun e=>⟨Ct (gL .row e 0 0)⟩)] ⟨fun _=>⟨rfl,V6 G _⟩,trivial⟩ [(2,[0,3,4])] [] [] (Dt x1) rfl rfl (by kernel_rfl)
def Ft (x38 x39:LR) (x40:Int):Tr LR LR Empty Empty Empty :=
 .w [inb x40 (aa .row x38)] (.c (cmp .neq (rd .row x38 x40).Diff 0)
 (.w [inb x40 (aa .row x38),lim (aa .row x39) (aa .row [(rd .row x38 x40)])] (.l (.n (x39++[(rd .row x38 x40)]))))
 (.l (.n x39)))
def jP:=fun x38 x39 x40=>(Ft x38 x39 x40).val
def kP:=fun x38 x39 x40=>(Ft x38 x39 x40).ob
def wm:=fun x38 x39 x40=>da.mk (jP x38 x39 x40) (kP x38 x39 x40) [0,1,0,0,1,0,1,1,1,1] [(3,.A .row x38),(5,.A .row x39),(6,.I x40)] Xi (fun q=>[(3,.A .row x38),(5,.A .row q),(6,.I x40)]) nE nE nE
theorem Y6 (G:Good Tryz.prog tt dg) {fr:Fr}:∀ x38 x39 x40,Pg fr (wm x38 x39 x40) :=
 fun x38 x39 x40=>fa G [] trivial [(10,[3,5,6,32]),(11,[3,5,6])] [] [] (Ft x38 x39 x40) rfl rfl (by kernel_rfl)
def xm (x24 s35:LR) (s36:Int):Tr LR (LR×Int) LR Empty Empty :=
 .c (cmp .lss s36 (aa .row x24))
 (.s (wm x24 s35 s36) (fun q43=>.l (.n (q43,(ar .add .i64 s36 1)))) nE nE nE)
 (.l (.x s35))
def Zi:=fun x24 s35 s36=>(xm x24 s35 s36).val
def ym:=fun x24 s35 s36=>(xm x24 s35 s36).ob
def vG:=fun x24 s35 s36=>Na (Zi x24 s35 s36) (ym x24 s35 s36) [0,0,1,0,1,1,1,1] (fun q=>[(3,.A .row x24),(5,.A .row q.1),(6,.I q.2)]) (s35,s36) Xi (fun q=>(2,[(5,.A .row q)])) nE nE
theorem Z6 (G:Good Tryz.prog tt dg) {fr:Fr}:∀ x24 s35 s36,Pg fr (vG x24 s35 s36) :=
 fun x24 s35 s36=>fa G [([0,1,0,0,1,0,1,1,1,1],fun e=>⟨wm (gL .row e 3 0) (gL .row e 5 0) (gI e 6 0)⟩)] ⟨fun _=>⟨rfl,Y6 G _ _ _⟩,trivial⟩ [(8,[3,5,6,24]),(9,[3,5,6])] [] [] (xm x24 s35 s36) rfl rfl (by kernel_rfl)
def lP:=fun x24=>lpV (fun s:LR×Int=>ca (Zi x24 s.1 s.2)) ([],0)
def mP:=fun x24=>LpT (fun s:LR×Int=>ca (Zi x24 s.1 s.2)) (fun s=>ym x24 s.1 s.2) ([],0)
def Gt:=fun x24=>lpS (vG x24 [] 0) (lP x24) (mP x24)
theorem c7 (G:Good Tryz.prog tt dg) {fr:Fr}:∀ x24,Pg fr (Gt x24) :=
 fun x24=>Oa (fun s:LR×Int=>vG x24 s.1 s.2) ([],0) (fun _=>rfl) (fun _=>⟨rfl,rfl,rfl,rfl,rfl⟩) (by kernel_rfl) fun _=>Z6 G _ _ _
def It (x23:LR):Tr LR LR Empty Empty Empty :=
 .s (Gt x23) nE (fun q54=>.l (.n q54)) nE nE
def nP:=fun x23=>(It x23).val
def oP:=fun x23=>(It x23).ob
def Jt:=fun x23=>da.mk (nP x23) (oP x23) [0,1,1,1,1] [(3,.A .row x23),(5,.A .row [])] Xi (fun q=>[(5,.A .row q)]) nE nE nE
theorem d7 (G:Good Tryz.prog tt dg) {fr:Fr}:∀ x23,Pg fr (Jt x23) :=
 fun x23=>fa G [([0,1,0,1,1,1,1],fun e=>⟨Gt (gL .row e 3 0)⟩)] ⟨fun _=>⟨rfl,c7 G _⟩,trivial⟩ [(7,[3,5,6])] [] [] (It x23) rfl rfl (by kernel_rfl)
def Kt (a0:LR):Tr LR Empty Empty Empty Empty :=
 .s (Et a0) (fun q21=>.s (Jt q21) (fun q57=>.l (.r q57)) nE nE nE) nE nE nE
def Lt:=fun a0=>(Kt a0).val
def Mt:=fun a0=>(Kt a0).ob
def pP:=fun a0=>da.mk (Lt a0) (Mt a0) [] [(0,.S .row a0)] Xi nE nE nE nE
theorem g7 (G:Good Tryz.prog tt dg) {fr:Fr}:∀ a0,Pg fr (pP a0) :=
 fun a0=>fa G [([0,1,1],fun e=>⟨Et (gL .row e 0 0)⟩),([0,1,1,1,1],fun e=>⟨Jt (gL .row e 3 0)⟩)] ⟨fun _=>⟨rfl,X6 G _⟩,fun _=>⟨rfl,d7 G _⟩,trivial⟩ [(0,[0]),(1,[0,3]),(6,[3,5]),(12,[2])] [] [] (Kt a0) rfl rfl (by kernel_rfl)
def ze (a0:LR):LR:=ocR (Lt a0)
def Cf (a0:LR):Prop:=Mt a0
def fg:Spec:=⟨[(.lst .row)],.one (.acc true) (.lst .row),false,fun x=>(ze x.1,0),fun x=>Cf x.1⟩
theorem i7 (G:Good Tryz.prog tt dg):Con Tryz.prog 68 fg :=
 Ca (pts:=[(.lst .row)]) (rt:=.one (.acc true) (.lst .row)) (o:=fun x=>Lt x.1) (ob:=fun x=>Mt x.1) G (fn:=Tryz.f68) (c:=ia Tryz.f68) (by kernel_rfl) (by kernel_rfl) (by kernel_rfl) (rs:=[.tmp 2]) (fz:=F68.fz) (by kernel_rfl) (by kernel_rfl) (fun _=>rfl) rfl (fun x=>pP x.1) (fun _=>⟨rfl,rfl,rfl,rfl,rfl⟩) (fun x _=>g7 G x.1)
def zm:SP:=[(23,Lh),(66,et)]
abbrev F41:Fnn:=⟨[.tmp 2],.one .fr .bool,none,[]⟩
abbrev wG:Bool→RV:=fun q=>(some (RT.av (.one .fr .bool) q),.dead)
abbrev Nt (fr:Fr) {A X Y Z:Type} (S:da Bool A X Y Z):Prop:=ua Tryz.prog tt ⟨Tryz.f41.ntmps,none,[]⟩ fr (ia Tryz.f41) F41 S
def aj (x4:LR) (s9:Int):Tr Bool Int Unit Empty Empty :=
 .c (cmp .lss s9 (aa .row x4))
 (.w [inb s9 (aa .row x4),(((cmp .gtr s9 0)&&((!(cmp .eql (rd .row x4 s9).Diff 0))&&true))=true→inb (ar .sub .i64 s9 1) (aa .row x4)),(((cmp .gtr s9 0)&&((!(cmp .eql (rd .row x4 s9).Diff 0))&&true))=true→inb s9 (aa .row x4)),(((cmp .gtr s9 0)&&((!(cmp .eql (rd .row x4 s9).Diff 0))&&true))=true→(pm (rd .row x4 (ar .sub .i64 s9 1)) (rd .row x4 s9)))] (.c (cond (cmp .eql (rd .row x4 s9).Diff 0) true (cond (cmp .gtr s9 0) (cmp .geq (Nh (rd .row x4 (ar .sub .i64 s9 1)) (rd .row x4 s9)) 0) false))
 (.l (.r false))
 (.l (.n (ar .add .i64 s9 1)))))
 (.l (.x ()))
def Qh:=fun x4 s9=>(aj x4 s9).val
def bj:=fun x4 s9=>(aj x4 s9).ob
def xG:=fun x4 s9=>Na (Qh x4 s9) (bj x4 s9) [0,0,1,0,1,1] (fun q=>[(0,.S .row x4),(3,.I q)]) s9 wG (fun _=>(0,[])) nE nE
theorem j7 (G:Good Tryz.prog tt zm) {fr:Fr}:∀ x4 s9,Nt fr (xG x4 s9) :=
 fun x4 s9=>fa G [] trivial [(4,[0,3,10]),(5,[0,3]),(6,[0,3,35]),(7,[2])] [] [] (aj x4 s9) rfl rfl (by kernel_rfl)
def qP:=fun x4=>lpV (fun s:Int=>ca (Qh x4 s)) 0
def rP:=fun x4=>LpT (fun s:Int=>ca (Qh x4 s)) (fun s=>bj x4 s) 0
def Ot:=fun x4=>lpS (xG x4 0) (qP x4) (rP x4)
theorem l7 (G:Good Tryz.prog tt zm) {fr:Fr}:∀ x4,Nt fr (Ot x4) :=
 fun x4=>Oa (fun s:Int=>xG x4 s) 0 (fun _=>rfl) (fun _=>⟨rfl,rfl,rfl,rfl,rfl⟩) (by kernel_rfl) fun _=>j7 G _ _
def Pt (x3:LR):Tr Bool Unit Empty Empty Empty :=
 .s (Ot x3) nE (fun _=>.l (.n ())) nE nE
def sP:=fun x3=>(Pt x3).val
def tP:=fun x3=>(Pt x3).ob
def Qt:=fun x3=>da.mk (sP x3) (tP x3) [0,1,1] [(0,.S .row x3)] wG (fun _=>[]) nE nE nE
theorem m7 (G:Good Tryz.prog tt zm) {fr:Fr}:∀ x3,Nt fr (Qt x3) :=
 fun x3=>fa G [([0,1,0,1,1],fun e=>⟨Ot (gL .row e 0 0)⟩)] ⟨fun _=>⟨rfl,l7 G _⟩,trivial⟩ [(3,[0,3])] [] [] (Pt x3) rfl rfl (by kernel_rfl)
def Rt (a0:LR):Tr Bool Empty Empty Empty Empty :=
 .w [(Mg a0)] (.c (!(bg a0))
 (.l (.r false))
 (.s (Qt a0) (fun _=>.l (.r true)) nE nE nE))
def St:=fun a0=>(Rt a0).val
def Tt:=fun a0=>(Rt a0).ob
def uP:=fun a0=>da.mk (St a0) (Tt a0) [] [(0,.S .row a0)] wG nE nE nE nE
theorem t7 (G:Good Tryz.prog tt zm) {fr:Fr}:∀ a0,Nt fr (uP a0) :=
 fun a0=>fa G [([0,1,1],fun e=>⟨Qt (gL .row e 0 0)⟩)] ⟨fun _=>⟨rfl,m7 G _⟩,trivial⟩ [(0,[0]),(1,[0,6]),(2,[2]),(8,[2])] [] [] (Rt a0) rfl rfl (by kernel_rfl)
def cj (a0:LR):Bool:=ocR (St a0)
def ej (a0:LR):Prop:=Tt a0
def Am:Spec:=⟨[(.lst .row)],.one .fr .bool,false,fun x=>(cj x.1,0),fun x=>ej x.1⟩
theorem v7 (G:Good Tryz.prog tt zm):Con Tryz.prog 41 Am :=
 Ca (pts:=[(.lst .row)]) (rt:=.one .fr .bool) (o:=fun x=>St x.1) (ob:=fun x=>Tt x.1) G (fn:=Tryz.f41) (c:=ia Tryz.f41) (by kernel_rfl) (by kernel_rfl) (by kernel_rfl) (rs:=[.tmp 2]) (fz:=F41.fz) (by kernel_rfl) (by kernel_rfl) (fun _=>rfl) rfl (fun x=>uP x.1) (fun _=>⟨rfl,rfl,rfl,rfl,rfl⟩) (fun x _=>t7 G x.1)
def vP:SP:=[(41,Am)]
abbrev F90:Fnn:=⟨[.tmp 2],.one .sh (.lst .row),none,[]⟩
abbrev z7:LR→RV:=fun q=>(some (RT.av (.one .sh (.lst .row)) q),.dead)
abbrev A7 (fr:Fr) {A X Y Z:Type} (S:da LR A X Y Z):Prop:=ua Tryz.prog tt ⟨Tryz.f90.ntmps,none,[]⟩ fr (ia Tryz.f90) F90 S
def fj (a0:LR):Tr LR Empty Empty Empty Empty :=
 .w [(ej a0)] (.c (!(cj a0))
 (.l (.r []))
 (.l (.r a0)))
def Bm:=fun a0=>(fj a0).val
def Cm:=fun a0=>(fj a0).ob
def wP:=fun a0=>da.mk (Bm a0) (Cm a0) [] [(0,.S .row a0)] z7 nE nE nE nE
theorem B7 (G:Good Tryz.prog tt vP) {fr:Fr}:∀ a0,A7 fr (wP a0) :=
 fun a0=>fa G [] trivial [(0,[0]),(1,[0,5]),(2,[2]),(3,[2])] [] [] (fj a0) rfl rfl (by kernel_rfl)
def Rh (a0:LR):LR:=ocR (Bm a0)
def Th (a0:LR):Prop:=Cm a0
def Ut:Spec:=⟨[(.lst .row)],.one .sh (.lst .row),false,fun x=>(Rh x.1,0),fun x=>Th x.1⟩
theorem G7 (G:Good Tryz.prog tt vP):Con Tryz.prog 90 Ut :=
 Ca (pts:=[(.lst .row)]) (rt:=.one .sh (.lst .row)) (o:=fun x=>Bm x.1) (ob:=fun x=>Cm x.1) G (fn:=Tryz.f90) (c:=ia Tryz.f90) (by kernel_rfl) (by kernel_rfl) (by kernel_rfl) (rs:=[.tmp 2]) (fz:=F90.fz) (by kernel_rfl) (by kernel_rfl) (fun _=>rfl) rfl (fun x=>wP x.1) (fun _=>⟨rfl,rfl,rfl,rfl,rfl⟩) (fun x _=>B7 G x.1)
def xP:SP:=[(23,Lh),(68,fg),(90,Ut)]
abbrev F62:Fnn:=⟨[.tmp 2],.one .sh (.lst .row),none,[]⟩
abbrev H7:LR→RV:=fun q=>(some (RT.av (.one .sh (.lst .row)) q),.dead)
abbrev I7 (fr:Fr) {A X Y Z:Type} (S:da LR A X Y Z):Prop:=ua Tryz.prog tt ⟨Tryz.f62.ntmps,none,[]⟩ fr (ia Tryz.f62) F62 S
def Vt (a0:LR):Tr LR Empty Empty Empty Empty :=
 .w [(Mg a0)] (.c (!(bg a0))
 (.l (.r []))
 (.w [(Cf a0),(Th (ze a0))] (.l (.r (Rh (ze a0))))))
def Wt:=fun a0=>(Vt a0).val
def Xt:=fun a0=>(Vt a0).ob
def yP:=fun a0=>da.mk (Wt a0) (Xt a0) [] [(0,.S .row a0)] H7 nE nE nE nE
theorem J7 (G:Good Tryz.prog tt xP) {fr:Fr}:∀ a0,I7 fr (yP a0) :=
 fun a0=>fa G [] trivial [(0,[0]),(1,[0,5]),(2,[2]),(3,[2])] [] [] (Vt a0) rfl rfl (by kernel_rfl)
def Yt (a0:LR):LR:=ocR (Wt a0)
def Zt (a0:LR):Prop:=Xt a0
def yG:Spec:=⟨[(.lst .row)],.one .sh (.lst .row),false,fun x=>(Yt x.1,0),fun x=>Zt x.1⟩
theorem L7 (G:Good Tryz.prog tt xP):Con Tryz.prog 62 yG :=
 Ca (pts:=[(.lst .row)]) (rt:=.one .sh (.lst .row)) (o:=fun x=>Wt x.1) (ob:=fun x=>Xt x.1) G (fn:=Tryz.f62) (c:=ia Tryz.f62) (by kernel_rfl) (by kernel_rfl) (by kernel_rfl) (rs:=[.tmp 2]) (fz:=F62.fz) (by kernel_rfl) (by kernel_rfl) (fun _=>rfl) rfl (fun x=>yP x.1) (fun _=>⟨rfl,rfl,rfl,rfl,rfl⟩) (fun x _=>J7 G x.1)
def zP:SP:=[(63,Ms),(62,yG)]
abbrev F37:Fnn:=⟨[.tmp 4],.one .sh (.lst .row),some 0,[]⟩
abbrev O7 (b:LB):LR×Int→RV:=fun q=>(some (RT.av (.one .sh (.lst .row)) q.1),.box [(.sh,.lst .byte b),(.fr,.i q.2)])
abbrev P7 (fr:Fr) {A X Y Z:Type} (S:da (LR×Int) A X Y Z):Prop:=ua Tryz.prog tt ⟨Tryz.f37.ntmps,some 0,[]⟩ fr (ia Tryz.f37) F37 S
def au (a0:(LB×Int)) (a1:Int):Tr (LR×Int) Empty Empty Empty Empty :=
 .k (Bf (a0.1,a0.2) a1) fun u1=>.w [(im (a0.1,a0.2) a1),(Zt u1.1)] (.l (.r ((Yt u1.1),u1.2)))
def eu:=fun a0 a1=>(au a0 a1).val
def fu:=fun a0 a1=>(au a0 a1).ob
def AP:=fun a0 a1=>da.mk (eu a0 a1) (fu a0 a1) [] [(0,.box [(.sh,.lst .byte a0.1),(.fr,.i a0.2)]),(1,.I a1)] (O7 a0.1) nE nE nE nE
theorem Q7 (G:Good Tryz.prog tt zP) {fr:Fr}:∀ a0 a1,P7 fr (AP a0 a1) :=
 fun a0 a1=>fa G [] trivial [(0,[0,1]),(1,[0,4])] [] [] (au a0 a1) rfl rfl (by kernel_rfl)
def Gc (a0:(LB×Int)) (a1:Int):LR×Int:=ocR (eu a0 a1)
def Uh (a0:(LB×Int)) (a1:Int):Prop:=fu a0 a1
def zG:Spec:=⟨[.rdr,(.int .i64)],.one .sh (.lst .row),true,fun x=>Gc x.1 x.2.1,fun x=>Uh x.1 x.2.1⟩
theorem R7 (G:Good Tryz.prog tt zP):Con Tryz.prog 37 zG :=
 Pf (pts:=[.rdr,(.int .i64)]) (rt:=.one .sh (.lst .row)) (o:=fun x=>eu x.1 x.2.1) (ob:=fun x=>fu x.1 x.2.1) G (fn:=Tryz.f37) (c:=ia Tryz.f37) (by kernel_rfl) (by kernel_rfl) (by kernel_rfl) (rs:=[.tmp 4]) (fz:=F37.fz) (by kernel_rfl) (by kernel_rfl) (fun h=>Bool.noConfusion h) rfl (fun x=>x.1.1) (fun _=>rfl) (fun x=>AP x.1 x.2.1) (fun _=>⟨rfl,rfl,rfl,rfl,rfl⟩) (fun x _=>Q7 G x.1 x.2.1)
def gu:SP:=[(91,As),(38,Af)]
abbrev F64:Fnn:=⟨[.tmp 4],.one (.acc false) (.lst .row),some 0,[]⟩
abbrev AG (b:LB):LR×Int→RV:=fun q=>(some (RT.av (.one (.acc false) (.lst .row)) q.1),.box [(.sh,.lst .byte b),(.fr,.i q.2)])
abbrev BG (fr:Fr) {A X Y Z:Type} (S:da (LR×Int) A X Y Z):Prop:=ua Tryz.prog tt ⟨Tryz.f64.ntmps,some 0,[]⟩ fr (ia Tryz.f64) F64 S
def iu (x2:LB) (x3:Int) (_x4:LR) (x5:Row):Tr (LR×Int) (Int×Int×Int×Int×Int×Int) Empty Empty Empty :=
 .k (va (x2,x3) 5) fun u6=>.w [(Fb (x2,x3) 5)] (.c (cmp .eql u6.1 0)
 (.k (va (x2,u6.2) 2) fun u8=>.w [(Fb (x2,u6.2) 2),inb u8.1 (aa .int [(-1),4])] (.l (.n (u8.2,(rd .int [(-1),4] u8.1),x5.Val,x5.At.A,x5.At.B,x5.Diff))))
 (.c (cmp .eql u6.1 1)
 (.k (va (x2,u6.2) 2) fun u10=>.w [(Fb (x2,u6.2) 2),inb u10.1 (aa .int [(-1),100])] (.l (.n (u10.2,x5.Key,(rd .int [(-1),100] u10.1),x5.At.A,x5.At.B,x5.Diff))))
 (.c (cmp .eql u6.1 2)
 (.l (.n (u6.2,x5.Key,x5.Val,(-1),0,x5.Diff)))
 (.c (cmp .eql u6.1 3)
 (.k (va (x2,u6.2) 2) fun u13=>.w [(Fb (x2,u6.2) 2),inb u13.1 (aa .int [(-100000),100000])] (.l (.n (u13.2,x5.Key,x5.Val,x5.At.A,x5.At.B,(rd .int [(-100000),100000] u13.1)))))
 (.l (.n (u6.2,x5.Key,x5.Val,x5.At.A,8,x5.Diff)))))))
def CG:=fun x2 x3 x4 x5=>(iu x2 x3 x4 x5).val
def DG:=fun x2 x3 x4 x5=>(iu x2 x3 x4 x5).ob
def ku:=fun x2 x3 x4 x5=>da.mk (CG x2 x3 x4 x5) (DG x2 x3 x4 x5) [0,1,1] [(0,.box [(.sh,.lst .byte x2),(.fr,.i x3)]),(1,.S .row x4),(5,.box [(.fr,.i x5.Key),(.fr,.i x5.Val),(.fr,.i x5.At.A),(.fr,.i x5.At.B),(.fr,.i x5.Diff)])] (AG x2) (fun q=>[(0,.box [(.sh,.lst .byte x2),(.fr,.i q.1)]),(1,.S .row x4),(5,.box [(.fr,.i q.2.1),(.fr,.i q.2.2.1),(.fr,.i q.2.2.2.1),(.fr,.i q.2.2.2.2.1),(.fr,.i q.2.2.2.2.2)])]) nE nE nE
theorem T7 (G:Good Tryz.prog tt gu) {fr:Fr}:∀ x2 x3 x4 x5,BG fr (ku x2 x3 x4 x5) :=
 fun x2 x3 x4 x5=>fa G [] trivial [(2,[0,1,5,9]),(3,[0,1,5]),(4,[0,1,5,9,12]),(5,[0,1,5]),(6,[0,1,5,9,20]),(7,[0,1,5]),(8,[0,1,5,9,28]),(9,[0,1,5]),(10,[0,1,5,32]),(11,[0,1,5])] [] [] (iu x2 x3 x4 x5) rfl rfl (by kernel_rfl)
def lu (_x22:LB) (_x23:Int) (x24:LR) (x25 x26 x27 x28 x29:Int):Tr (LR×Int) LR Empty Empty Empty :=
 .w [lim (aa .row []) (aa .row x24),lim (aa .row ([]++x24)) (aa .row [(Row.mk x25 x26 (Time.mk x27 x28) x29)])] (.l (.n (([]++x24)++[(Row.mk x25 x26 (Time.mk x27 x28) x29)])))
def BP:=fun x22 x23 x24 x25 x26 x27 x28 x29=>(lu x22 x23 x24 x25 x26 x27 x28 x29).val
def CP:=fun x22 x23 x24 x25 x26 x27 x28 x29=>(lu x22 x23 x24 x25 x26 x27 x28 x29).ob
def nu:=fun x22 x23 x24 x25 x26 x27 x28 x29=>da.mk (BP x22 x23 x24 x25 x26 x27 x28 x29) (CP x22 x23 x24 x25 x26 x27 x28 x29) [0,1,1,1] [(0,.box [(.sh,.lst .byte x22),(.fr,.i x23)]),(1,.S .row x24),(5,.box [(.fr,.i x25),(.fr,.i x26),(.fr,.i x27),(.fr,.i x28),(.fr,.i x29)])] (AG x22) (fun q=>[(0,.box [(.sh,.lst .byte x22),(.fr,.i x23)]),(4,.v (.acc false) (.lst .row q))]) nE nE nE
theorem U7 (G:Good Tryz.prog tt gu) {fr:Fr}:∀ x22 x23 x24 x25 x26 x27 x28 x29,BG fr (nu x22 x23 x24 x25 x26 x27 x28 x29) :=
 fun x22 x23 x24 x25 x26 x27 x28 x29=>any_ok G [0,4] 20 (lu x22 x23 x24 x25 x26 x27 x28 x29) rfl rfl rfl (by kernel_rfl) (by kernel_rfl) (by kernel_rfl)
def pu (a0:(LB×Int)) (a1:LR):Tr (LR×Int) Empty Empty Empty Empty :=
 .k (Ve (a0.1,a0.2)) fun u1=>.w [(cm (a0.1,a0.2))] (.s (ku a0.1 u1.2 a1 u1.1) (fun q20=>.s (nu a0.1 q20.1 a1 q20.2.1 q20.2.2.1 q20.2.2.2.1 q20.2.2.2.2.1 q20.2.2.2.2.2) (fun q31=>.l (.r (q31,q20.1))) nE nE nE) nE nE nE)
def qu:=fun a0 a1=>(pu a0 a1).val
def ru:=fun a0 a1=>(pu a0 a1).ob
def FP:=fun a0 a1=>da.mk (qu a0 a1) (ru a0 a1) [] [(0,.box [(.sh,.lst .byte a0.1),(.fr,.i a0.2)]),(1,.S .row a1)] (AG a0.1) nE nE nE nE
theorem V7 (G:Good Tryz.prog tt gu) {fr:Fr}:∀ a0 a1,BG fr (FP a0 a1) :=
 fun a0 a1=>fa G [([0,1,1],fun e=>⟨ku (gL .byte e 0 0) (gI e 0 1) (gL .row e 1 0) (gRow e 5)⟩),([0,1,1,1],fun e=>⟨nu (gL .byte e 0 0) (gI e 0 1) (gL .row e 1 0) (gI e 5 0) (gI e 5 1) (gI e 5 2) (gI e 5 3) (gI e 5 4)⟩)] ⟨fun _=>⟨rfl,T7 G _ _ _ _⟩,fun _=>⟨rfl,U7 G _ _ _ _ _ _ _ _⟩,trivial⟩ [(0,[0,1]),(1,[0,1,5])] [] [] (pu a0 a1) rfl rfl (by kernel_rfl)
def gj (a0:(LB×Int)) (a1:LR):LR×Int:=ocR (qu a0 a1)
def su (a0:(LB×Int)) (a1:LR):Prop:=ru a0 a1
def EG:Spec:=⟨[.rdr,(.lst .row)],.one (.acc false) (.lst .row),true,fun x=>gj x.1 x.2.1,fun x=>su x.1 x.2.1⟩
theorem X7 (G:Good Tryz.prog tt gu):Con Tryz.prog 64 EG :=
 Pf (pts:=[.rdr,(.lst .row)]) (rt:=.one (.acc false) (.lst .row)) (o:=fun x=>qu x.1 x.2.1) (ob:=fun x=>ru x.1 x.2.1) G (fn:=Tryz.f64) (c:=ia Tryz.f64) (by kernel_rfl) (by kernel_rfl) (by kernel_rfl) (rs:=[.tmp 4]) (fz:=F64.fz) (by kernel_rfl) (by kernel_rfl) (fun h=>Bool.noConfusion h) rfl (fun x=>x.1.1) (fun _=>rfl) (fun x=>FP x.1 x.2.1) (fun _=>⟨rfl,rfl,rfl,rfl,rfl⟩) (fun x _=>V7 G x.1 x.2.1)
def GP:SP:=[(63,Ms),(38,Af),(64,EG)]
abbrev F39:Fnn:=⟨[.tmp 2],.one (.acc false) (.lst .row),some 0,[]⟩
abbrev Y7 (b:LB):LR×Int→RV:=fun q=>(some (RT.av (.one (.acc false) (.lst .row)) q.1),.box [(.sh,.lst .byte b),(.fr,.i q.2)])
abbrev Z7 (fr:Fr) {A X Y Z:Type} (S:da (LR×Int) A X Y Z):Prop:=ua Tryz.prog tt ⟨Tryz.f39.ntmps,some 0,[]⟩ fr (ia Tryz.f39) F39 S
def tu (a0:(LB×Int)):Tr (LR×Int) Empty Empty Empty Empty :=
 .k (Bf (a0.1,a0.2) 10) fun u1=>.w [(im (a0.1,a0.2) 10)] (.k (va (a0.1,u1.2) 14) fun u2=>.w [(Fb (a0.1,u1.2) 14)] (.c (cmp .eql u2.1 0)
 (.k (gj (a0.1,u2.2) u1.1) fun u4=>.w [(su (a0.1,u2.2) u1.1)] (.l (.r (u4.1,u4.2))))
 (.l (.r (u1.1,u2.2)))))
def uu:=fun a0=>(tu a0).val
def vu:=fun a0=>(tu a0).ob
def HP:=fun a0=>da.mk (uu a0) (vu a0) [] [(0,.box [(.sh,.lst .byte a0.1),(.fr,.i a0.2)])] (Y7 a0.1) nE nE nE nE
theorem c8 (G:Good Tryz.prog tt GP) {fr:Fr}:∀ a0,Z7 fr (HP a0) :=
 fun a0=>fa G [] trivial [(0,[0]),(1,[0,3]),(2,[0,3,8]),(3,[0,2]),(4,[0,2])] [] [] (tu a0) rfl rfl (by kernel_rfl)
def Dd (a0:(LB×Int)):LR×Int:=ocR (uu a0)
def Vh (a0:(LB×Int)):Prop:=vu a0
def FG:Spec:=⟨[.rdr],.one (.acc false) (.lst .row),true,fun x=>Dd x.1,fun x=>Vh x.1⟩
theorem d8 (G:Good Tryz.prog tt GP):Con Tryz.prog 39 FG :=
 Pf (pts:=[.rdr]) (rt:=.one (.acc false) (.lst .row)) (o:=fun x=>uu x.1) (ob:=fun x=>vu x.1) G (fn:=Tryz.f39) (c:=ia Tryz.f39) (by kernel_rfl) (by kernel_rfl) (by kernel_rfl) (rs:=[.tmp 2]) (fz:=F39.fz) (by kernel_rfl) (by kernel_rfl) (fun h=>Bool.noConfusion h) rfl (fun x=>x.1.1) (fun _=>rfl) (fun x=>HP x.1) (fun _=>⟨rfl,rfl,rfl,rfl,rfl⟩) (fun x _=>c8 G x.1)
def GG:SP:=[(35,QF),(36,VF),(37,zG),(38,Af),(39,FG)]
def Qg (a0:LB):Plan×List LR×Unit :=
 let r:=Kg a0
 let p:=Ue (r.1,r.2)
 let a:=Gc (r.1,p.2) 5
 let b:=Gc (r.1,a.2) 5
 let c:=va (r.1,b.2) 30
 let i:=cond (cmp .eql c.1 0) [b.1] [a.1,b.1]
 let d:=va (r.1,c.2) 30
 let y:=Dd (r.1,d.2)
 (p.1,cond (cmp .eql d.1 0) (y.1::i.tail) i,())
def ij (a0:LB):Prop :=
 let r:=Kg a0
 let p:=Ue (r.1,r.2)
 let a:=Gc (r.1,p.2) 5
 let b:=Gc (r.1,a.2) 5
 let c:=va (r.1,b.2) 30
 let d:=va (r.1,c.2) 30
 Yl a0∧bm (r.1,r.2)∧Uh (r.1,p.2) 5∧Uh (r.1,a.2) 5∧Fb (r.1,b.2) 30∧Fb (r.1,c.2) 30∧(cmp .eql d.1 0=true→Vh (r.1,d.2))
def wu:Spec:=⟨[.lst .byte],.tup [(false,.st .plan),(false,.lst .lrow)],false,fun x=>(Qg x.1,0),fun x=>ij x.1⟩
def xu:SP:=[]
abbrev F92:Fnn:=⟨[.tmp 2,.tmp 3,.tmp 4],.tup [(true,(.int .i64)),(true,(.int .i64)),(true,(.int .i64))],none,[]⟩
abbrev HG:Int×Int×Int×Unit→RV:=fun q=>(some (RT.av (.tup [(true,(.int .i64)),(true,(.int .i64)),(true,(.int .i64))]) q),.dead)
abbrev IG (fr:Fr) {A X Y Z:Type} (S:da (Int×Int×Int×Unit) A X Y Z):Prop:=ua Tryz.prog tt ⟨Tryz.f92.ntmps,none,[]⟩ fr (ia Tryz.f92) F92 S
def yu (x4:Int):Tr (Int×Int×Int×Unit) Bool Empty Empty Empty :=
 .c (cmp .eql x4 3)
 (.l (.n (cmp .eql x4 3)))
 (.l (.n (cmp .eql x4 5)))
def IP:=fun x4=>(yu x4).val
def JP:=fun x4=>(yu x4).ob
def zu:=fun x4=>da.mk (IP x4) (JP x4) [0,1,1,1,1,0,1,0,1] [(5,.I x4)] HG (fun q=>[(5,.I x4),(10,.O q)]) nE nE nE
theorem g8 (G:Good Tryz.prog tt xu) {fr:Fr}:∀ x4,IG fr (zu x4) :=
 fun x4=>fa G [] trivial [(6,[5,10]),(7,[5,10])] [] [] (yu x4) rfl rfl (by kernel_rfl)
def Au (x1:Int):Tr (Int×Int×Int×Unit) Unit Empty Empty Empty :=
 .c (cmp .eql x1 1)
 (.l (.r (0,(0,(1,())))))
 (.c (cmp .eql x1 2)
 (.l (.r (1,(1,(7,())))))
 (.s (zu x1) (fun q7=>.c q7
 (.l (.r (2,(0,(0,())))))
 (.c (cmp .eql x1 4)
 (.l (.r (1,(0,(0,())))))
 (.c (cmp .eql x1 6)
 (.l (.r (1,(1,(3,())))))
 (.l (.n ()))))) nE nE nE))
def OP:=fun x1=>(Au x1).val
def PP:=fun x1=>(Au x1).ob
def Bu:=fun x1=>da.mk (OP x1) (PP x1) [0,1] [(0,.I x1)] HG (fun _=>[]) nE nE nE
theorem j8 (G:Good Tryz.prog tt xu) {fr:Fr}:∀ x1,IG fr (Bu x1) :=
 fun x1=>fa G [([0,1,1,1,1,0,1,0,1],fun e=>⟨zu (gI e 5 0)⟩)] ⟨fun _=>⟨rfl,g8 G _⟩,trivial⟩ [(1,[5]),(2,[5,6]),(3,[2,3,4]),(4,[5,8]),(5,[2,3,4]),(8,[2,3,4]),(9,[5,13]),(10,[2,3,4]),(11,[15]),(12,[2,3,4])] [] [] (Au x1) rfl rfl (by kernel_rfl)
def Cu (a0:Int):Tr (Int×Int×Int×Unit) Empty Empty Empty Empty :=
 .s (Bu a0) (fun _=>.l (.r ((-1),(0,(0,()))))) nE nE nE
def Du:=fun a0=>(Cu a0).val
def Eu:=fun a0=>(Cu a0).ob
def QP:=fun a0=>da.mk (Du a0) (Eu a0) [] [(0,.I a0)] HG nE nE nE nE
theorem l8 (G:Good Tryz.prog tt xu) {fr:Fr}:∀ a0,IG fr (QP a0) :=
 fun a0=>fa G [([0,1],fun e=>⟨Bu (gI e 0 0)⟩)] ⟨fun _=>⟨rfl,j8 G _⟩,trivial⟩ [(0,[0]),(13,[2,3,4])] [] [] (Cu a0) rfl rfl (by kernel_rfl)
def Wh (a0:Int):Int×Int×Int×Unit:=ocR (Du a0)
def Fu (a0:Int):Prop:=Eu a0
def JG:Spec:=⟨[(.int .i64)],.tup [(true,(.int .i64)),(true,(.int .i64)),(true,(.int .i64))],false,fun x=>(Wh x.1,0),fun x=>Fu x.1⟩
theorem m8 (G:Good Tryz.prog tt xu):Con Tryz.prog 92 JG :=
 Ca (pts:=[(.int .i64)]) (rt:=.tup [(true,(.int .i64)),(true,(.int .i64)),(true,(.int .i64))]) (o:=fun x=>Du x.1) (ob:=fun x=>Eu x.1) G (fn:=Tryz.f92) (c:=ia Tryz.f92) (by kernel_rfl) (by kernel_rfl) (by kernel_rfl) (rs:=[.tmp 2,.tmp 3,.tmp 4]) (fz:=F92.fz) (by kernel_rfl) (by kernel_rfl) (fun _=>rfl) rfl (fun x=>QP x.1) (fun _=>⟨rfl,rfl,rfl,rfl,rfl⟩) (fun x _=>l8 G x.1)
abbrev V65:=Plan→Int→Bool
abbrev Q65:=Plan→Int→Prop
def Gu (v:V65) (p:Q65):Spec:=⟨[(.st .plan),(.int .i64)],.one .fr .bool,false,fun x=>(v x.1 x.2.1,0),fun x=>p x.1 x.2.1⟩
def Dm (r65V:V65) (r65P:Q65):SP:=[(92,JG),(53,jm),(65,Gu r65V r65P)]
abbrev F65:Fnn:=⟨[.tmp 4],.one .fr .bool,none,[]⟩
abbrev LG:Bool→RV:=fun q=>(some (RT.av (.one .fr .bool) q),.dead)
abbrev Hu (fr:Fr) {A X Y Z:Type} (S:da Bool A X Y Z):Prop:=ua Tryz.prog tt ⟨Tryz.f65.ntmps,none,[]⟩ fr (ia Tryz.f65) F65 S
def Em (r65V:V65) (r65P:Q65) (x8 _x9 _x10:Int) (x11:LP) (s16:Int):Tr Bool Int Unit Empty Empty :=
 .c (cmp .lss s16 (aa .plan x11))
 (.w [inb s16 (aa .plan x11),(r65P (Plan.mk (rd .plan x11 s16).Kind (rd .plan x11 s16).Num (rd .plan x11 s16).Kids) (ar .sub .i64 x8 1))] (.c (!(r65V (Plan.mk (rd .plan x11 s16).Kind (rd .plan x11 s16).Num (rd .plan x11 s16).Kids) (ar .sub .i64 x8 1)))
 (.l (.r false))
 (.l (.n (ar .add .i64 s16 1)))))
 (.l (.x ()))
def jj:=fun r65V r65P x8 x9 x10 x11 s16=>(Em r65V r65P x8 x9 x10 x11 s16).val
def Fm:=fun r65V r65P x8 x9 x10 x11 s16=>(Em r65V r65P x8 x9 x10 x11 s16).ob
def MG:=fun r65V r65P x8 x9 x10 x11 s16=>Na (jj r65V r65P x8 x9 x10 x11 s16) (Fm r65V r65P x8 x9 x10 x11 s16) [0,0,1,0,1,1,1] (fun q=>[(1,.I x8),(2,.box [(.fr,.i x9),(.fr,.i x10),(.sh,.lst .plan x11)]),(8,.I q)]) s16 LG (fun _=>(0,[])) nE nE
theorem n8 {r65V:V65} {r65P:Q65} (G:Good Tryz.prog tt (Dm r65V r65P)) {fr:Fr}:∀ x8 x9 x10 x11 s16,Hu fr (MG r65V r65P x8 x9 x10 x11 s16) :=
 fun x8 x9 x10 x11 s16=>fa G [] trivial [(5,[1,2,8,37]),(6,[1,2,8]),(7,[1,2,8,48]),(8,[4])] [] [] (Em r65V r65P x8 x9 x10 x11 s16) rfl rfl (by kernel_rfl)
def TP:=fun r65V r65P x8 x9 x10 x11=>lpV (fun s:Int=>ca (jj r65V r65P x8 x9 x10 x11 s)) 0
def UP:=fun r65V r65P x8 x9 x10 x11=>LpT (fun s:Int=>ca (jj r65V r65P x8 x9 x10 x11 s)) (fun s=>Fm r65V r65P x8 x9 x10 x11 s) 0
def Iu:=fun r65V r65P x8 x9 x10 x11=>lpS (MG r65V r65P x8 x9 x10 x11 0) (TP r65V r65P x8 x9 x10 x11) (UP r65V r65P x8 x9 x10 x11)
theorem t8 {r65V:V65} {r65P:Q65} (G:Good Tryz.prog tt (Dm r65V r65P)) {fr:Fr}:∀ x8 x9 x10 x11,Hu fr (Iu r65V r65P x8 x9 x10 x11) :=
 fun x8 x9 x10 x11=>Oa (fun s:Int=>MG r65V r65P x8 x9 x10 x11 s) 0 (fun _=>rfl) (fun _=>⟨rfl,rfl,rfl,rfl,rfl⟩) (by kernel_rfl) fun _=>n8 G _ _ _ _ _
def Ju (r65V:V65) (r65P:Q65) (x4 x5 x6:Int) (x7:LP):Tr Bool Unit Empty Empty Empty :=
 .s (Iu r65V r65P x4 x5 x6 x7) nE (fun _=>.l (.n ())) nE nE
def VP:=fun r65V r65P x4 x5 x6 x7=>(Ju r65V r65P x4 x5 x6 x7).val
def WP:=fun r65V r65P x4 x5 x6 x7=>(Ju r65V r65P x4 x5 x6 x7).ob
def Ku:=fun r65V r65P x4 x5 x6 x7=>da.mk (VP r65V r65P x4 x5 x6 x7) (WP r65V r65P x4 x5 x6 x7) [0,1,1,1] [(1,.I x4),(2,.box [(.fr,.i x5),(.fr,.i x6),(.sh,.lst .plan x7)])] LG (fun _=>[]) nE nE nE
theorem v8 {r65V:V65} {r65P:Q65} (G:Good Tryz.prog tt (Dm r65V r65P)) {fr:Fr}:∀ x4 x5 x6 x7,Hu fr (Ku r65V r65P x4 x5 x6 x7) :=
 fun x4 x5 x6 x7=>fa G [([0,1,0,1,1,1],fun e=>⟨Iu r65V r65P (gI e 1 0) (gI e 2 0) (gI e 2 1) (gL .plan e 2 2)⟩)] ⟨fun _=>⟨rfl,t8 G _ _ _ _⟩,trivial⟩ [(4,[1,2,8])] [] [] (Ju r65V r65P x4 x5 x6 x7) rfl rfl (by kernel_rfl)
def lj (r65V:V65) (r65P:Q65) (a0:Plan) (a1:Int):Tr Bool Empty Empty Empty Empty :=
 .k (Wh a0.Kind) fun u1=>.w [(Fu a0.Kind)] (.w [(((!(cond (cmp .lss a1 1) true (cmp .neq (aa .plan a0.Kids) u1.1)))&&true)=true→(Zf a0.Num u1.2.1 u1.2.2.1))] (.c (cond (cond (cmp .lss a1 1) true (cmp .neq (aa .plan a0.Kids) u1.1)) true (!(Md a0.Num u1.2.1 u1.2.2.1)))
 (.l (.r false))
 (.s (Ku r65V r65P a1 a0.Kind a0.Num a0.Kids) (fun _=>.l (.r true)) nE nE nE)))
def Xh:=fun r65V r65P a0 a1=>(lj r65V r65P a0 a1).val
def Yh:=fun r65V r65P a0 a1=>(lj r65V r65P a0 a1).ob
def aQ:=fun r65V r65P a0 a1=>da.mk (Xh r65V r65P a0 a1) (Yh r65V r65P a0 a1) [] [(0,.agg false [.i a0.Kind,.i a0.Num,.lst .plan a0.Kids]),(1,.I a1)] LG nE nE nE nE
theorem z8 {r65V:V65} {r65P:Q65} (G:Good Tryz.prog tt (Dm r65V r65P)) {fr:Fr}:∀ a0 a1,Hu fr (aQ r65V r65P a0 a1) :=
 fun a0 a1=>fa G [([0,1,1,1],fun e=>⟨Ku r65V r65P (gI e 1 0) (gI e 2 0) (gI e 2 1) (gL .plan e 2 2)⟩)] ⟨fun _=>⟨rfl,v8 G _ _ _ _⟩,trivial⟩ [(0,[1,2]),(1,[1,2,5,6,7]),(2,[1,2,32]),(3,[4]),(9,[4])] [] [] (lj r65V r65P a0 a1) rfl rfl (by kernel_rfl)
theorem A8 {r65V:V65} {r65P:Q65} (G:Good Tryz.prog tt (Dm r65V r65P)):Con Tryz.prog 65 (Gu (fun a0 a1=>ocR (Xh r65V r65P a0 a1)) (fun a0 a1=>Yh r65V r65P a0 a1)) :=
 Ca (pts:=[(.st .plan),(.int .i64)]) (rt:=.one .fr .bool) (o:=fun x=>Xh r65V r65P x.1 x.2.1) (ob:=fun x=>Yh r65V r65P x.1 x.2.1) G (fn:=Tryz.f65) (c:=ia Tryz.f65) (by kernel_rfl) (by kernel_rfl) (by kernel_rfl) (rs:=[.tmp 4]) (fz:=F65.fz) (by kernel_rfl) (by kernel_rfl) (fun _=>rfl) rfl (fun x=>aQ r65V r65P x.1 x.2.1) (fun _=>⟨rfl,rfl,rfl,rfl,rfl⟩) (fun x _=>z8 G x.1 x.2.1)
def Ic:Nat→V65×Q65
 | 0=>(fun _ _=>default,fun _ _=>False)
 | n+1=>(fun a0 a1=>ocR (Xh (Ic n).1 (Ic n).2 a0 a1),fun a0 a1=>Yh (Ic n).1 (Ic n).2 a0 a1)
def bQ:V65:=(Ic Nc).1
def cQ:Q65:=(Ic Nc).2
def dQ:Spec:=Gu bQ cQ
def eQ:SP:=[(65,dQ)]
abbrev F40:Fnn:=⟨[.tmp 2],.one .fr .bool,none,[]⟩
abbrev B8:Bool→RV:=fun q=>(some (RT.av (.one .fr .bool) q),.dead)
abbrev D8 (fr:Fr) {A X Y Z:Type} (S:da Bool A X Y Z):Prop:=ua Tryz.prog tt ⟨Tryz.f40.ntmps,none,[]⟩ fr (ia Tryz.f40) F40 S
def Lu (a0:Plan):Tr Bool Empty Empty Empty Empty :=
 .w [(cQ (Plan.mk a0.Kind a0.Num a0.Kids) 4)] (.l (.r (bQ (Plan.mk a0.Kind a0.Num a0.Kids) 4)))
def Mu:=fun a0=>(Lu a0).val
def Nu:=fun a0=>(Lu a0).ob
def fQ:=fun a0=>da.mk (Mu a0) (Nu a0) [] [(0,.agg false [.i a0.Kind,.i a0.Num,.lst .plan a0.Kids])] B8 nE nE nE nE
theorem E8 (G:Good Tryz.prog tt eQ) {fr:Fr}:∀ a0,D8 fr (fQ a0) :=
 fun a0=>fa G [] trivial [(0,[1]),(1,[2])] [] [] (Lu a0) rfl rfl (by kernel_rfl)
def Ou (a0:Plan):Bool:=ocR (Mu a0)
def Pu (a0:Plan):Prop:=Nu a0
def QG:Spec:=⟨[(.st .plan)],.one .fr .bool,false,fun x=>(Ou x.1,0),fun x=>Pu x.1⟩
theorem G8 (G:Good Tryz.prog tt eQ):Con Tryz.prog 40 QG :=
 Ca (pts:=[(.st .plan)]) (rt:=.one .fr .bool) (o:=fun x=>Mu x.1) (ob:=fun x=>Nu x.1) G (fn:=Tryz.f40) (c:=ia Tryz.f40) (by kernel_rfl) (by kernel_rfl) (by kernel_rfl) (rs:=[.tmp 2]) (fz:=F40.fz) (by kernel_rfl) (by kernel_rfl) (fun _=>rfl) rfl (fun x=>fQ x.1) (fun _=>⟨rfl,rfl,rfl,rfl,rfl⟩) (fun x _=>E8 G x.1)
def gQ:SP:=[]
abbrev F93:Fnn:=⟨[.tmp 6,.tmp 7,.tmp 8],.tup [(true,(.int .i64)),(true,(.int .i64)),(true,.bool)],none,[]⟩
abbrev H8:Int×Int×Bool×Unit→RV:=fun q=>(some (RT.av (.tup [(true,(.int .i64)),(true,(.int .i64)),(true,.bool)]) q),.dead)
abbrev I8 (fr:Fr) {A X Y Z:Type} (S:da (Int×Int×Bool×Unit) A X Y Z):Prop:=ua Tryz.prog tt ⟨Tryz.f93.ntmps,none,[]⟩ fr (ia Tryz.f93) F93 S
def Qu (a0 a1 a2:Int):Tr (Int×Int×Bool×Unit) Empty Empty Empty Empty :=
 .c (cmp .eql a2 1)
 (.w [(4:Int)≠0,(4:Int)≠0] (.l (.r ((ar .rem .i64 a1 4),((ar .add .i64 (ar .mul .i64 (ar .quo .i64 a1 4) 4) a0),(true,()))))))
 (.c (cmp .eql a2 2)
 (.w [(100:Int)≠0] (.l (.r (a0,((ar .rem .i64 (ar .add .i64 a1 1) 100),(true,()))))))
 (.c (cmp .eql a2 3)
 (.w [(4:Int)≠0] (.l (.r ((ar .rem .i64 a1 4),(a1,(true,()))))))
 (.c (cmp .eql a2 4)
 (.l (.r (0,(a1,(true,())))))
 (.c (cmp .eql a2 5)
 (.w [(2:Int)≠0] (.l (.r (a0,(a1,((cmp .eql (ar .rem .i64 a1 2) 0),()))))))
 (.c (cmp .eql a2 6)
 (.w [(2:Int)≠0] (.l (.r (a0,(a1,((cmp .eql (ar .rem .i64 a0 2) 0),()))))))
 (.l (.r (a0,(a1,((cmp .lss a1 10),()))))))))))
def Ru:=fun a0 a1 a2=>(Qu a0 a1 a2).val
def Su:=fun a0 a1 a2=>(Qu a0 a1 a2).ob
def iQ:=fun a0 a1 a2=>da.mk (Ru a0 a1 a2) (Su a0 a1 a2) [] [(0,.I a0),(1,.I a1),(2,.I a2)] H8 nE nE nE nE
theorem J8 (G:Good Tryz.prog tt gQ) {fr:Fr}:∀ a0 a1 a2,I8 fr (iQ a0 a1 a2) :=
 fun a0 a1 a2=>fa G [] trivial [(0,[0,1,2]),(1,[0,1,9]),(2,[0,1,9,10]),(3,[6,7,8]),(4,[0,1,9,19]),(5,[6,7,8]),(6,[0,1,9,25]),(7,[6,7,8]),(8,[0,1,9,30]),(9,[6,7,8]),(10,[0,1,9,33]),(11,[6,7,8]),(12,[0,1,40]),(13,[6,7,8]),(14,[6,7,8])] [] [] (Qu a0 a1 a2) rfl rfl (by kernel_rfl)
def Tu (a0:Int) (a1:Int) (a2:Int):Int×Int×Bool×Unit:=ocR (Ru a0 a1 a2)
def Uu (a0:Int) (a1:Int) (a2:Int):Prop:=Su a0 a1 a2
def RG:Spec:=⟨[(.int .i64),(.int .i64),(.int .i64)],.tup [(true,(.int .i64)),(true,(.int .i64)),(true,.bool)],false,fun x=>(Tu x.1 x.2.1 x.2.2.1,0),fun x=>Uu x.1 x.2.1 x.2.2.1⟩
theorem L8 (G:Good Tryz.prog tt gQ):Con Tryz.prog 93 RG :=
 Ca (pts:=[(.int .i64),(.int .i64),(.int .i64)]) (rt:=.tup [(true,(.int .i64)),(true,(.int .i64)),(true,.bool)]) (o:=fun x=>Ru x.1 x.2.1 x.2.2.1) (ob:=fun x=>Su x.1 x.2.1 x.2.2.1) G (fn:=Tryz.f93) (c:=ia Tryz.f93) (by kernel_rfl) (by kernel_rfl) (by kernel_rfl) (rs:=[.tmp 6,.tmp 7,.tmp 8]) (fz:=F93.fz) (by kernel_rfl) (by kernel_rfl) (fun _=>rfl) rfl (fun x=>iQ x.1 x.2.1 x.2.2.1) (fun _=>⟨rfl,rfl,rfl,rfl,rfl⟩) (fun x _=>J8 G x.1 x.2.1 x.2.2.1)
def mj:SP:=[(93,RG),(68,fg)]
abbrev F67:Fnn:=⟨[.tmp 4],.one (.acc true) (.lst .row),none,[]⟩
abbrev Vu:LR→RV:=fun q=>(some (RT.av (.one (.acc true) (.lst .row)) q),.dead)
abbrev Gm (fr:Fr) {A X Y Z:Type} (S:da LR A X Y Z):Prop:=ua Tryz.prog tt ⟨Tryz.f67.ntmps,none,[]⟩ fr (ia Tryz.f67) F67 S
def Wu (x20:LR) (x21:Int) (x22:LR) (x23:Int):Tr LR LR Empty Empty Empty :=
 .k (Tu (rd .row x20 x23).Key (rd .row x20 x23).Val x21) fun u24=>.w [inb x23 (aa .row x20),inb x23 (aa .row x20),(Uu (rd .row x20 x23).Key (rd .row x20 x23).Val x21)] (.c u24.2.2.1
 (.w [inb x23 (aa .row x20),inb x23 (aa .row x20),lim (aa .row x22) (aa .row [(Row.mk u24.1 u24.2.1 (rd .row x20 x23).At (rd .row x20 x23).Diff)])] (.l (.n (x22++[(Row.mk u24.1 u24.2.1 (rd .row x20 x23).At (rd .row x20 x23).Diff)]))))
 (.l (.n x22)))
def jQ:=fun x20 x21 x22 x23=>(Wu x20 x21 x22 x23).val
def kQ:=fun x20 x21 x22 x23=>(Wu x20 x21 x22 x23).ob
def Xu:=fun x20 x21 x22 x23=>da.mk (jQ x20 x21 x22 x23) (kQ x20 x21 x22 x23) [0,1,0,0,1,0,1,1] [(0,.S .row x20),(1,.I x21),(5,.A .row x22),(6,.I x23)] Vu (fun q=>[(0,.S .row x20),(1,.I x21),(5,.A .row q),(6,.I x23)]) nE nE nE
theorem M8 (G:Good Tryz.prog tt mj) {fr:Fr}:∀ x20 x21 x22 x23,Gm fr (Xu x20 x21 x22 x23) :=
 fun x20 x21 x22 x23=>fa G [] trivial [(5,[0,1,5,6,7,8,9]),(6,[0,1,5,6,7,8,33]),(7,[0,1,5,6])] [] [] (Wu x20 x21 x22 x23) rfl rfl (by kernel_rfl)
def Hm (x3:LR) (x4:Int) (s17:LR) (s18:Int):Tr LR (LR×Int) LR Empty Empty :=
 .c (cmp .lss s18 (aa .row x3))
 (.s (Xu x3 x4 s17 s18) (fun q27=>.l (.n (q27,(ar .add .i64 s18 1)))) nE nE nE)
 (.l (.x s17))
def nj:=fun x3 x4 s17 s18=>(Hm x3 x4 s17 s18).val
def Im:=fun x3 x4 s17 s18=>(Hm x3 x4 s17 s18).ob
def SG:=fun x3 x4 s17 s18=>Na (nj x3 x4 s17 s18) (Im x3 x4 s17 s18) [0,0,1,0,1,1] (fun q=>[(0,.S .row x3),(1,.I x4),(5,.A .row q.1),(6,.I q.2)]) (s17,s18) Vu (fun q=>(0,[(5,.A .row q)])) nE nE
theorem O8 (G:Good Tryz.prog tt mj) {fr:Fr}:∀ x3 x4 s17 s18,Gm fr (SG x3 x4 s17 s18) :=
 fun x3 x4 s17 s18=>fa G [([0,1,0,0,1,0,1,1],fun e=>⟨Xu (gL .row e 0 0) (gI e 1 0) (gL .row e 5 0) (gI e 6 0)⟩)] ⟨fun _=>⟨rfl,M8 G _ _ _ _⟩,trivial⟩ [(3,[0,1,5,6,14]),(4,[0,1,5,6])] [] [] (Hm x3 x4 s17 s18) rfl rfl (by kernel_rfl)
def lQ:=fun x3 x4=>lpV (fun s:LR×Int=>ca (nj x3 x4 s.1 s.2)) ([],0)
def mQ:=fun x3 x4=>LpT (fun s:LR×Int=>ca (nj x3 x4 s.1 s.2)) (fun s=>Im x3 x4 s.1 s.2) ([],0)
def Yu:=fun x3 x4=>lpS (SG x3 x4 [] 0) (lQ x3 x4) (mQ x3 x4)
theorem P8 (G:Good Tryz.prog tt mj) {fr:Fr}:∀ x3 x4,Gm fr (Yu x3 x4) :=
 fun x3 x4=>Oa (fun s:LR×Int=>SG x3 x4 s.1 s.2) ([],0) (fun _=>rfl) (fun _=>⟨rfl,rfl,rfl,rfl,rfl⟩) (by kernel_rfl) fun _=>O8 G _ _ _ _
def Zu (x1:LR) (x2:Int):Tr LR LR Empty Empty Empty :=
 .s (Yu x1 x2) nE (fun q38=>.l (.n q38)) nE nE
def nQ:=fun x1 x2=>(Zu x1 x2).val
def oQ:=fun x1 x2=>(Zu x1 x2).ob
def bv:=fun x1 x2=>da.mk (nQ x1 x2) (oQ x1 x2) [0,1,1] [(0,.S .row x1),(1,.I x2),(5,.A .row [])] Vu (fun q=>[(5,.A .row q)]) nE nE nE
theorem Q8 (G:Good Tryz.prog tt mj) {fr:Fr}:∀ x1 x2,Gm fr (bv x1 x2) :=
 fun x1 x2=>fa G [([0,1,0,1,1],fun e=>⟨Yu (gL .row e 0 0) (gI e 1 0)⟩)] ⟨fun _=>⟨rfl,P8 G _ _⟩,trivial⟩ [(2,[0,1,5,6])] [] [] (Zu x1 x2) rfl rfl (by kernel_rfl)
def cv (a0:LR) (a1:Int):Tr LR Empty Empty Empty Empty :=
 .s (bv a0 a1) (fun q41=>.w [(Cf q41)] (.l (.r (ze q41)))) nE nE nE
def dv:=fun a0 a1=>(cv a0 a1).val
def ev:=fun a0 a1=>(cv a0 a1).ob
def pQ:=fun a0 a1=>da.mk (dv a0 a1) (ev a0 a1) [] [(0,.S .row a0),(1,.I a1)] Vu nE nE nE nE
theorem R8 (G:Good Tryz.prog tt mj) {fr:Fr}:∀ a0 a1,Gm fr (pQ a0 a1) :=
 fun a0 a1=>fa G [([0,1,1],fun e=>⟨bv (gL .row e 0 0) (gI e 1 0)⟩)] ⟨fun _=>⟨rfl,Q8 G _ _⟩,trivial⟩ [(0,[0,1]),(1,[0,1,5]),(8,[4])] [] [] (cv a0 a1) rfl rfl (by kernel_rfl)
def fv (a0:LR) (a1:Int):LR:=ocR (dv a0 a1)
def gv (a0:LR) (a1:Int):Prop:=ev a0 a1
def UG:Spec:=⟨[(.lst .row),(.int .i64)],.one (.acc true) (.lst .row),false,fun x=>(fv x.1 x.2.1,0),fun x=>gv x.1 x.2.1⟩
theorem S8 (G:Good Tryz.prog tt mj):Con Tryz.prog 67 UG :=
 Ca (pts:=[(.lst .row),(.int .i64)]) (rt:=.one (.acc true) (.lst .row)) (o:=fun x=>dv x.1 x.2.1) (ob:=fun x=>ev x.1 x.2.1) G (fn:=Tryz.f67) (c:=ia Tryz.f67) (by kernel_rfl) (by kernel_rfl) (by kernel_rfl) (rs:=[.tmp 4]) (fz:=F67.fz) (by kernel_rfl) (by kernel_rfl) (fun _=>rfl) rfl (fun x=>pQ x.1 x.2.1) (fun _=>⟨rfl,rfl,rfl,rfl,rfl⟩) (fun x _=>R8 G x.1 x.2.1)
def Jm:SP:=[(23,Lh),(68,fg),(90,Ut)]
abbrev F69:Fnn:=⟨[.tmp 2],.one .sh (.lst .row),none,[]⟩
abbrev VG:LR→RV:=fun q=>(some (RT.av (.one .sh (.lst .row)) q),.dead)
abbrev iv (fr:Fr) {A X Y Z:Type} (S:da LR A X Y Z):Prop:=ua Tryz.prog tt ⟨Tryz.f69.ntmps,none,[]⟩ fr (ia Tryz.f69) F69 S
def Km (x2 s7:LR) (s8:Int):Tr LR (LR×Int) LR Empty Empty :=
 .w [(((cmp .lss s8 (aa .row x2))&&true)=true→(Mg x2))] (.c (cond (cmp .lss s8 (aa .row x2)) (bg x2) false)
 (.w [inb s8 (aa .row x2)] (.w [lim (aa .row s7) (aa .row [(Row.mk (rd .row x2 s8).Key (rd .row x2 s8).Val (rd .row x2 s8).At (IntKind.wrap .i64 (0 - (rd .row x2 s8).Diff)))])] (.l (.n ((s7++[(Row.mk (rd .row x2 s8).Key (rd .row x2 s8).Val (rd .row x2 s8).At (IntKind.wrap .i64 (0 - (rd .row x2 s8).Diff)))]),(ar .add .i64 s8 1))))))
 (.l (.x s7)))
def pj:=fun x2 s7 s8=>(Km x2 s7 s8).val
def Lm:=fun x2 s7 s8=>(Km x2 s7 s8).ob
def WG:=fun x2 s7 s8=>Na (pj x2 s7 s8) (Lm x2 s7 s8) [0,0,1,0,1,1] (fun q=>[(0,.S .row x2),(3,.A .row q.1),(4,.I q.2)]) (s7,s8) VG (fun q=>(0,[(3,.A .row q)])) nE nE
theorem U8 (G:Good Tryz.prog tt Jm) {fr:Fr}:∀ x2 s7 s8,iv fr (WG x2 s7 s8) :=
 fun x2 s7 s8=>fa G [] trivial [(3,[0,3,4,14]),(4,[0,3,4]),(5,[0,3,4,5]),(6,[0,3,4,5]),(7,[0,3,4])] [] [] (Km x2 s7 s8) rfl rfl (by kernel_rfl)
def qQ:=fun x2=>lpV (fun s:LR×Int=>ca (pj x2 s.1 s.2)) ([],0)
def rQ:=fun x2=>LpT (fun s:LR×Int=>ca (pj x2 s.1 s.2)) (fun s=>Lm x2 s.1 s.2) ([],0)
def jv:=fun x2=>lpS (WG x2 [] 0) (qQ x2) (rQ x2)
theorem V8 (G:Good Tryz.prog tt Jm) {fr:Fr}:∀ x2,iv fr (jv x2) :=
 fun x2=>Oa (fun s:LR×Int=>WG x2 s.1 s.2) ([],0) (fun _=>rfl) (fun _=>⟨rfl,rfl,rfl,rfl,rfl⟩) (by kernel_rfl) fun _=>U8 G _ _ _
def lv (x1:LR):Tr LR LR Empty Empty Empty :=
 .s (jv x1) nE (fun q18=>.l (.n q18)) nE nE
def sQ:=fun x1=>(lv x1).val
def tQ:=fun x1=>(lv x1).ob
def mv:=fun x1=>da.mk (sQ x1) (tQ x1) [0,1,1] [(0,.S .row x1),(3,.A .row [])] VG (fun q=>[(3,.A .row q)]) nE nE nE
theorem X8 (G:Good Tryz.prog tt Jm) {fr:Fr}:∀ x1,iv fr (mv x1) :=
 fun x1=>fa G [([0,1,0,1,1],fun e=>⟨jv (gL .row e 0 0)⟩)] ⟨fun _=>⟨rfl,V8 G _⟩,trivial⟩ [(2,[0,3,4])] [] [] (lv x1) rfl rfl (by kernel_rfl)
def nv (a0:LR):Tr LR Empty Empty Empty Empty :=
 .s (mv a0) (fun q21=>.w [(Cf q21),(Th (ze q21))] (.l (.r (Rh (ze q21))))) nE nE nE
def ov:=fun a0=>(nv a0).val
def qv:=fun a0=>(nv a0).ob
def uQ:=fun a0=>da.mk (ov a0) (qv a0) [] [(0,.S .row a0)] VG nE nE nE nE
theorem Y8 (G:Good Tryz.prog tt Jm) {fr:Fr}:∀ a0,iv fr (uQ a0) :=
 fun a0=>fa G [([0,1,1],fun e=>⟨mv (gL .row e 0 0)⟩)] ⟨fun _=>⟨rfl,X8 G _⟩,trivial⟩ [(0,[0]),(1,[0,3]),(8,[2])] [] [] (nv a0) rfl rfl (by kernel_rfl)
def sv (a0:LR):LR:=ocR (ov a0)
def tv (a0:LR):Prop:=qv a0
def XG:Spec:=⟨[(.lst .row)],.one .sh (.lst .row),false,fun x=>(sv x.1,0),fun x=>tv x.1⟩
theorem Z8 (G:Good Tryz.prog tt Jm):Con Tryz.prog 69 XG :=
 Ca (pts:=[(.lst .row)]) (rt:=.one .sh (.lst .row)) (o:=fun x=>ov x.1) (ob:=fun x=>qv x.1) G (fn:=Tryz.f69) (c:=ia Tryz.f69) (by kernel_rfl) (by kernel_rfl) (by kernel_rfl) (rs:=[.tmp 2]) (fz:=F69.fz) (by kernel_rfl) (by kernel_rfl) (fun _=>rfl) rfl (fun x=>uQ x.1) (fun _=>⟨rfl,rfl,rfl,rfl,rfl⟩) (fun x _=>Y8 G x.1)
def vQ:SP:=[]
abbrev F95:Fnn:=⟨[.tmp 4],.one .fr (.int .i64),none,[]⟩
abbrev b9:Int→RV:=fun q=>(some (RT.av (.one .fr (.int .i64)) q),.dead)
abbrev c9 (fr:Fr) {A X Y Z:Type} (S:da Int A X Y Z):Prop:=ua Tryz.prog tt ⟨Tryz.f95.ntmps,none,[]⟩ fr (ia Tryz.f95) F95 S
def YG (a0 a1:Int):Tr Int Empty Empty Empty Empty :=
 .w [(100:Int)≠0] (.l (.r (ar .rem .i64 (ar .add .i64 (ar .mul .i64 a0 10) a1) 100)))
def ZG:=fun a0 a1=>(YG a0 a1).val
def aH:=fun a0 a1=>(YG a0 a1).ob
def wQ:=fun a0 a1=>da.mk (ZG a0 a1) (aH a0 a1) [] [(0,.I a0),(1,.I a1)] b9 nE nE nE nE
theorem d9 (G:Good Tryz.prog tt vQ) {fr:Fr}:∀ a0 a1,c9 fr (wQ a0 a1) :=
 fun a0 a1=>fa G [] trivial [(0,[0,1]),(1,[4])] [] [] (YG a0 a1) rfl rfl (by kernel_rfl)
def bH (a0:Int) (a1:Int):Int:=ocR (ZG a0 a1)
def cH (a0:Int) (a1:Int):Prop:=aH a0 a1
def dH:Spec:=⟨[(.int .i64),(.int .i64)],.one .fr (.int .i64),false,fun x=>(bH x.1 x.2.1,0),fun x=>cH x.1 x.2.1⟩
theorem g9 (G:Good Tryz.prog tt vQ):Con Tryz.prog 95 dH :=
 Ca (pts:=[(.int .i64),(.int .i64)]) (rt:=.one .fr (.int .i64)) (o:=fun x=>ZG x.1 x.2.1) (ob:=fun x=>aH x.1 x.2.1) G (fn:=Tryz.f95) (c:=ia Tryz.f95) (by kernel_rfl) (by kernel_rfl) (by kernel_rfl) (rs:=[.tmp 4]) (fz:=F95.fz) (by kernel_rfl) (by kernel_rfl) (fun _=>rfl) rfl (fun x=>wQ x.1 x.2.1) (fun _=>⟨rfl,rfl,rfl,rfl,rfl⟩) (fun x _=>d9 G x.1 x.2.1)
def xQ:SP:=[(24,Ui)]
abbrev F96:Fnn:=⟨[.cell 4 38],.one .fr (.st .time),none,[]⟩
abbrev j9:Time→RV:=fun q=>(some (RT.av (.one .fr (.st .time)) q),.dead)
abbrev k9 (fr:Fr) {A X Y Z:Type} (S:da Time A X Y Z):Prop:=ua Tryz.prog tt ⟨Tryz.f96.ntmps,none,[]⟩ fr (ia Tryz.f96) F96 S
def uv (a0 a1:Time):Tr Time Empty Empty Empty Empty :=
 .w [(Lg a0),(((!(!(je a0)))&&true)=true→(Lg a1))] (.c (cond (!(je a0)) true (!(je a1)))
 (.l (.r (Time.mk 0 0)))
 (.l (.r (Time.mk (mx a0.A a1.A) (mx a0.B a1.B)))))
def wv:=fun a0 a1=>(uv a0 a1).val
def xv:=fun a0 a1=>(uv a0 a1).ob
def yQ:=fun a0 a1=>da.mk (wv a0 a1) (xv a0 a1) [] [(0,.agg true [.i a0.A,.i a0.B]),(1,.agg true [.i a1.A,.i a1.B])] j9 nE nE nE nE
theorem l9 (G:Good Tryz.prog tt xQ) {fr:Fr}:∀ a0 a1,k9 fr (yQ a0 a1) :=
 fun a0 a1=>fa G [] trivial [(0,[2,3,4]),(1,[2,3,4,12]),(2,[4]),(3,[4])] [] [] (uv a0 a1) rfl rfl (by kernel_rfl)
def Mm (a0:Time) (a1:Time):Time:=ocR (wv a0 a1)
def Nm (a0:Time) (a1:Time):Prop:=xv a0 a1
def yv:Spec:=⟨[(.st .time),(.st .time)],.one .fr (.st .time),false,fun x=>(Mm x.1 x.2.1,0),fun x=>Nm x.1 x.2.1⟩
theorem m9 (G:Good Tryz.prog tt xQ):Con Tryz.prog 96 yv :=
 Ca (pts:=[(.st .time),(.st .time)]) (rt:=.one .fr (.st .time)) (o:=fun x=>wv x.1 x.2.1) (ob:=fun x=>xv x.1 x.2.1) G (fn:=Tryz.f96) (c:=ia Tryz.f96) (by kernel_rfl) (by kernel_rfl) (by kernel_rfl) (rs:=[.cell 4 38]) (fz:=F96.fz) (by kernel_rfl) (by kernel_rfl) (fun _=>rfl) rfl (fun x=>yQ x.1 x.2.1) (fun _=>⟨rfl,rfl,rfl,rfl,rfl⟩) (fun x _=>l9 G x.1 x.2.1)
def ig:SP:=[(95,dH),(96,yv),(68,fg)]
abbrev F70:Fnn:=⟨[.tmp 4],.one (.acc true) (.lst .row),none,[]⟩
abbrev qj:LR→RV:=fun q=>(some (RT.av (.one (.acc true) (.lst .row)) q),.dead)
abbrev Rg (fr:Fr) {A X Y Z:Type} (S:da LR A X Y Z):Prop:=ua Tryz.prog tt ⟨Tryz.f70.ntmps,none,[]⟩ fr (ia Tryz.f70) F70 S
def Av (x83 x84 x85:LR) (x86 x87:Int):Tr LR LR Empty Empty Empty :=
 .w [inb x86 (aa .row x83),inb x87 (aa .row x84)] (.c (cmp .eql (rd .row x83 x86).Key (rd .row x84 x87).Key)
 (.k (bH (rd .row x83 x86).Val (rd .row x84 x87).Val) fun u89=>.k (Mm (rd .row x83 x86).At (rd .row x84 x87).At) fun u90=>.w [inb x86 (aa .row x83),inb x86 (aa .row x83),inb x87 (aa .row x84),(cH (rd .row x83 x86).Val (rd .row x84 x87).Val),inb x86 (aa .row x83),inb x87 (aa .row x84),(Nm (rd .row x83 x86).At (rd .row x84 x87).At),inb x86 (aa .row x83),inb x87 (aa .row x84),lim (aa .row x85) (aa .row [(Row.mk (rd .row x83 x86).Key u89 u90 (ar .mul .i64 (rd .row x83 x86).Diff (rd .row x84 x87).Diff))])] (.l (.n (x85++[(Row.mk (rd .row x83 x86).Key u89 u90 (ar .mul .i64 (rd .row x83 x86).Diff (rd .row x84 x87).Diff))]))))
 (.l (.n x85)))
def zQ:=fun x83 x84 x85 x86 x87=>(Av x83 x84 x85 x86 x87).val
def AQ:=fun x83 x84 x85 x86 x87=>(Av x83 x84 x85 x86 x87).ob
def Bv:=fun x83 x84 x85 x86 x87=>da.mk (zQ x83 x84 x85 x86 x87) (AQ x83 x84 x85 x86 x87) [0,1,0,0,1,0,0,1,0,0,1,0,1,1] [(0,.S .row x83),(1,.S .row x84),(5,.A .row x85),(6,.I x86),(7,.I x87)] qj (fun q=>[(0,.S .row x83),(1,.S .row x84),(5,.A .row q),(6,.I x86),(7,.I x87)]) nE nE nE
theorem n9 (G:Good Tryz.prog tt ig) {fr:Fr}:∀ x83 x84 x85 x86 x87,Rg fr (Bv x83 x84 x85 x86 x87) :=
 fun x83 x84 x85 x86 x87=>fa G [] trivial [(8,[0,1,5,6,7,31]),(9,[0,1,5,6,7])] [] [] (Av x83 x84 x85 x86 x87) rfl rfl (by kernel_rfl)
def Om (x61 x62 _x63:LR) (x64:Int) (s80:LR) (s81:Int):Tr LR (LR×Int) LR Empty Empty :=
 .c (cmp .lss s81 (aa .row x62))
 (.s (Bv x61 x62 s80 x64 s81) (fun q92=>.l (.n (q92,(ar .add .i64 s81 1)))) nE nE nE)
 (.l (.x s80))
def rj:=fun x61 x62 x63 x64 s80 s81=>(Om x61 x62 x63 x64 s80 s81).val
def Pm:=fun x61 x62 x63 x64 s80 s81=>(Om x61 x62 x63 x64 s80 s81).ob
def eH:=fun x61 x62 x63 x64 s80 s81=>Na (rj x61 x62 x63 x64 s80 s81) (Pm x61 x62 x63 x64 s80 s81) [0,0,1,0,0,1,0,0,1,0,1,1] (fun q=>[(0,.S .row x61),(1,.S .row x62),(5,.A .row q.1),(6,.I x64),(7,.I q.2)]) (s80,s81) qj (fun q=>(2,[(0,.S .row x61),(1,.S .row x62),(5,.A .row q),(6,.I x64)])) nE nE
theorem r9 (G:Good Tryz.prog tt ig) {fr:Fr}:∀ x61 x62 x63 x64 s80 s81,Rg fr (eH x61 x62 x63 x64 s80 s81) :=
 fun x61 x62 x63 x64 s80 s81=>fa G [([0,1,0,0,1,0,0,1,0,0,1,0,1,1],fun e=>⟨Bv (gL .row e 0 0) (gL .row e 1 0) (gL .row e 5 0) (gI e 6 0) (gI e 7 0)⟩)] ⟨fun _=>⟨rfl,n9 G _ _ _ _ _⟩,trivial⟩ [(6,[0,1,5,6,7,18]),(7,[0,1,5,6,7])] [] [] (Om x61 x62 x63 x64 s80 s81) rfl rfl (by kernel_rfl)
def BQ:=fun x61 x62 x63 x64=>lpV (fun s:LR×Int=>ca (rj x61 x62 x63 x64 s.1 s.2)) (x63,0)
def CQ:=fun x61 x62 x63 x64=>LpT (fun s:LR×Int=>ca (rj x61 x62 x63 x64 s.1 s.2)) (fun s=>Pm x61 x62 x63 x64 s.1 s.2) (x63,0)
def Cv:=fun x61 x62 x63 x64=>lpS (eH x61 x62 x63 x64 x63 0) (BQ x61 x62 x63 x64) (CQ x61 x62 x63 x64)
theorem w9 (G:Good Tryz.prog tt ig) {fr:Fr}:∀ x61 x62 x63 x64,Rg fr (Cv x61 x62 x63 x64) :=
 fun x61 x62 x63 x64=>Oa (fun s:LR×Int=>eH x61 x62 x63 x64 s.1 s.2) (x63,0) (fun _=>rfl) (fun _=>⟨rfl,rfl,rfl,rfl,rfl⟩) (by kernel_rfl) fun _=>r9 G _ _ _ _ _ _
def Dv (x57 x58 x59:LR) (x60:Int):Tr LR LR Empty Empty Empty :=
 .s (Cv x57 x58 x59 x60) nE (fun q103=>.l (.n q103)) nE nE
def DQ:=fun x57 x58 x59 x60=>(Dv x57 x58 x59 x60).val
def EQ:=fun x57 x58 x59 x60=>(Dv x57 x58 x59 x60).ob
def Ev:=fun x57 x58 x59 x60=>da.mk (DQ x57 x58 x59 x60) (EQ x57 x58 x59 x60) [0,1,0,0,1,0,1,1] [(0,.S .row x57),(1,.S .row x58),(5,.A .row x59),(6,.I x60)] qj (fun q=>[(0,.S .row x57),(1,.S .row x58),(5,.A .row q),(6,.I x60)]) nE nE nE
theorem A9 (G:Good Tryz.prog tt ig) {fr:Fr}:∀ x57 x58 x59 x60,Rg fr (Ev x57 x58 x59 x60) :=
 fun x57 x58 x59 x60=>fa G [([0,1,0,0,1,0,0,1,0,1,1],fun e=>⟨Cv (gL .row e 0 0) (gL .row e 1 0) (gL .row e 5 0) (gI e 6 0)⟩)] ⟨fun _=>⟨rfl,w9 G _ _ _ _⟩,trivial⟩ [(5,[0,1,5,6,7])] [] [] (Dv x57 x58 x59 x60) rfl rfl (by kernel_rfl)
def Qm (x3 x4 s54:LR) (s55:Int):Tr LR (LR×Int) LR Empty Empty :=
 .c (cmp .lss s55 (aa .row x3))
 (.s (Ev x3 x4 s54 s55) (fun q106=>.l (.n (q106,(ar .add .i64 s55 1)))) nE nE nE)
 (.l (.x s54))
def sj:=fun x3 x4 s54 s55=>(Qm x3 x4 s54 s55).val
def Rm:=fun x3 x4 s54 s55=>(Qm x3 x4 s54 s55).ob
def fH:=fun x3 x4 s54 s55=>Na (sj x3 x4 s54 s55) (Rm x3 x4 s54 s55) [0,0,1,0,1,1] (fun q=>[(0,.S .row x3),(1,.S .row x4),(5,.A .row q.1),(6,.I q.2)]) (s54,s55) qj (fun q=>(0,[(5,.A .row q)])) nE nE
theorem B9 (G:Good Tryz.prog tt ig) {fr:Fr}:∀ x3 x4 s54 s55,Rg fr (fH x3 x4 s54 s55) :=
 fun x3 x4 s54 s55=>fa G [([0,1,0,0,1,0,1,1],fun e=>⟨Ev (gL .row e 0 0) (gL .row e 1 0) (gL .row e 5 0) (gI e 6 0)⟩)] ⟨fun _=>⟨rfl,A9 G _ _ _ _⟩,trivial⟩ [(3,[0,1,5,6,12]),(4,[0,1,5,6])] [] [] (Qm x3 x4 s54 s55) rfl rfl (by kernel_rfl)
def FQ:=fun x3 x4=>lpV (fun s:LR×Int=>ca (sj x3 x4 s.1 s.2)) ([],0)
def GQ:=fun x3 x4=>LpT (fun s:LR×Int=>ca (sj x3 x4 s.1 s.2)) (fun s=>Rm x3 x4 s.1 s.2) ([],0)
def Fv:=fun x3 x4=>lpS (fH x3 x4 [] 0) (FQ x3 x4) (GQ x3 x4)
theorem C9 (G:Good Tryz.prog tt ig) {fr:Fr}:∀ x3 x4,Rg fr (Fv x3 x4) :=
 fun x3 x4=>Oa (fun s:LR×Int=>fH x3 x4 s.1 s.2) ([],0) (fun _=>rfl) (fun _=>⟨rfl,rfl,rfl,rfl,rfl⟩) (by kernel_rfl) fun _=>B9 G _ _ _ _
def Gv (x1 x2:LR):Tr LR LR Empty Empty Empty :=
 .s (Fv x1 x2) nE (fun q117=>.l (.n q117)) nE nE
def HQ:=fun x1 x2=>(Gv x1 x2).val
def IQ:=fun x1 x2=>(Gv x1 x2).ob
def Hv:=fun x1 x2=>da.mk (HQ x1 x2) (IQ x1 x2) [0,1,1] [(0,.S .row x1),(1,.S .row x2),(5,.A .row [])] qj (fun q=>[(5,.A .row q)]) nE nE nE
theorem E9 (G:Good Tryz.prog tt ig) {fr:Fr}:∀ x1 x2,Rg fr (Hv x1 x2) :=
 fun x1 x2=>fa G [([0,1,0,1,1],fun e=>⟨Fv (gL .row e 0 0) (gL .row e 1 0)⟩)] ⟨fun _=>⟨rfl,C9 G _ _⟩,trivial⟩ [(2,[0,1,5,6])] [] [] (Gv x1 x2) rfl rfl (by kernel_rfl)
def Iv (a0 a1:LR):Tr LR Empty Empty Empty Empty :=
 .s (Hv a0 a1) (fun q120=>.w [(Cf q120)] (.l (.r (ze q120)))) nE nE nE
def Jv:=fun a0 a1=>(Iv a0 a1).val
def Kv:=fun a0 a1=>(Iv a0 a1).ob
def JQ:=fun a0 a1=>da.mk (Jv a0 a1) (Kv a0 a1) [] [(0,.S .row a0),(1,.S .row a1)] qj nE nE nE nE
theorem H9 (G:Good Tryz.prog tt ig) {fr:Fr}:∀ a0 a1,Rg fr (JQ a0 a1) :=
 fun a0 a1=>fa G [([0,1,1],fun e=>⟨Hv (gL .row e 0 0) (gL .row e 1 0)⟩)] ⟨fun _=>⟨rfl,E9 G _ _⟩,trivial⟩ [(0,[0,1]),(1,[0,1,5]),(10,[4])] [] [] (Iv a0 a1) rfl rfl (by kernel_rfl)
def Lv (a0:LR) (a1:LR):LR:=ocR (Jv a0 a1)
def Mv (a0:LR) (a1:LR):Prop:=Kv a0 a1
def gH:Spec:=⟨[(.lst .row),(.lst .row)],.one (.acc true) (.lst .row),false,fun x=>(Lv x.1 x.2.1,0),fun x=>Mv x.1 x.2.1⟩
theorem I9 (G:Good Tryz.prog tt ig):Con Tryz.prog 70 gH :=
 Ca (pts:=[(.lst .row),(.lst .row)]) (rt:=.one (.acc true) (.lst .row)) (o:=fun x=>Jv x.1 x.2.1) (ob:=fun x=>Kv x.1 x.2.1) G (fn:=Tryz.f70) (c:=ia Tryz.f70) (by kernel_rfl) (by kernel_rfl) (by kernel_rfl) (rs:=[.tmp 4]) (fz:=F70.fz) (by kernel_rfl) (by kernel_rfl) (fun _=>rfl) rfl (fun x=>JQ x.1 x.2.1) (fun _=>⟨rfl,rfl,rfl,rfl,rfl⟩) (fun x _=>H9 G x.1 x.2.1)
def Sm:SP:=[]
abbrev LQ:Fnn:=⟨[.tmp 4],.one .fr .bool,none,[]⟩
abbrev iH:Bool→RV:=fun q=>(some (RT.av (.one .fr .bool) q),.dead)
abbrev Nv (fr:Fr) {A X Y Z:Type} (S:da Bool A X Y Z):Prop:=ua Tryz.prog tt ⟨Tryz.f123.ntmps,none,[]⟩ fr (ia Tryz.f123) LQ S
def Tm (x3:List Time) (x4:Time) (s8:Int):Tr Bool Int Unit Empty Empty :=
 .c (cmp .lss s8 (aa .time x3))
 (.w [inb s8 (aa .time x3)] (.c (cmp .eql (rd .time x3 s8).A x4.A&&(cmp .eql (rd .time x3 s8).B x4.B&&true))
 (.l (.r true))
 (.l (.n (ar .add .i64 s8 1)))))
 (.l (.x ()))
def tj:=fun x3 x4 s8=>(Tm x3 x4 s8).val
def Um:=fun x3 x4 s8=>(Tm x3 x4 s8).ob
def jH:=fun x3 x4 s8=>Na (tj x3 x4 s8) (Um x3 x4 s8) [0,0,1,0,1] (fun q=>[(0,.S .time x3),(3,.box [(.fr,.i x4.A),(.fr,.i x4.B)]),(5,.I q)]) s8 iH (fun _=>(0,[])) nE nE
theorem J9 (G:Good Tryz.prog tt Sm) {fr:Fr}:∀ x3 x4 s8,Nv fr (jH x3 x4 s8) :=
 fun x3 x4 s8=>fa G [] trivial [(2,[0,3,5,9]),(3,[0,3,5]),(4,[0,3,5,17]),(5,[4])] [] [] (Tm x3 x4 s8) rfl rfl (by kernel_rfl)
def MQ:=fun x3 x4=>lpV (fun s:Int=>ca (tj x3 x4 s)) 0
def NQ:=fun x3 x4=>LpT (fun s:Int=>ca (tj x3 x4 s)) (fun s=>Um x3 x4 s) 0
def Ov:=fun x3 x4=>lpS (jH x3 x4 0) (MQ x3 x4) (NQ x3 x4)
theorem L9 (G:Good Tryz.prog tt Sm) {fr:Fr}:∀ x3 x4,Nv fr (Ov x3 x4) :=
 fun x3 x4=>Oa (fun s:Int=>jH x3 x4 s) 0 (fun _=>rfl) (fun _=>⟨rfl,rfl,rfl,rfl,rfl⟩) (by kernel_rfl) fun _=>J9 G _ _ _
def Pv (x1:List Time) (x2:Time):Tr Bool Unit Empty Empty Empty :=
 .s (Ov x1 x2) nE (fun _=>.l (.n ())) nE nE
def PQ:=fun x1 x2=>(Pv x1 x2).val
def RQ:=fun x1 x2=>(Pv x1 x2).ob
def Qv:=fun x1 x2=>da.mk (PQ x1 x2) (RQ x1 x2) [0,1] [(0,.S .time x1),(3,.box [(.fr,.i x2.A),(.fr,.i x2.B)])] iH (fun _=>[]) nE nE nE
theorem M9 (G:Good Tryz.prog tt Sm) {fr:Fr}:∀ x1 x2,Nv fr (Qv x1 x2) :=
 fun x1 x2=>fa G [([0,1,0,1],fun e=>⟨Ov (gL .time e 0 0) (Id e 3)⟩)] ⟨fun _=>⟨rfl,L9 G _ _⟩,trivial⟩ [(1,[0,3,5])] [] [] (Pv x1 x2) rfl rfl (by kernel_rfl)
def Rv (a0:List Time) (a1:Time):Tr Bool Empty Empty Empty Empty :=
 .s (Qv a0 a1) (fun _=>.l (.r false)) nE nE nE
def Sv:=fun a0 a1=>(Rv a0 a1).val
def Tv:=fun a0 a1=>(Rv a0 a1).ob
def SQ:=fun a0 a1=>da.mk (Sv a0 a1) (Tv a0 a1) [] [(0,.S .time a0),(1,.agg true [.i a1.A,.i a1.B])] iH nE nE nE nE
theorem O9 (G:Good Tryz.prog tt Sm) {fr:Fr}:∀ a0 a1,Nv fr (SQ a0 a1) :=
 fun a0 a1=>fa G [([0,1],fun e=>⟨Qv (gL .time e 0 0) (Id e 3)⟩)] ⟨fun _=>⟨rfl,M9 G _ _⟩,trivial⟩ [(0,[0,3]),(6,[4])] [] [] (Rv a0 a1) rfl rfl (by kernel_rfl)
def uj (a0:List Time) (a1:Time):Bool:=ocR (Sv a0 a1)
def wj (a0:List Time) (a1:Time):Prop:=Tv a0 a1
def kH:Spec:=⟨[(.lst .time),(.st .time)],.one .fr .bool,false,fun x=>(uj x.1 x.2.1,0),fun x=>wj x.1 x.2.1⟩
theorem P9 (G:Good Tryz.prog tt Sm):Con Tryz.prog 123 kH :=
 Ca (pts:=[(.lst .time),(.st .time)]) (rt:=.one .fr .bool) (o:=fun x=>Sv x.1 x.2.1) (ob:=fun x=>Tv x.1 x.2.1) G (fn:=Tryz.f123) (c:=ia Tryz.f123) (by kernel_rfl) (by kernel_rfl) (by kernel_rfl) (rs:=[.tmp 4]) (fz:=LQ.fz) (by kernel_rfl) (by kernel_rfl) (fun _=>rfl) rfl (fun x=>SQ x.1 x.2.1) (fun _=>⟨rfl,rfl,rfl,rfl,rfl⟩) (fun x _=>O9 G x.1 x.2.1)
def Pc:SP:=[(23,Lh),(123,kH),(96,yv)]
abbrev TQ:Fnn:=⟨[.tmp 4],.one (.acc true) (.lst .time),none,[]⟩
abbrev ce:List Time→RV:=fun q=>(some (RT.av (.one (.acc true) (.lst .time)) q),.dead)
abbrev Tc (fr:Fr) {A X Y Z:Type} (S:da (List Time) A X Y Z):Prop:=ua Tryz.prog tt ⟨Tryz.f111.ntmps,none,[]⟩ fr (ia Tryz.f111) TQ S
def Uv (x22:LR) (x23:Int) (x24:List Time) (x25:Int):Tr (List Time) ((List Time)) Empty Empty Empty :=
 .w [inb x25 (aa .row x22),(((cmp .eql (rd .row x22 x25).Key x23)&&true)=true→inb x25 (aa .row x22)),(((cmp .eql (rd .row x22 x25).Key x23)&&true)=true→(wj x24 (rd .row x22 x25).At))] (.c (cond (cmp .eql (rd .row x22 x25).Key x23) (!(uj x24 (rd .row x22 x25).At)) false)
 (.w [inb x25 (aa .row x22),lim (aa .time x24) (aa .time [(rd .row x22 x25).At])] (.l (.n (x24++[(rd .row x22 x25).At]))))
 (.l (.n x24)))
def UQ:=fun x22 x23 x24 x25=>(Uv x22 x23 x24 x25).val
def VQ:=fun x22 x23 x24 x25=>(Uv x22 x23 x24 x25).ob
def Vv:=fun x22 x23 x24 x25=>da.mk (UQ x22 x23 x24 x25) (VQ x22 x23 x24 x25) [0,1,0,0,1,0,1,1] [(0,.S .row x22),(1,.I x23),(5,.A .time x24),(6,.I x25)] ce (fun q=>[(0,.S .row x22),(1,.I x23),(5,.A .time q),(6,.I x25)]) nE nE nE
theorem Q9 (G:Good Tryz.prog tt Pc) {fr:Fr}:∀ x22 x23 x24 x25,Tc fr (Vv x22 x23 x24 x25) :=
 fun x22 x23 x24 x25=>fa G [] trivial [(5,[0,1,5,6,40]),(6,[0,1,5,6])] [] [] (Uv x22 x23 x24 x25) rfl rfl (by kernel_rfl)
def Vm (x3:LR) (x4:Int) (s18:List Time) (s19:Int):Tr (List Time) ((List Time)×Int) ((List Time)) Empty Empty :=
 .w [(((cmp .lss s19 (aa .row x3))&&true)=true→(Mg x3))] (.c (cond (cmp .lss s19 (aa .row x3)) (bg x3) false)
 (.s (Vv x3 x4 s18 s19) (fun q29=>.l (.n (q29,(ar .add .i64 s19 1)))) nE nE nE)
 (.l (.x s18)))
def xj:=fun x3 x4 s18 s19=>(Vm x3 x4 s18 s19).val
def Wm:=fun x3 x4 s18 s19=>(Vm x3 x4 s18 s19).ob
def lH:=fun x3 x4 s18 s19=>Na (xj x3 x4 s18 s19) (Wm x3 x4 s18 s19) [0,0,1,0,1,1] (fun q=>[(0,.S .row x3),(1,.I x4),(5,.A .time q.1),(6,.I q.2)]) (s18,s19) ce (fun q=>(0,[(5,.A .time q)])) nE nE
theorem R9 (G:Good Tryz.prog tt Pc) {fr:Fr}:∀ x3 x4 s18 s19,Tc fr (lH x3 x4 s18 s19) :=
 fun x3 x4 s18 s19=>fa G [([0,1,0,0,1,0,1,1],fun e=>⟨Vv (gL .row e 0 0) (gI e 1 0) (gL .time e 5 0) (gI e 6 0)⟩)] ⟨fun _=>⟨rfl,Q9 G _ _ _ _⟩,trivial⟩ [(3,[0,1,5,6,21]),(4,[0,1,5,6])] [] [] (Vm x3 x4 s18 s19) rfl rfl (by kernel_rfl)
def WQ:=fun x3 x4=>lpV (fun s:(List Time)×Int=>ca (xj x3 x4 s.1 s.2)) ([],0)
def XQ:=fun x3 x4=>LpT (fun s:(List Time)×Int=>ca (xj x3 x4 s.1 s.2)) (fun s=>Wm x3 x4 s.1 s.2) ([],0)
def Wv:=fun x3 x4=>lpS (lH x3 x4 [] 0) (WQ x3 x4) (XQ x3 x4)
theorem S9 (G:Good Tryz.prog tt Pc) {fr:Fr}:∀ x3 x4,Tc fr (Wv x3 x4) :=
 fun x3 x4=>Oa (fun s:(List Time)×Int=>lH x3 x4 s.1 s.2) ([],0) (fun _=>rfl) (fun _=>⟨rfl,rfl,rfl,rfl,rfl⟩) (by kernel_rfl) fun _=>R9 G _ _ _ _
def Xv (x1:LR) (x2:Int):Tr (List Time) ((List Time)) Empty Empty Empty :=
 .s (Wv x1 x2) nE (fun q40=>.l (.n q40)) nE nE
def YQ:=fun x1 x2=>(Xv x1 x2).val
def ZQ:=fun x1 x2=>(Xv x1 x2).ob
def Yv:=fun x1 x2=>da.mk (YQ x1 x2) (ZQ x1 x2) [0,1,1] [(0,.S .row x1),(1,.I x2),(5,.A .time [])] ce (fun q=>[(5,.A .time q)]) nE nE nE
theorem T9 (G:Good Tryz.prog tt Pc) {fr:Fr}:∀ x1 x2,Tc fr (Yv x1 x2) :=
 fun x1 x2=>fa G [([0,1,0,1,1],fun e=>⟨Wv (gL .row e 0 0) (gI e 1 0)⟩)] ⟨fun _=>⟨rfl,S9 G _ _⟩,trivial⟩ [(2,[0,1,5,6])] [] [] (Xv x1 x2) rfl rfl (by kernel_rfl)
def Zv (x114:List Time) (x115 x116:Int):Tr (List Time) ((List Time)) Empty Empty Empty :=
 .k (Mm (rd .time x114 x115) (rd .time x114 x116)) fun u117=>.w [inb x115 (aa .time x114),inb x116 (aa .time x114),(Nm (rd .time x114 x115) (rd .time x114 x116))] (.w [(wj x114 u117)] (.c (!(uj x114 u117))
 (.w [lim (aa .time x114) (aa .time [u117])] (.l (.n (x114++[u117]))))
 (.l (.n x114))))
def aR:=fun x114 x115 x116=>(Zv x114 x115 x116).val
def bR:=fun x114 x115 x116=>(Zv x114 x115 x116).ob
def aw:=fun x114 x115 x116=>da.mk (aR x114 x115 x116) (bR x114 x115 x116) [0,1,0,0,1,0,0,1,0,0,1,0,1,1,1] [(5,.A .time x114),(7,.I x115),(8,.I x116)] ce (fun q=>[(5,.A .time q),(7,.I x115),(8,.I x116)]) nE nE nE
theorem U9 (G:Good Tryz.prog tt Pc) {fr:Fr}:∀ x114 x115 x116,Tc fr (aw x114 x115 x116) :=
 fun x114 x115 x116=>fa G [] trivial [(13,[5,7,8,9]),(14,[5,7,8,9,72]),(15,[5,7,8])] [] [] (Zv x114 x115 x116) rfl rfl (by kernel_rfl)
def Xm (_x96:List Time) (x97:Int) (s111:List Time) (s112:Int):Tr (List Time) ((List Time)×Int) ((List Time)) Empty Empty :=
 .c (cmp .lss s112 x97)
 (.s (aw s111 x97 s112) (fun q121=>.l (.n (q121,(ar .add .i64 s112 1)))) nE nE nE)
 (.l (.x s111))
def yj:=fun x96 x97 s111 s112=>(Xm x96 x97 s111 s112).val
def Ym:=fun x96 x97 s111 s112=>(Xm x96 x97 s111 s112).ob
def mH:=fun x96 x97 s111 s112=>Na (yj x96 x97 s111 s112) (Ym x96 x97 s111 s112) [0,0,1,0,0,1,0,0,1,0,1,1,1] (fun q=>[(5,.A .time q.1),(7,.I x97),(8,.I q.2)]) (s111,s112) ce (fun q=>(4,[(5,.A .time q),(7,.I x97)])) nE nE
theorem V9 (G:Good Tryz.prog tt Pc) {fr:Fr}:∀ x96 x97 s111 s112,Tc fr (mH x96 x97 s111 s112) :=
 fun x96 x97 s111 s112=>fa G [([0,1,0,0,1,0,0,1,0,0,1,0,1,1,1],fun e=>⟨aw (gL .time e 5 0) (gI e 7 0) (gI e 8 0)⟩)] ⟨fun _=>⟨rfl,U9 G _ _ _⟩,trivial⟩ [(11,[5,7,8,57]),(12,[5,7,8])] [] [] (Xm x96 x97 s111 s112) rfl rfl (by kernel_rfl)
def cR:=fun x96 x97=>lpV (fun s:(List Time)×Int=>ca (yj x96 x97 s.1 s.2)) (x96,0)
def eR:=fun x96 x97=>LpT (fun s:(List Time)×Int=>ca (yj x96 x97 s.1 s.2)) (fun s=>Ym x96 x97 s.1 s.2) (x96,0)
def bw:=fun x96 x97=>lpS (mH x96 x97 x96 0) (cR x96 x97) (eR x96 x97)
theorem W9 (G:Good Tryz.prog tt Pc) {fr:Fr}:∀ x96 x97,Tc fr (bw x96 x97) :=
 fun x96 x97=>Oa (fun s:(List Time)×Int=>mH x96 x97 s.1 s.2) (x96,0) (fun _=>rfl) (fun _=>⟨rfl,rfl,rfl,rfl,rfl⟩) (by kernel_rfl) fun _=>V9 G _ _ _ _
def cw (x94:List Time) (x95:Int):Tr (List Time) ((List Time)) Empty Empty Empty :=
 .s (bw x94 x95) nE (fun q132=>.l (.n q132)) nE nE
def fR:=fun x94 x95=>(cw x94 x95).val
def gR:=fun x94 x95=>(cw x94 x95).ob
def dw:=fun x94 x95=>da.mk (fR x94 x95) (gR x94 x95) [0,1,0,0,1,0,1,1,1] [(5,.A .time x94),(7,.I x95)] ce (fun q=>[(5,.A .time q),(7,.I x95)]) nE nE nE
theorem X9 (G:Good Tryz.prog tt Pc) {fr:Fr}:∀ x94 x95,Tc fr (dw x94 x95) :=
 fun x94 x95=>fa G [([0,1,0,0,1,0,0,1,0,1,1,1],fun e=>⟨bw (gL .time e 5 0) (gI e 7 0)⟩)] ⟨fun _=>⟨rfl,W9 G _ _⟩,trivial⟩ [(10,[5,7,8])] [] [] (cw x94 x95) rfl rfl (by kernel_rfl)
def Zm (_x46 s91:List Time) (s92:Int):Tr (List Time) ((List Time)×Int) ((List Time)) Empty Empty :=
 .c (cmp .lss s92 (aa .time s91))
 (.s (dw s91 s92) (fun q135=>.l (.n (q135,(ar .add .i64 s92 1)))) nE nE nE)
 (.l (.x s91))
def zj:=fun x46 s91 s92=>(Zm x46 s91 s92).val
def bn:=fun x46 s91 s92=>(Zm x46 s91 s92).ob
def nH:=fun x46 s91 s92=>Na (zj x46 s91 s92) (bn x46 s91 s92) [0,0,1,0,1,1,1] (fun q=>[(5,.A .time q.1),(7,.I q.2)]) (s91,s92) ce (fun q=>(2,[(5,.A .time q)])) nE nE
theorem Y9 (G:Good Tryz.prog tt Pc) {fr:Fr}:∀ x46 s91 s92,Tc fr (nH x46 s91 s92) :=
 fun x46 s91 s92=>fa G [([0,1,0,0,1,0,1,1,1],fun e=>⟨dw (gL .time e 5 0) (gI e 7 0)⟩)] ⟨fun _=>⟨rfl,X9 G _ _⟩,trivial⟩ [(8,[5,7,52]),(9,[5,7])] [] [] (Zm x46 s91 s92) rfl rfl (by kernel_rfl)
def iR:=fun x46=>lpV (fun s:(List Time)×Int=>ca (zj x46 s.1 s.2)) (x46,0)
def jR:=fun x46=>LpT (fun s:(List Time)×Int=>ca (zj x46 s.1 s.2)) (fun s=>bn x46 s.1 s.2) (x46,0)
def ew:=fun x46=>lpS (nH x46 x46 0) (iR x46) (jR x46)
theorem Z9 (G:Good Tryz.prog tt Pc) {fr:Fr}:∀ x46,Tc fr (ew x46) :=
 fun x46=>Oa (fun s:(List Time)×Int=>nH x46 s.1 s.2) (x46,0) (fun _=>rfl) (fun _=>⟨rfl,rfl,rfl,rfl,rfl⟩) (by kernel_rfl) fun _=>Y9 G _ _ _
def fw (x45:List Time):Tr (List Time) ((List Time)) Empty Empty Empty :=
 .s (ew x45) nE (fun q146=>.l (.n q146)) nE nE
def kR:=fun x45=>(fw x45).val
def lR:=fun x45=>(fw x45).ob
def gw:=fun x45=>da.mk (kR x45) (lR x45) [0,1,1,1] [(5,.A .time x45)] ce (fun q=>[(5,.A .time q)]) nE nE nE
theorem aaa (G:Good Tryz.prog tt Pc) {fr:Fr}:∀ x45,Tc fr (gw x45) :=
 fun x45=>fa G [([0,1,0,1,1,1],fun e=>⟨ew (gL .time e 5 0)⟩)] ⟨fun _=>⟨rfl,Z9 G _⟩,trivial⟩ [(7,[5,7])] [] [] (fw x45) rfl rfl (by kernel_rfl)
def iw (x221 x222:List Time) (x223 x224:Int):Tr (List Time) ((List Time)) Empty Empty Empty :=
 .w [(wj x221 (Time.mk x223 x224))] (.c (uj x221 (Time.mk x223 x224))
 (.w [lim (aa .time x222) (aa .time [(Time.mk x223 x224)])] (.l (.n (x222++[(Time.mk x223 x224)]))))
 (.l (.n x222)))
def mR:=fun x221 x222 x223 x224=>(iw x221 x222 x223 x224).val
def nR:=fun x221 x222 x223 x224=>(iw x221 x222 x223 x224).ob
def jw:=fun x221 x222 x223 x224=>da.mk (mR x221 x222 x223 x224) (nR x221 x222 x223 x224) [0,1,0,0,1,0,0,1,0,0,1,0,1,1,1,1,1] [(5,.A .time x221),(10,.A .time x222),(11,.I x223),(12,.I x224)] ce (fun q=>[(5,.A .time x221),(10,.A .time q),(11,.I x223),(12,.I x224)]) nE nE nE
theorem baa (G:Good Tryz.prog tt Pc) {fr:Fr}:∀ x221 x222 x223 x224,Tc fr (jw x221 x222 x223 x224) :=
 fun x221 x222 x223 x224=>fa G [] trivial [(23,[5,10,11,12,90]),(24,[5,10,11,12])] [] [] (iw x221 x222 x223 x224) rfl rfl (by kernel_rfl)
def cn (x202 _x203:List Time) (x204:Int) (s218:List Time) (s219:Int):Tr (List Time) ((List Time)×Int) ((List Time)) Empty Empty :=
 .c (cmp .leq s219 7)
 (.s (jw x202 s218 x204 s219) (fun q228=>.l (.n (q228,(ar .add .i64 s219 1)))) nE nE nE)
 (.l (.x s218))
def Zh:=fun x202 x203 x204 s218 s219=>(cn x202 x203 x204 s218 s219).val
def Aj:=fun x202 x203 x204 s218 s219=>(cn x202 x203 x204 s218 s219).ob
def oH:=fun x202 x203 x204 s218 s219=>Na (Zh x202 x203 x204 s218 s219) (Aj x202 x203 x204 s218 s219) [0,0,1,0,0,1,0,0,1,0,1,1,1,1,1] (fun q=>[(5,.A .time x202),(10,.A .time q.1),(11,.I x204),(12,.I q.2)]) (s218,s219) ce (fun q=>(8,[(5,.A .time x202),(10,.A .time q),(11,.I x204)])) nE nE
theorem caa (G:Good Tryz.prog tt Pc) {fr:Fr}:∀ x202 x203 x204 s218 s219,Tc fr (oH x202 x203 x204 s218 s219) :=
 fun x202 x203 x204 s218 s219=>fa G [([0,1,0,0,1,0,0,1,0,0,1,0,1,1,1,1,1],fun e=>⟨jw (gL .time e 5 0) (gL .time e 10 0) (gI e 11 0) (gI e 12 0)⟩)] ⟨fun _=>⟨rfl,baa G _ _ _ _⟩,trivial⟩ [(21,[5,10,11,12,83]),(22,[5,10,11,12])] [] [] (cn x202 x203 x204 s218 s219) rfl rfl (by kernel_rfl)
def oR:=fun x202 x203 x204=>lpV (fun s:(List Time)×Int=>ca (Zh x202 x203 x204 s.1 s.2)) (x203,0)
def pR:=fun x202 x203 x204=>LpT (fun s:(List Time)×Int=>ca (Zh x202 x203 x204 s.1 s.2)) (fun s=>Aj x202 x203 x204 s.1 s.2) (x203,0)
def kw:=fun x202 x203 x204=>lpS (oH x202 x203 x204 x203 0) (oR x202 x203 x204) (pR x202 x203 x204)
theorem daa (G:Good Tryz.prog tt Pc) {fr:Fr}:∀ x202 x203 x204,Tc fr (kw x202 x203 x204) :=
 fun x202 x203 x204=>Oa (fun s:(List Time)×Int=>oH x202 x203 x204 s.1 s.2) (x203,0) (fun _=>rfl) (fun _=>⟨rfl,rfl,rfl,rfl,rfl⟩) (by kernel_rfl) fun _=>caa G _ _ _ _ _
def lw (x199 x200:List Time) (x201:Int):Tr (List Time) ((List Time)) Empty Empty Empty :=
 .s (kw x199 x200 x201) nE (fun q239=>.l (.n q239)) nE nE
def qR:=fun x199 x200 x201=>(lw x199 x200 x201).val
def rR:=fun x199 x200 x201=>(lw x199 x200 x201).ob
def mw:=fun x199 x200 x201=>da.mk (qR x199 x200 x201) (rR x199 x200 x201) [0,1,0,0,1,0,1,1,1,1,1] [(5,.A .time x199),(10,.A .time x200),(11,.I x201)] ce (fun q=>[(5,.A .time x199),(10,.A .time q),(11,.I x201)]) nE nE nE
theorem eaa (G:Good Tryz.prog tt Pc) {fr:Fr}:∀ x199 x200 x201,Tc fr (mw x199 x200 x201) :=
 fun x199 x200 x201=>fa G [([0,1,0,0,1,0,0,1,0,1,1,1,1,1],fun e=>⟨kw (gL .time e 5 0) (gL .time e 10 0) (gI e 11 0)⟩)] ⟨fun _=>⟨rfl,daa G _ _ _⟩,trivial⟩ [(20,[5,10,11,12])] [] [] (lw x199 x200 x201) rfl rfl (by kernel_rfl)
def jn (x152 s196:List Time) (s197:Int):Tr (List Time) ((List Time)×Int) ((List Time)) Empty Empty :=
 .c (cmp .leq s197 7)
 (.s (mw x152 s196 s197) (fun q242=>.l (.n (q242,(ar .add .i64 s197 1)))) nE nE nE)
 (.l (.x s196))
def Bj:=fun x152 s196 s197=>(jn x152 s196 s197).val
def ln:=fun x152 s196 s197=>(jn x152 s196 s197).ob
def pH:=fun x152 s196 s197=>Na (Bj x152 s196 s197) (ln x152 s196 s197) [0,0,1,0,1,1,1,1,1] (fun q=>[(5,.A .time x152),(10,.A .time q.1),(11,.I q.2)]) (s196,s197) ce (fun q=>(6,[(10,.A .time q)])) nE nE
theorem faa (G:Good Tryz.prog tt Pc) {fr:Fr}:∀ x152 s196 s197,Tc fr (pH x152 s196 s197) :=
 fun x152 s196 s197=>fa G [([0,1,0,0,1,0,1,1,1,1,1],fun e=>⟨mw (gL .time e 5 0) (gL .time e 10 0) (gI e 11 0)⟩)] ⟨fun _=>⟨rfl,eaa G _ _ _⟩,trivial⟩ [(18,[5,10,11,79]),(19,[5,10,11])] [] [] (jn x152 s196 s197) rfl rfl (by kernel_rfl)
def sR:=fun x152=>lpV (fun s:(List Time)×Int=>ca (Bj x152 s.1 s.2)) ([],0)
def tR:=fun x152=>LpT (fun s:(List Time)×Int=>ca (Bj x152 s.1 s.2)) (fun s=>ln x152 s.1 s.2) ([],0)
def nw:=fun x152=>lpS (pH x152 [] 0) (sR x152) (tR x152)
theorem gaa (G:Good Tryz.prog tt Pc) {fr:Fr}:∀ x152,Tc fr (nw x152) :=
 fun x152=>Oa (fun s:(List Time)×Int=>pH x152 s.1 s.2) ([],0) (fun _=>rfl) (fun _=>⟨rfl,rfl,rfl,rfl,rfl⟩) (by kernel_rfl) fun _=>faa G _ _ _
def pw (x151:List Time):Tr (List Time) ((List Time)) Empty Empty Empty :=
 .s (nw x151) nE (fun q253=>.l (.n q253)) nE nE
def uR:=fun x151=>(pw x151).val
def vR:=fun x151=>(pw x151).ob
def qw:=fun x151=>da.mk (uR x151) (vR x151) [0,1,1,1,1,1] [(5,.A .time x151),(10,.A .time [])] ce (fun q=>[(10,.A .time q)]) nE nE nE
theorem haa (G:Good Tryz.prog tt Pc) {fr:Fr}:∀ x151,Tc fr (qw x151) :=
 fun x151=>fa G [([0,1,0,1,1,1,1,1],fun e=>⟨nw (gL .time e 5 0)⟩)] ⟨fun _=>⟨rfl,gaa G _⟩,trivial⟩ [(17,[5,10,11])] [] [] (pw x151) rfl rfl (by kernel_rfl)
def sw (a0:LR) (a1:Int):Tr (List Time) Empty Empty Empty Empty :=
 .s (Yv a0 a1) (fun q43=>.s (gw q43) (fun q149=>.s (qw q149) (fun q256=>.l (.r q256)) nE nE nE) nE nE nE) nE nE nE
def tw:=fun a0 a1=>(sw a0 a1).val
def uw:=fun a0 a1=>(sw a0 a1).ob
def wR:=fun a0 a1=>da.mk (tw a0 a1) (uw a0 a1) [] [(0,.S .row a0),(1,.I a1)] ce nE nE nE nE
theorem iaa (G:Good Tryz.prog tt Pc) {fr:Fr}:∀ a0 a1,Tc fr (wR a0 a1) :=
 fun a0 a1=>fa G [([0,1,1],fun e=>⟨Yv (gL .row e 0 0) (gI e 1 0)⟩),([0,1,1,1],fun e=>⟨gw (gL .time e 5 0)⟩),([0,1,1,1,1,1],fun e=>⟨qw (gL .time e 5 0)⟩)] ⟨fun _=>⟨rfl,T9 G _ _⟩,fun _=>⟨rfl,aaa G _⟩,fun _=>⟨rfl,haa G _⟩,trivial⟩ [(0,[0,1]),(1,[0,1,5]),(16,[5,10]),(25,[4])] [] [] (sw a0 a1) rfl rfl (by kernel_rfl)
def vw (a0:LR) (a1:Int):List Time:=ocR (tw a0 a1)
def ww (a0:LR) (a1:Int):Prop:=uw a0 a1
def qH:Spec:=⟨[(.lst .row),(.int .i64)],.one (.acc true) (.lst .time),false,fun x=>(vw x.1 x.2.1,0),fun x=>ww x.1 x.2.1⟩
theorem jaa (G:Good Tryz.prog tt Pc):Con Tryz.prog 111 qH :=
 Ca (pts:=[(.lst .row),(.int .i64)]) (rt:=.one (.acc true) (.lst .time)) (o:=fun x=>tw x.1 x.2.1) (ob:=fun x=>uw x.1 x.2.1) G (fn:=Tryz.f111) (c:=ia Tryz.f111) (by kernel_rfl) (by kernel_rfl) (by kernel_rfl) (rs:=[.tmp 4]) (fz:=TQ.fz) (by kernel_rfl) (by kernel_rfl) (fun _=>rfl) rfl (fun x=>wR x.1 x.2.1) (fun _=>⟨rfl,rfl,rfl,rfl,rfl⟩) (fun x _=>iaa G x.1 x.2.1)
def xR:SP:=[(24,Ui)]
abbrev F89:Fnn:=⟨[.tmp 4],.one .fr .bool,none,[]⟩
abbrev kaa:Bool→RV:=fun q=>(some (RT.av (.one .fr .bool) q),.dead)
abbrev laa (fr:Fr) {A X Y Z:Type} (S:da Bool A X Y Z):Prop:=ua Tryz.prog tt ⟨Tryz.f89.ntmps,none,[]⟩ fr (ia Tryz.f89) F89 S
def rH (a0 a1:Time):Tr Bool Empty Empty Empty Empty :=
 .w [(Lg a0),(((je a0)&&true)=true→(Lg a1))] (.l (.r (cond (cond (cond (je a0) (je a1) false) (cmp .leq a0.A a1.A) false) (cmp .leq a0.B a1.B) false)))
def sH:=fun a0 a1=>(rH a0 a1).val
def tH:=fun a0 a1=>(rH a0 a1).ob
def yR:=fun a0 a1=>da.mk (sH a0 a1) (tH a0 a1) [] [(0,.agg true [.i a0.A,.i a0.B]),(1,.agg true [.i a1.A,.i a1.B])] kaa nE nE nE nE
theorem maa (G:Good Tryz.prog tt xR) {fr:Fr}:∀ a0 a1,laa fr (yR a0 a1) :=
 fun a0 a1=>fa G [] trivial [(0,[2,3]),(1,[4])] [] [] (rH a0 a1) rfl rfl (by kernel_rfl)
def xw (a0:Time) (a1:Time):Bool:=ocR (sH a0 a1)
def yw (a0:Time) (a1:Time):Prop:=tH a0 a1
def zw:Spec:=⟨[(.st .time),(.st .time)],.one .fr .bool,false,fun x=>(xw x.1 x.2.1,0),fun x=>yw x.1 x.2.1⟩
theorem naa (G:Good Tryz.prog tt xR):Con Tryz.prog 89 zw :=
 Ca (pts:=[(.st .time),(.st .time)]) (rt:=.one .fr .bool) (o:=fun x=>sH x.1 x.2.1) (ob:=fun x=>tH x.1 x.2.1) G (fn:=Tryz.f89) (c:=ia Tryz.f89) (by kernel_rfl) (by kernel_rfl) (by kernel_rfl) (rs:=[.tmp 4]) (fz:=F89.fz) (by kernel_rfl) (by kernel_rfl) (fun _=>rfl) rfl (fun x=>yR x.1 x.2.1) (fun _=>⟨rfl,rfl,rfl,rfl,rfl⟩) (fun x _=>maa G x.1 x.2.1)
def Sg:SP:=[(68,fg)]
abbrev zR:Fnn:=⟨[.tmp 2],.one (.acc true) (.lst .item),none,[]⟩
abbrev nn:LI→RV:=fun q=>(some (RT.av (.one (.acc true) (.lst .item)) q),.dead)
abbrev ai (fr:Fr) {A X Y Z:Type} (S:da LI A X Y Z):Prop:=ua Tryz.prog tt ⟨Tryz.f114.ntmps,none,[]⟩ fr (ia Tryz.f114) zR S
def qn (x2:LI) (s6:LR) (s7:Int):Tr LI (LR×Int) LR Empty Empty :=
 .c (cmp .lss s7 (aa .item x2))
 (.w [inb s7 (aa .item x2),inb s7 (aa .item x2),inb s7 (aa .item x2),lim (aa .row s6) (aa .row [(Row.mk (rd .item x2 s7).Key (rd .item x2 s7).Val (Time.mk 0 0) (rd .item x2 s7).Count)])] (.l (.n ((s6++[(Row.mk (rd .item x2 s7).Key (rd .item x2 s7).Val (Time.mk 0 0) (rd .item x2 s7).Count)]),(ar .add .i64 s7 1)))))
 (.l (.x s6))
def Cj:=fun x2 s6 s7=>(qn x2 s6 s7).val
def rn:=fun x2 s6 s7=>(qn x2 s6 s7).ob
def uH:=fun x2 s6 s7=>Na (Cj x2 s6 s7) (rn x2 s6 s7) [0,0,1,0,1,1] (fun q=>[(0,.S .item x2),(3,.A .row q.1),(4,.I q.2)]) (s6,s7) nn (fun q=>(0,[(3,.A .row q)])) nE nE
theorem oaa (G:Good Tryz.prog tt Sg) {fr:Fr}:∀ x2 s6 s7,ai fr (uH x2 s6 s7) :=
 fun x2 s6 s7=>fa G [] trivial [(3,[0,3,4,12]),(4,[0,3,4]),(5,[0,3,4])] [] [] (qn x2 s6 s7) rfl rfl (by kernel_rfl)
def AR:=fun x2=>lpV (fun s:LR×Int=>ca (Cj x2 s.1 s.2)) ([],0)
def BR:=fun x2=>LpT (fun s:LR×Int=>ca (Cj x2 s.1 s.2)) (fun s=>rn x2 s.1 s.2) ([],0)
def Aw:=fun x2=>lpS (uH x2 [] 0) (AR x2) (BR x2)
theorem paa (G:Good Tryz.prog tt Sg) {fr:Fr}:∀ x2,ai fr (Aw x2) :=
 fun x2=>Oa (fun s:LR×Int=>uH x2 s.1 s.2) ([],0) (fun _=>rfl) (fun _=>⟨rfl,rfl,rfl,rfl,rfl⟩) (by kernel_rfl) fun _=>oaa G _ _ _
def Bw (x1:LI):Tr LI LR Empty Empty Empty :=
 .s (Aw x1) nE (fun q16=>.l (.n q16)) nE nE
def CR:=fun x1=>(Bw x1).val
def DR:=fun x1=>(Bw x1).ob
def Cw:=fun x1=>da.mk (CR x1) (DR x1) [0,1,1] [(0,.S .item x1),(3,.A .row [])] nn (fun q=>[(3,.A .row q)]) nE nE nE
theorem qaa (G:Good Tryz.prog tt Sg) {fr:Fr}:∀ x1,ai fr (Cw x1) :=
 fun x1=>fa G [([0,1,0,1,1],fun e=>⟨Aw (gL .item e 0 0)⟩)] ⟨fun _=>⟨rfl,paa G _⟩,trivial⟩ [(2,[0,3,4])] [] [] (Bw x1) rfl rfl (by kernel_rfl)
def sn (x23:LR) (s27:LI) (s28:Int):Tr LI (LI×Int) LI Empty Empty :=
 .c (cmp .lss s28 (aa .row x23))
 (.w [inb s28 (aa .row x23),inb s28 (aa .row x23),inb s28 (aa .row x23),lim (aa .item s27) (aa .item [(Item.mk (rd .row x23 s28).Key (rd .row x23 s28).Val (rd .row x23 s28).Diff)])] (.l (.n ((s27++[(Item.mk (rd .row x23 s28).Key (rd .row x23 s28).Val (rd .row x23 s28).Diff)]),(ar .add .i64 s28 1)))))
 (.l (.x s27))
def Dj:=fun x23 s27 s28=>(sn x23 s27 s28).val
def tn:=fun x23 s27 s28=>(sn x23 s27 s28).ob
def vH:=fun x23 s27 s28=>Na (Dj x23 s27 s28) (tn x23 s27 s28) [0,0,1,0,1,1,1,1,1] (fun q=>[(5,.A .row x23),(6,.A .item q.1),(7,.I q.2)]) (s27,s28) nn (fun q=>(2,[(6,.A .item q)])) nE nE
theorem raa (G:Good Tryz.prog tt Sg) {fr:Fr}:∀ x23 s27 s28,ai fr (vH x23 s27 s28) :=
 fun x23 s27 s28=>fa G [] trivial [(9,[5,6,7,40]),(10,[5,6,7]),(11,[5,6,7])] [] [] (sn x23 s27 s28) rfl rfl (by kernel_rfl)
def ER:=fun x23=>lpV (fun s:LI×Int=>ca (Dj x23 s.1 s.2)) ([],0)
def FR:=fun x23=>LpT (fun s:LI×Int=>ca (Dj x23 s.1 s.2)) (fun s=>tn x23 s.1 s.2) ([],0)
def Dw:=fun x23=>lpS (vH x23 [] 0) (ER x23) (FR x23)
theorem saa (G:Good Tryz.prog tt Sg) {fr:Fr}:∀ x23,ai fr (Dw x23) :=
 fun x23=>Oa (fun s:LI×Int=>vH x23 s.1 s.2) ([],0) (fun _=>rfl) (fun _=>⟨rfl,rfl,rfl,rfl,rfl⟩) (by kernel_rfl) fun _=>raa G _ _ _
def Ew (x22:LR):Tr LI LI Empty Empty Empty :=
 .s (Dw x22) nE (fun q37=>.l (.n q37)) nE nE
def GR:=fun x22=>(Ew x22).val
def HR:=fun x22=>(Ew x22).ob
def Fw:=fun x22=>da.mk (GR x22) (HR x22) [0,1,1,1,1,1] [(5,.A .row x22),(6,.A .item [])] nn (fun q=>[(6,.A .item q)]) nE nE nE
theorem taa (G:Good Tryz.prog tt Sg) {fr:Fr}:∀ x22,ai fr (Fw x22) :=
 fun x22=>fa G [([0,1,0,1,1,1,1,1],fun e=>⟨Dw (gL .row e 5 0)⟩)] ⟨fun _=>⟨rfl,saa G _⟩,trivial⟩ [(8,[5,6,7])] [] [] (Ew x22) rfl rfl (by kernel_rfl)
def Gw (a0:LI):Tr LI Empty Empty Empty Empty :=
 .s (Cw a0) (fun q19=>.w [(Cf q19)] (.s (Fw (ze q19)) (fun q40=>.l (.r q40)) nE nE nE)) nE nE nE
def Hw:=fun a0=>(Gw a0).val
def Iw:=fun a0=>(Gw a0).ob
def IR:=fun a0=>da.mk (Hw a0) (Iw a0) [] [(0,.S .item a0)] nn nE nE nE nE
theorem uaa (G:Good Tryz.prog tt Sg) {fr:Fr}:∀ a0,ai fr (IR a0) :=
 fun a0=>fa G [([0,1,1],fun e=>⟨Cw (gL .item e 0 0)⟩),([0,1,1,1,1,1],fun e=>⟨Fw (gL .row e 5 0)⟩)] ⟨fun _=>⟨rfl,qaa G _⟩,fun _=>⟨rfl,taa G _⟩,trivial⟩ [(0,[0]),(1,[0,3]),(6,[5]),(7,[5,6]),(12,[2])] [] [] (Gw a0) rfl rfl (by kernel_rfl)
def un (a0:LI):LI:=ocR (Hw a0)
def vn (a0:LI):Prop:=Iw a0
def Jw:Spec:=⟨[(.lst .item)],.one (.acc true) (.lst .item),false,fun x=>(un x.1,0),fun x=>vn x.1⟩
theorem vaa (G:Good Tryz.prog tt Sg):Con Tryz.prog 114 Jw :=
 Ca (pts:=[(.lst .item)]) (rt:=.one (.acc true) (.lst .item)) (o:=fun x=>Hw x.1) (ob:=fun x=>Iw x.1) G (fn:=Tryz.f114) (c:=ia Tryz.f114) (by kernel_rfl) (by kernel_rfl) (by kernel_rfl) (rs:=[.tmp 2]) (fz:=zR.fz) (by kernel_rfl) (by kernel_rfl) (fun _=>rfl) rfl (fun x=>IR x.1) (fun _=>⟨rfl,rfl,rfl,rfl,rfl⟩) (fun x _=>uaa G x.1)
def Ej:SP:=[(23,Lh),(24,Ui),(89,zw),(114,Jw)]
abbrev JR:Fnn:=⟨[.tmp 4],.one (.acc true) (.lst .item),none,[]⟩
abbrev Kw:LI→RV:=fun q=>(some (RT.av (.one (.acc true) (.lst .item)) q),.dead)
abbrev wn (fr:Fr) {A X Y Z:Type} (S:da LI A X Y Z):Prop:=ua Tryz.prog tt ⟨Tryz.f113.ntmps,none,[]⟩ fr (ia Tryz.f113) JR S
def Lw (x23:LR) (x24:Time) (x25:LI) (x26:Int):Tr LI LI Empty Empty Empty :=
 .w [inb x26 (aa .row x23),(yw (rd .row x23 x26).At x24)] (.c (xw (rd .row x23 x26).At x24)
 (.w [inb x26 (aa .row x23),inb x26 (aa .row x23),inb x26 (aa .row x23),lim (aa .item x25) (aa .item [(Item.mk (rd .row x23 x26).Key (rd .row x23 x26).Val (rd .row x23 x26).Diff)])] (.l (.n (x25++[(Item.mk (rd .row x23 x26).Key (rd .row x23 x26).Val (rd .row x23 x26).Diff)]))))
 (.l (.n x25)))
def MR:=fun x23 x24 x25 x26=>(Lw x23 x24 x25 x26).val
def NR:=fun x23 x24 x25 x26=>(Lw x23 x24 x25 x26).ob
def Mw:=fun x23 x24 x25 x26=>da.mk (MR x23 x24 x25 x26) (NR x23 x24 x25 x26) [0,1,0,0,1,0,1,1,1] [(0,.S .row x23),(3,.box [(.fr,.i x24.A),(.fr,.i x24.B)]),(5,.A .item x25),(6,.I x26)] Kw (fun q=>[(0,.S .row x23),(3,.box [(.fr,.i x24.A),(.fr,.i x24.B)]),(5,.A .item q),(6,.I x26)]) nE nE nE
theorem waa (G:Good Tryz.prog tt Ej) {fr:Fr}:∀ x23 x24 x25 x26,wn fr (Mw x23 x24 x25 x26) :=
 fun x23 x24 x25 x26=>fa G [] trivial [(7,[0,3,5,6,29]),(8,[0,3,5,6])] [] [] (Lw x23 x24 x25 x26) rfl rfl (by kernel_rfl)
def xn (x6:LR) (x7:Time) (s20:LI) (s21:Int):Tr LI (LI×Int) LI Empty Empty :=
 .c (cmp .lss s21 (aa .row x6))
 (.s (Mw x6 x7 s20 s21) (fun q30=>.l (.n (q30,(ar .add .i64 s21 1)))) nE nE nE)
 (.l (.x s20))
def Fj:=fun x6 x7 s20 s21=>(xn x6 x7 s20 s21).val
def yn:=fun x6 x7 s20 s21=>(xn x6 x7 s20 s21).ob
def wH:=fun x6 x7 s20 s21=>Na (Fj x6 x7 s20 s21) (yn x6 x7 s20 s21) [0,0,1,0,1,1,1] (fun q=>[(0,.S .row x6),(3,.box [(.fr,.i x7.A),(.fr,.i x7.B)]),(5,.A .item q.1),(6,.I q.2)]) (s20,s21) Kw (fun q=>(0,[(5,.A .item q)])) nE nE
theorem xaa (G:Good Tryz.prog tt Ej) {fr:Fr}:∀ x6 x7 s20 s21,wn fr (wH x6 x7 s20 s21) :=
 fun x6 x7 s20 s21=>fa G [([0,1,0,0,1,0,1,1,1],fun e=>⟨Mw (gL .row e 0 0) (Id e 3) (gL .item e 5 0) (gI e 6 0)⟩)] ⟨fun _=>⟨rfl,waa G _ _ _ _⟩,trivial⟩ [(5,[0,3,5,6,20]),(6,[0,3,5,6])] [] [] (xn x6 x7 s20 s21) rfl rfl (by kernel_rfl)
def PR:=fun x6 x7=>lpV (fun s:LI×Int=>ca (Fj x6 x7 s.1 s.2)) ([],0)
def QR:=fun x6 x7=>LpT (fun s:LI×Int=>ca (Fj x6 x7 s.1 s.2)) (fun s=>yn x6 x7 s.1 s.2) ([],0)
def Nw:=fun x6 x7=>lpS (wH x6 x7 [] 0) (PR x6 x7) (QR x6 x7)
theorem yaa (G:Good Tryz.prog tt Ej) {fr:Fr}:∀ x6 x7,wn fr (Nw x6 x7) :=
 fun x6 x7=>Oa (fun s:LI×Int=>wH x6 x7 s.1 s.2) ([],0) (fun _=>rfl) (fun _=>⟨rfl,rfl,rfl,rfl,rfl⟩) (by kernel_rfl) fun _=>xaa G _ _ _ _
def Ow (x4:LR) (x5:Time):Tr LI LI Empty Empty Empty :=
 .s (Nw x4 x5) nE (fun q41=>.l (.n q41)) nE nE
def RR:=fun x4 x5=>(Ow x4 x5).val
def TR:=fun x4 x5=>(Ow x4 x5).ob
def Pw:=fun x4 x5=>da.mk (RR x4 x5) (TR x4 x5) [0,1,1,1] [(0,.S .row x4),(3,.box [(.fr,.i x5.A),(.fr,.i x5.B)]),(5,.A .item [])] Kw (fun q=>[(5,.A .item q)]) nE nE nE
theorem zaa (G:Good Tryz.prog tt Ej) {fr:Fr}:∀ x4 x5,wn fr (Pw x4 x5) :=
 fun x4 x5=>fa G [([0,1,0,1,1,1],fun e=>⟨Nw (gL .row e 0 0) (Id e 3)⟩)] ⟨fun _=>⟨rfl,yaa G _ _⟩,trivial⟩ [(4,[0,3,5,6])] [] [] (Ow x4 x5) rfl rfl (by kernel_rfl)
def Qw (a0:LR) (a1:Time):Tr LI Empty Empty Empty Empty :=
 .w [(Mg a0),(((!(!(bg a0)))&&true)=true→(Lg a1))] (.c (cond (!(bg a0)) true (!(je a1)))
 (.l (.r []))
 (.s (Pw a0 a1) (fun q44=>.w [(vn q44)] (.l (.r (un q44)))) nE nE nE))
def Sw:=fun a0 a1=>(Qw a0 a1).val
def Tw:=fun a0 a1=>(Qw a0 a1).ob
def UR:=fun a0 a1=>da.mk (Sw a0 a1) (Tw a0 a1) [] [(0,.S .row a0),(1,.agg true [.i a1.A,.i a1.B])] Kw nE nE nE nE
theorem Aaa (G:Good Tryz.prog tt Ej) {fr:Fr}:∀ a0 a1,wn fr (UR a0 a1) :=
 fun a0 a1=>fa G [([0,1,1,1],fun e=>⟨Pw (gL .row e 0 0) (Id e 3)⟩)] ⟨fun _=>⟨rfl,zaa G _ _⟩,trivial⟩ [(0,[0,3]),(1,[0,3,5]),(2,[0,3,5,15]),(3,[4]),(9,[4])] [] [] (Qw a0 a1) rfl rfl (by kernel_rfl)
def Uw (a0:LR) (a1:Time):LI:=ocR (Sw a0 a1)
def Vw (a0:LR) (a1:Time):Prop:=Tw a0 a1
def xH:Spec:=⟨[(.lst .row),(.st .time)],.one (.acc true) (.lst .item),false,fun x=>(Uw x.1 x.2.1,0),fun x=>Vw x.1 x.2.1⟩
theorem Baa (G:Good Tryz.prog tt Ej):Con Tryz.prog 113 xH :=
 Ca (pts:=[(.lst .row),(.st .time)]) (rt:=.one (.acc true) (.lst .item)) (o:=fun x=>Sw x.1 x.2.1) (ob:=fun x=>Tw x.1 x.2.1) G (fn:=Tryz.f113) (c:=ia Tryz.f113) (by kernel_rfl) (by kernel_rfl) (by kernel_rfl) (rs:=[.tmp 4]) (fz:=JR.fz) (by kernel_rfl) (by kernel_rfl) (fun _=>rfl) rfl (fun x=>UR x.1 x.2.1) (fun _=>⟨rfl,rfl,rfl,rfl,rfl⟩) (fun x _=>Aaa G x.1 x.2.1)
def WR:SP:=[]
abbrev XR:Fnn:=⟨[.tmp 2],.one .fr (.int .i64),none,[]⟩
abbrev Caa:Int→RV:=fun q=>(some (RT.av (.one .fr (.int .i64)) q),.dead)
abbrev Daa (fr:Fr) {A X Y Z:Type} (S:da Int A X Y Z):Prop:=ua Tryz.prog tt ⟨Tryz.f124.ntmps,none,[]⟩ fr (ia Tryz.f124) XR S
def yH (a0:Int):Tr Int Empty Empty Empty Empty :=
 .w [(100:Int)≠0,(100:Int)≠0] (.l (.r (ar .rem .i64 (ar .add .i64 (ar .rem .i64 a0 100) 100) 100)))
def zH:=fun a0=>(yH a0).val
def BH:=fun a0=>(yH a0).ob
def YR:=fun a0=>da.mk (zH a0) (BH a0) [] [(0,.I a0)] Caa nE nE nE nE
theorem Eaa (G:Good Tryz.prog tt WR) {fr:Fr}:∀ a0,Daa fr (YR a0) :=
 fun a0=>fa G [] trivial [(0,[0]),(1,[2])] [] [] (yH a0) rfl rfl (by kernel_rfl)
def Ww (a0:Int):Int:=ocR (zH a0)
def CH (a0:Int):Prop:=BH a0
def DH:Spec:=⟨[(.int .i64)],.one .fr (.int .i64),false,fun x=>(Ww x.1,0),fun x=>CH x.1⟩
theorem Faa (G:Good Tryz.prog tt WR):Con Tryz.prog 124 DH :=
 Ca (pts:=[(.int .i64)]) (rt:=.one .fr (.int .i64)) (o:=fun x=>zH x.1) (ob:=fun x=>BH x.1) G (fn:=Tryz.f124) (c:=ia Tryz.f124) (by kernel_rfl) (by kernel_rfl) (by kernel_rfl) (rs:=[.tmp 2]) (fz:=XR.fz) (by kernel_rfl) (by kernel_rfl) (fun _=>rfl) rfl (fun x=>YR x.1) (fun _=>⟨rfl,rfl,rfl,rfl,rfl⟩) (fun x _=>Eaa G x.1)
def bi:SP:=[(124,DH)]
abbrev ZR:Fnn:=⟨[.tmp 6],.one (.acc true) (.lst .item),none,[]⟩
abbrev zn:LI→RV:=fun q=>(some (RT.av (.one (.acc true) (.lst .item)) q),.dead)
abbrev Gj (fr:Fr) {A X Y Z:Type} (S:da LI A X Y Z):Prop:=ua Tryz.prog tt ⟨Tryz.f112.ntmps,none,[]⟩ fr (ia Tryz.f112) ZR S
def Xw (x26:LI) (x27 x28:Int) (x29:LI) (x30 x31:Int):Tr LI (LI×Int) Empty Empty Empty :=
 .w [inb x31 (aa .item x26)] (.c (cmp .neq (rd .item x26 x31).Key x27)
 (.l (.n (x29,x30)))
 (.w [inb x31 (aa .item x26)] (.w [inb x31 (aa .item x26)] (.c (cond (cmp .gtr (rd .item x26 x31).Count 0) (cond (cmp .eql x28 2) true (cond (cmp .eql x28 3) (cmp .eql (aa .item x29) 0) false)) false)
 (.w [inb x31 (aa .item x26),lim (aa .item x29) (aa .item [(Item.mk x27 (rd .item x26 x31).Val 1)])] (.l (.n ((x29++[(Item.mk x27 (rd .item x26 x31).Val 1)]),(ar .add .i64 x30 (rd .item x26 x31).Count)))))
 (.l (.n (x29,(ar .add .i64 x30 (rd .item x26 x31).Count))))))))
def aS:=fun x26 x27 x28 x29 x30 x31=>(Xw x26 x27 x28 x29 x30 x31).val
def bS:=fun x26 x27 x28 x29 x30 x31=>(Xw x26 x27 x28 x29 x30 x31).ob
def Yw:=fun x26 x27 x28 x29 x30 x31=>da.mk (aS x26 x27 x28 x29 x30 x31) (bS x26 x27 x28 x29 x30 x31) [0,1,0,0,1,0,1,1,1] [(0,.S .item x26),(1,.I x27),(2,.I x28),(7,.A .item x29),(8,.I x30),(9,.I x31)] zn (fun q=>[(0,.S .item x26),(1,.I x27),(2,.I x28),(7,.A .item q.1),(8,.I q.2),(9,.I x31)]) nE nE nE
theorem Gaa (G:Good Tryz.prog tt bi) {fr:Fr}:∀ x26 x27 x28 x29 x30 x31,Gj fr (Yw x26 x27 x28 x29 x30 x31) :=
 fun x26 x27 x28 x29 x30 x31=>fa G [] trivial [(6,[0,1,2,7,8,9,23]),(7,[0,1,2,7,8,9]),(8,[0,1,2,7,8,9,49]),(9,[0,1,2,7,8,9])] [] [] (Xw x26 x27 x28 x29 x30 x31) rfl rfl (by kernel_rfl)
def Bn (x4:LI) (x5 x6:Int) (s22:LI) (s23 s24:Int):Tr LI (LI×Int×Int) (LI×Int) Empty Empty :=
 .c (cmp .lss s24 (aa .item x4))
 (.s (Yw x4 x5 x6 s22 s23 s24) (fun q36=>.l (.n (q36.1,q36.2,(ar .add .i64 s24 1)))) nE nE nE)
 (.l (.x (s22,s23)))
def Ij:=fun x4 x5 x6 s22 s23 s24=>(Bn x4 x5 x6 s22 s23 s24).val
def Cn:=fun x4 x5 x6 s22 s23 s24=>(Bn x4 x5 x6 s22 s23 s24).ob
def EH:=fun x4 x5 x6 s22 s23 s24=>Na (Ij x4 x5 x6 s22 s23 s24) (Cn x4 x5 x6 s22 s23 s24) [0,0,1,0,1,1,1] (fun q=>[(0,.S .item x4),(1,.I x5),(2,.I x6),(7,.A .item q.1),(8,.I q.2.1),(9,.I q.2.2)]) (s22,s23,s24) zn (fun q=>(0,[(1,.I x5),(2,.I x6),(7,.A .item q.1),(8,.I q.2)])) nE nE
theorem Haa (G:Good Tryz.prog tt bi) {fr:Fr}:∀ x4 x5 x6 s22 s23 s24,Gj fr (EH x4 x5 x6 s22 s23 s24) :=
 fun x4 x5 x6 s22 s23 s24=>fa G [([0,1,0,0,1,0,1,1,1],fun e=>⟨Yw (gL .item e 0 0) (gI e 1 0) (gI e 2 0) (gL .item e 7 0) (gI e 8 0) (gI e 9 0)⟩)] ⟨fun _=>⟨rfl,Gaa G _ _ _ _ _ _⟩,trivial⟩ [(4,[0,1,2,7,8,9,14]),(5,[0,1,2,7,8,9])] [] [] (Bn x4 x5 x6 s22 s23 s24) rfl rfl (by kernel_rfl)
def dS:=fun x4 x5 x6=>lpV (fun s:LI×Int×Int=>ca (Ij x4 x5 x6 s.1 s.2.1 s.2.2)) ([],0,0)
def eS:=fun x4 x5 x6=>LpT (fun s:LI×Int×Int=>ca (Ij x4 x5 x6 s.1 s.2.1 s.2.2)) (fun s=>Cn x4 x5 x6 s.1 s.2.1 s.2.2) ([],0,0)
def Zw:=fun x4 x5 x6=>lpS (EH x4 x5 x6 [] 0 0) (dS x4 x5 x6) (eS x4 x5 x6)
theorem Iaa (G:Good Tryz.prog tt bi) {fr:Fr}:∀ x4 x5 x6,Gj fr (Zw x4 x5 x6) :=
 fun x4 x5 x6=>Oa (fun s:LI×Int×Int=>EH x4 x5 x6 s.1 s.2.1 s.2.2) ([],0,0) (fun _=>rfl) (fun _=>⟨rfl,rfl,rfl,rfl,rfl⟩) (by kernel_rfl) fun _=>Haa G _ _ _ _ _ _
def ax (x1:LI) (x2 x3:Int):Tr LI (LI×Int) Empty Empty Empty :=
 .s (Zw x1 x2 x3) nE (fun q50=>.l (.n (q50.1,q50.2))) nE nE
def fS:=fun x1 x2 x3=>(ax x1 x2 x3).val
def iS:=fun x1 x2 x3=>(ax x1 x2 x3).ob
def cx:=fun x1 x2 x3=>da.mk (fS x1 x2 x3) (iS x1 x2 x3) [0,1,1,1] [(0,.S .item x1),(1,.I x2),(2,.I x3),(7,.A .item []),(8,.I 0)] zn (fun q=>[(1,.I x2),(2,.I x3),(7,.A .item q.1),(8,.I q.2)]) nE nE nE
theorem Jaa (G:Good Tryz.prog tt bi) {fr:Fr}:∀ x1 x2 x3,Gj fr (cx x1 x2 x3) :=
 fun x1 x2 x3=>fa G [([0,1,0,1,1,1],fun e=>⟨Zw (gL .item e 0 0) (gI e 1 0) (gI e 2 0)⟩)] ⟨fun _=>⟨rfl,Iaa G _ _ _⟩,trivial⟩ [(3,[0,1,2,7,8,9])] [] [] (ax x1 x2 x3) rfl rfl (by kernel_rfl)
def dx (x56 x57:Int) (x58:LI) (x59:Int):Tr LI LI Empty Empty Empty :=
 .c (cond (cmp .eql x57 1) (cmp .neq x59 0) false)
 (.w [(CH x59),lim (aa .item x58) (aa .item [(Item.mk x56 (Ww x59) 1)])] (.l (.n (x58++[(Item.mk x56 (Ww x59) 1)]))))
 (.l (.n x58))
def jS:=fun x56 x57 x58 x59=>(dx x56 x57 x58 x59).val
def kS:=fun x56 x57 x58 x59=>(dx x56 x57 x58 x59).ob
def fx:=fun x56 x57 x58 x59=>da.mk (jS x56 x57 x58 x59) (kS x56 x57 x58 x59) [0,1,1,1,1] [(1,.I x56),(2,.I x57),(7,.A .item x58),(8,.I x59)] zn (fun q=>[(7,.A .item q)]) nE nE nE
theorem Kaa (G:Good Tryz.prog tt bi) {fr:Fr}:∀ x56 x57 x58 x59,Gj fr (fx x56 x57 x58 x59) :=
 fun x56 x57 x58 x59=>fa G [] trivial [(10,[1,7,8,65]),(11,[7])] [] [] (dx x56 x57 x58 x59) rfl rfl (by kernel_rfl)
def jx (a0:LI) (a1 a2:Int):Tr LI Empty Empty Empty Empty :=
 .s (cx a0 a1 a2) (fun q54=>.s (fx a1 a2 q54.1 q54.2) (fun q63=>.l (.r q63)) nE nE nE) nE nE nE
def lx:=fun a0 a1 a2=>(jx a0 a1 a2).val
def nx:=fun a0 a1 a2=>(jx a0 a1 a2).ob
def lS:=fun a0 a1 a2=>da.mk (lx a0 a1 a2) (nx a0 a1 a2) [] [(0,.S .item a0),(1,.I a1),(2,.I a2)] zn nE nE nE nE
theorem Laa (G:Good Tryz.prog tt bi) {fr:Fr}:∀ a0 a1 a2,Gj fr (lS a0 a1 a2) :=
 fun a0 a1 a2=>fa G [([0,1,1,1],fun e=>⟨cx (gL .item e 0 0) (gI e 1 0) (gI e 2 0)⟩),([0,1,1,1,1],fun e=>⟨fx (gI e 1 0) (gI e 2 0) (gL .item e 7 0) (gI e 8 0)⟩)] ⟨fun _=>⟨rfl,Jaa G _ _ _⟩,fun _=>⟨rfl,Kaa G _ _ _ _⟩,trivial⟩ [(0,[0,1,2]),(1,[0,1,2,7]),(2,[0,1,2,7,8]),(12,[6])] [] [] (jx a0 a1 a2) rfl rfl (by kernel_rfl)
def qx (a0:LI) (a1:Int) (a2:Int):LI:=ocR (lx a0 a1 a2)
def rx (a0:LI) (a1:Int) (a2:Int):Prop:=nx a0 a1 a2
def FH:Spec:=⟨[(.lst .item),(.int .i64),(.int .i64)],.one (.acc true) (.lst .item),false,fun x=>(qx x.1 x.2.1 x.2.2.1,0),fun x=>rx x.1 x.2.1 x.2.2.1⟩
theorem Maa (G:Good Tryz.prog tt bi):Con Tryz.prog 112 FH :=
 Ca (pts:=[(.lst .item),(.int .i64),(.int .i64)]) (rt:=.one (.acc true) (.lst .item)) (o:=fun x=>lx x.1 x.2.1 x.2.2.1) (ob:=fun x=>nx x.1 x.2.1 x.2.2.1) G (fn:=Tryz.f112) (c:=ia Tryz.f112) (by kernel_rfl) (by kernel_rfl) (by kernel_rfl) (rs:=[.tmp 6]) (fz:=ZR.fz) (by kernel_rfl) (by kernel_rfl) (fun _=>rfl) rfl (fun x=>lS x.1 x.2.1 x.2.2.1) (fun _=>⟨rfl,rfl,rfl,rfl,rfl⟩) (fun x _=>Laa G x.1 x.2.1 x.2.2.1)
def Ed:SP:=[(111,qH),(113,xH),(112,FH),(89,zw),(114,Jw)]
abbrev F97:Fnn:=⟨[.tmp 6],.one (.acc true) (.lst .row),none,[]⟩
abbrev We:LR→RV:=fun q=>(some (RT.av (.one (.acc true) (.lst .row)) q),.dead)
abbrev Nd (fr:Fr) {A X Y Z:Type} (S:da LR A X Y Z):Prop:=ua Tryz.prog tt ⟨Tryz.f97.ntmps,none,[]⟩ fr (ia Tryz.f97) F97 S
def tx (x22:LR) (x23 _x24:Int) (x25:LR) (x26:Int):Tr LR LR Empty Empty Empty :=
 .w [inb x26 (aa .row x22)] (.c (cmp .eql (rd .row x22 x26).Key x23)
 (.w [inb x26 (aa .row x22),lim (aa .row x25) (aa .row [(rd .row x22 x26)])] (.l (.n (x25++[(rd .row x22 x26)]))))
 (.l (.n x25)))
def mS:=fun x22 x23 x24 x25 x26=>(tx x22 x23 x24 x25 x26).val
def nS:=fun x22 x23 x24 x25 x26=>(tx x22 x23 x24 x25 x26).ob
def ux:=fun x22 x23 x24 x25 x26=>da.mk (mS x22 x23 x24 x25 x26) (nS x22 x23 x24 x25 x26) [0,1,0,0,1,0,1,1] [(0,.S .row x22),(1,.I x23),(2,.I x24),(7,.A .row x25),(8,.I x26)] We (fun q=>[(0,.S .row x22),(1,.I x23),(2,.I x24),(7,.A .row q),(8,.I x26)]) nE nE nE
theorem Naa (G:Good Tryz.prog tt Ed) {fr:Fr}:∀ x22 x23 x24 x25 x26,Nd fr (ux x22 x23 x24 x25 x26) :=
 fun x22 x23 x24 x25 x26=>fa G [] trivial [(5,[0,1,2,7,8,29]),(6,[0,1,2,7,8])] [] [] (tx x22 x23 x24 x25 x26) rfl rfl (by kernel_rfl)
def Dn (x4:LR) (x5 x6:Int) (s19:LR) (s20:Int):Tr LR (LR×Int) LR Empty Empty :=
 .c (cmp .lss s20 (aa .row x4))
 (.s (ux x4 x5 x6 s19 s20) (fun q29=>.l (.n (q29,(ar .add .i64 s20 1)))) nE nE nE)
 (.l (.x s19))
def Jj:=fun x4 x5 x6 s19 s20=>(Dn x4 x5 x6 s19 s20).val
def En:=fun x4 x5 x6 s19 s20=>(Dn x4 x5 x6 s19 s20).ob
def GH:=fun x4 x5 x6 s19 s20=>Na (Jj x4 x5 x6 s19 s20) (En x4 x5 x6 s19 s20) [0,0,1,0,1,1] (fun q=>[(0,.S .row x4),(1,.I x5),(2,.I x6),(7,.A .row q.1),(8,.I q.2)]) (s19,s20) We (fun q=>(0,[(0,.S .row x4),(1,.I x5),(2,.I x6),(7,.A .row q)])) nE nE
theorem Oaa (G:Good Tryz.prog tt Ed) {fr:Fr}:∀ x4 x5 x6 s19 s20,Nd fr (GH x4 x5 x6 s19 s20) :=
 fun x4 x5 x6 s19 s20=>fa G [([0,1,0,0,1,0,1,1],fun e=>⟨ux (gL .row e 0 0) (gI e 1 0) (gI e 2 0) (gL .row e 7 0) (gI e 8 0)⟩)] ⟨fun _=>⟨rfl,Naa G _ _ _ _ _⟩,trivial⟩ [(3,[0,1,2,7,8,20]),(4,[0,1,2,7,8])] [] [] (Dn x4 x5 x6 s19 s20) rfl rfl (by kernel_rfl)
def oS:=fun x4 x5 x6=>lpV (fun s:LR×Int=>ca (Jj x4 x5 x6 s.1 s.2)) ([],0)
def pS:=fun x4 x5 x6=>LpT (fun s:LR×Int=>ca (Jj x4 x5 x6 s.1 s.2)) (fun s=>En x4 x5 x6 s.1 s.2) ([],0)
def vx:=fun x4 x5 x6=>lpS (GH x4 x5 x6 [] 0) (oS x4 x5 x6) (pS x4 x5 x6)
theorem Paa (G:Good Tryz.prog tt Ed) {fr:Fr}:∀ x4 x5 x6,Nd fr (vx x4 x5 x6) :=
 fun x4 x5 x6=>Oa (fun s:LR×Int=>GH x4 x5 x6 s.1 s.2) ([],0) (fun _=>rfl) (fun _=>⟨rfl,rfl,rfl,rfl,rfl⟩) (by kernel_rfl) fun _=>Oaa G _ _ _ _ _
def yx (x1:LR) (x2 x3:Int):Tr LR LR Empty Empty Empty :=
 .s (vx x1 x2 x3) nE (fun q40=>.l (.n q40)) nE nE
def qS:=fun x1 x2 x3=>(yx x1 x2 x3).val
def rS:=fun x1 x2 x3=>(yx x1 x2 x3).ob
def zx:=fun x1 x2 x3=>da.mk (qS x1 x2 x3) (rS x1 x2 x3) [0,1,1] [(0,.S .row x1),(1,.I x2),(2,.I x3),(7,.A .row [])] We (fun q=>[(0,.S .row x1),(1,.I x2),(2,.I x3),(7,.A .row q)]) nE nE nE
theorem Qaa (G:Good Tryz.prog tt Ed) {fr:Fr}:∀ x1 x2 x3,Nd fr (zx x1 x2 x3) :=
 fun x1 x2 x3=>fa G [([0,1,0,1,1],fun e=>⟨vx (gL .row e 0 0) (gI e 1 0) (gI e 2 0)⟩)] ⟨fun _=>⟨rfl,Paa G _ _ _⟩,trivial⟩ [(2,[0,1,2,7,8])] [] [] (yx x1 x2 x3) rfl rfl (by kernel_rfl)
def Ax (x197 _x198:Int) (_x199 x200:LR) (_x201:List Time) (_x202:Int) (x203:Time) (x204:LI) (x205:Int):Tr LR LI Empty Empty Empty :=
 .w [inb x205 (aa .row x200),(yw (rd .row x200 x205).At x203)] (.c (xw (rd .row x200 x205).At x203)
 (.w [inb x205 (aa .row x200),inb x205 (aa .row x200),lim (aa .item x204) (aa .item [(Item.mk x197 (rd .row x200 x205).Val (IntKind.wrap .i64 (0 - (rd .row x200 x205).Diff)))])] (.l (.n (x204++[(Item.mk x197 (rd .row x200 x205).Val (IntKind.wrap .i64 (0 - (rd .row x200 x205).Diff)))]))))
 (.l (.n x204)))
def tS:=fun x197 x198 x199 x200 x201 x202 x203 x204 x205=>(Ax x197 x198 x199 x200 x201 x202 x203 x204 x205).val
def uS:=fun x197 x198 x199 x200 x201 x202 x203 x204 x205=>(Ax x197 x198 x199 x200 x201 x202 x203 x204 x205).ob
def Bx:=fun x197 x198 x199 x200 x201 x202 x203 x204 x205=>da.mk (tS x197 x198 x199 x200 x201 x202 x203 x204 x205) (uS x197 x198 x199 x200 x201 x202 x203 x204 x205) [0,1,0,0,1,0,1,1,0,0,1,0,0,1,0,1,1,1,1,1] [(1,.I x197),(2,.I x198),(7,.A .row x199),(9,.A .row x200),(10,.A .time x201),(11,.I x202),(12,.box [(.fr,.i x203.A),(.fr,.i x203.B)]),(13,.A .item x204),(14,.I x205)] We (fun q=>[(1,.I x197),(2,.I x198),(7,.A .row x199),(9,.A .row x200),(10,.A .time x201),(11,.I x202),(12,.box [(.fr,.i x203.A),(.fr,.i x203.B)]),(13,.A .item q),(14,.I x205)]) nE nE nE
theorem Raa (G:Good Tryz.prog tt Ed) {fr:Fr}:∀ x197 x198 x199 x200 x201 x202 x203 x204 x205,Nd fr (Bx x197 x198 x199 x200 x201 x202 x203 x204 x205) :=
 fun x197 x198 x199 x200 x201 x202 x203 x204 x205=>fa G [] trivial [(17,[1,2,7,9,10,11,12,13,14,69]),(18,[1,2,7,9,10,11,12,13,14])] [] [] (Ax x197 x198 x199 x200 x201 x202 x203 x204 x205) rfl rfl (by kernel_rfl)
def Gn (x168 x169:Int) (x170 x171:LR) (x172:List Time) (x173:Int) (x174:Time) (_x175 s194:LI) (s195:Int):Tr LR (LI×Int) LI Empty Empty :=
 .c (cmp .lss s195 (aa .row x171))
 (.s (Bx x168 x169 x170 x171 x172 x173 x174 s194 s195) (fun q209=>.l (.n (q209,(ar .add .i64 s195 1)))) nE nE nE)
 (.l (.x s194))
def Kj:=fun x168 x169 x170 x171 x172 x173 x174 x175 s194 s195=>(Gn x168 x169 x170 x171 x172 x173 x174 x175 s194 s195).val
def Hn:=fun x168 x169 x170 x171 x172 x173 x174 x175 s194 s195=>(Gn x168 x169 x170 x171 x172 x173 x174 x175 s194 s195).ob
def HH:=fun x168 x169 x170 x171 x172 x173 x174 x175 s194 s195=>Na (Kj x168 x169 x170 x171 x172 x173 x174 x175 s194 s195) (Hn x168 x169 x170 x171 x172 x173 x174 x175 s194 s195) [0,0,1,0,1,1,0,0,1,0,0,1,0,1,1,1,1,1] (fun q=>[(1,.I x168),(2,.I x169),(7,.A .row x170),(9,.A .row x171),(10,.A .time x172),(11,.I x173),(12,.box [(.fr,.i x174.A),(.fr,.i x174.B)]),(13,.A .item q.1),(14,.I q.2)]) (s194,s195) We (fun q=>(4,[(1,.I x168),(2,.I x169),(7,.A .row x170),(9,.A .row x171),(10,.A .time x172),(11,.I x173),(12,.box [(.fr,.i x174.A),(.fr,.i x174.B)]),(13,.A .item q)])) nE nE
theorem Saa (G:Good Tryz.prog tt Ed) {fr:Fr}:∀ x168 x169 x170 x171 x172 x173 x174 x175 s194 s195,Nd fr (HH x168 x169 x170 x171 x172 x173 x174 x175 s194 s195) :=
 fun x168 x169 x170 x171 x172 x173 x174 x175 s194 s195=>fa G [([0,1,0,0,1,0,1,1,0,0,1,0,0,1,0,1,1,1,1,1],fun e=>⟨Bx (gI e 1 0) (gI e 2 0) (gL .row e 7 0) (gL .row e 9 0) (gL .time e 10 0) (gI e 11 0) (Id e 12) (gL .item e 13 0) (gI e 14 0)⟩)] ⟨fun _=>⟨rfl,Raa G _ _ _ _ _ _ _ _ _⟩,trivial⟩ [(15,[1,2,7,9,10,11,12,13,14,60]),(16,[1,2,7,9,10,11,12,13,14])] [] [] (Gn x168 x169 x170 x171 x172 x173 x174 x175 s194 s195) rfl rfl (by kernel_rfl)
def vS:=fun x168 x169 x170 x171 x172 x173 x174 x175=>lpV (fun s:LI×Int=>ca (Kj x168 x169 x170 x171 x172 x173 x174 x175 s.1 s.2)) (x175,0)
def wS:=fun x168 x169 x170 x171 x172 x173 x174 x175=>LpT (fun s:LI×Int=>ca (Kj x168 x169 x170 x171 x172 x173 x174 x175 s.1 s.2)) (fun s=>Hn x168 x169 x170 x171 x172 x173 x174 x175 s.1 s.2) (x175,0)
def Cx:=fun x168 x169 x170 x171 x172 x173 x174 x175=>lpS (HH x168 x169 x170 x171 x172 x173 x174 x175 x175 0) (vS x168 x169 x170 x171 x172 x173 x174 x175) (wS x168 x169 x170 x171 x172 x173 x174 x175)
theorem Taa (G:Good Tryz.prog tt Ed) {fr:Fr}:∀ x168 x169 x170 x171 x172 x173 x174 x175,Nd fr (Cx x168 x169 x170 x171 x172 x173 x174 x175) :=
 fun x168 x169 x170 x171 x172 x173 x174 x175=>Oa (fun s:LI×Int=>HH x168 x169 x170 x171 x172 x173 x174 x175 s.1 s.2) (x175,0) (fun _=>rfl) (fun _=>⟨rfl,rfl,rfl,rfl,rfl⟩) (by kernel_rfl) fun _=>Saa G _ _ _ _ _ _ _ _ _ _
def Dx (x160 x161:Int) (x162 x163:LR) (x164:List Time) (x165:Int) (x166:Time) (x167:LI):Tr LR LI Empty Empty Empty :=
 .s (Cx x160 x161 x162 x163 x164 x165 x166 x167) nE (fun q220=>.l (.n q220)) nE nE
def xS:=fun x160 x161 x162 x163 x164 x165 x166 x167=>(Dx x160 x161 x162 x163 x164 x165 x166 x167).val
def yS:=fun x160 x161 x162 x163 x164 x165 x166 x167=>(Dx x160 x161 x162 x163 x164 x165 x166 x167).ob
def Ex:=fun x160 x161 x162 x163 x164 x165 x166 x167=>da.mk (xS x160 x161 x162 x163 x164 x165 x166 x167) (yS x160 x161 x162 x163 x164 x165 x166 x167) [0,1,1,0,0,1,0,0,1,0,1,1,1,1,1] [(1,.I x160),(2,.I x161),(7,.A .row x162),(9,.A .row x163),(10,.A .time x164),(11,.I x165),(12,.box [(.fr,.i x166.A),(.fr,.i x166.B)]),(13,.A .item x167)] We (fun q=>[(1,.I x160),(2,.I x161),(7,.A .row x162),(9,.A .row x163),(10,.A .time x164),(11,.I x165),(12,.box [(.fr,.i x166.A),(.fr,.i x166.B)]),(13,.A .item q)]) nE nE nE
theorem Uaa (G:Good Tryz.prog tt Ed) {fr:Fr}:∀ x160 x161 x162 x163 x164 x165 x166 x167,Nd fr (Ex x160 x161 x162 x163 x164 x165 x166 x167) :=
 fun x160 x161 x162 x163 x164 x165 x166 x167=>fa G [([0,1,0,1,1,0,0,1,0,0,1,0,1,1,1,1,1],fun e=>⟨Cx (gI e 1 0) (gI e 2 0) (gL .row e 7 0) (gL .row e 9 0) (gL .time e 10 0) (gI e 11 0) (Id e 12) (gL .item e 13 0)⟩)] ⟨fun _=>⟨rfl,Taa G _ _ _ _ _ _ _ _⟩,trivial⟩ [(14,[1,2,7,9,10,11,12,13,14])] [] [] (Dx x160 x161 x162 x163 x164 x165 x166 x167) rfl rfl (by kernel_rfl)
def In (x226 _x227:Int) (_x228 _x229:LR) (_x230:List Time) (_x231:Int) (x232:Time) (x233:LI) (s237:LR) (s238:Int):Tr LR (LR×Int) LR Empty Empty :=
 .c (cmp .lss s238 (aa .item x233))
 (.w [inb s238 (aa .item x233),inb s238 (aa .item x233),lim (aa .row s237) (aa .row [(Row.mk x226 (rd .item x233 s238).Val x232 (rd .item x233 s238).Count)])] (.l (.n ((s237++[(Row.mk x226 (rd .item x233 s238).Val x232 (rd .item x233 s238).Count)]),(ar .add .i64 s238 1)))))
 (.l (.x s237))
def Lj:=fun x226 x227 x228 x229 x230 x231 x232 x233 s237 s238=>(In x226 x227 x228 x229 x230 x231 x232 x233 s237 s238).val
def Jn:=fun x226 x227 x228 x229 x230 x231 x232 x233 s237 s238=>(In x226 x227 x228 x229 x230 x231 x232 x233 s237 s238).ob
def IH:=fun x226 x227 x228 x229 x230 x231 x232 x233 s237 s238=>Na (Lj x226 x227 x228 x229 x230 x231 x232 x233 s237 s238) (Jn x226 x227 x228 x229 x230 x231 x232 x233 s237 s238) [0,0,1,1,1,1,1,0,0,1,0,0,1,0,1,1,1,1,1] (fun q=>[(1,.I x226),(2,.I x227),(7,.A .row x228),(9,.A .row q.1),(10,.A .time x230),(11,.I x231),(12,.box [(.fr,.i x232.A),(.fr,.i x232.B)]),(13,.A .item x233),(15,.I q.2)]) (s237,s238) We (fun q=>(6,[(1,.I x226),(2,.I x227),(7,.A .row x228),(9,.A .row q),(10,.A .time x230),(11,.I x231)])) nE nE
theorem Vaa (G:Good Tryz.prog tt Ed) {fr:Fr}:∀ x226 x227 x228 x229 x230 x231 x232 x233 s237 s238,Nd fr (IH x226 x227 x228 x229 x230 x231 x232 x233 s237 s238) :=
 fun x226 x227 x228 x229 x230 x231 x232 x233 s237 s238=>fa G [] trivial [(21,[1,2,7,9,10,11,12,13,15,91]),(22,[1,2,7,9,10,11,12,13,15]),(23,[1,2,7,9,10,11,12,13,15])] [] [] (In x226 x227 x228 x229 x230 x231 x232 x233 s237 s238) rfl rfl (by kernel_rfl)
def zS:=fun x226 x227 x228 x229 x230 x231 x232 x233=>lpV (fun s:LR×Int=>ca (Lj x226 x227 x228 x229 x230 x231 x232 x233 s.1 s.2)) (x229,0)
def AS:=fun x226 x227 x228 x229 x230 x231 x232 x233=>LpT (fun s:LR×Int=>ca (Lj x226 x227 x228 x229 x230 x231 x232 x233 s.1 s.2)) (fun s=>Jn x226 x227 x228 x229 x230 x231 x232 x233 s.1 s.2) (x229,0)
def Gx:=fun x226 x227 x228 x229 x230 x231 x232 x233=>lpS (IH x226 x227 x228 x229 x230 x231 x232 x233 x229 0) (zS x226 x227 x228 x229 x230 x231 x232 x233) (AS x226 x227 x228 x229 x230 x231 x232 x233)
theorem Waa (G:Good Tryz.prog tt Ed) {fr:Fr}:∀ x226 x227 x228 x229 x230 x231 x232 x233,Nd fr (Gx x226 x227 x228 x229 x230 x231 x232 x233) :=
 fun x226 x227 x228 x229 x230 x231 x232 x233=>Oa (fun s:LR×Int=>IH x226 x227 x228 x229 x230 x231 x232 x233 s.1 s.2) (x229,0) (fun _=>rfl) (fun _=>⟨rfl,rfl,rfl,rfl,rfl⟩) (by kernel_rfl) fun _=>Vaa G _ _ _ _ _ _ _ _ _ _
def Hx (x152 x153:Int) (x154 x155:LR) (x156:List Time) (x157:Int):Tr LR LR Empty Empty Empty :=
 .w [inb x157 (aa .time x156)] (.k (Uw x154 (rd .time x156 x157)) fun u158=>.w [(Vw x154 (rd .time x156 x157)),(rx u158 x152 x153)] (.s (Ex x152 x153 x154 x155 x156 x157 (rd .time x156 x157) (qx u158 x152 x153)) (fun q223=>.w [(vn q223)] (.s (Gx x152 x153 x154 x155 x156 x157 (rd .time x156 x157) (un q223)) nE (fun q247=>.l (.n q247)) nE nE)) nE nE nE))
def JH:=fun x152 x153 x154 x155 x156 x157=>(Hx x152 x153 x154 x155 x156 x157).val
def LH:=fun x152 x153 x154 x155 x156 x157=>(Hx x152 x153 x154 x155 x156 x157).ob
def Ix:=fun x152 x153 x154 x155 x156 x157=>da.mk (JH x152 x153 x154 x155 x156 x157) (LH x152 x153 x154 x155 x156 x157) [0,1,0,0,1,0,1,1,1,1,1] [(1,.I x152),(2,.I x153),(7,.A .row x154),(9,.A .row x155),(10,.A .time x156),(11,.I x157)] We (fun q=>[(1,.I x152),(2,.I x153),(7,.A .row x154),(9,.A .row q),(10,.A .time x156),(11,.I x157)]) nE nE nE
theorem Xaa (G:Good Tryz.prog tt Ed) {fr:Fr}:∀ x152 x153 x154 x155 x156 x157,Nd fr (Ix x152 x153 x154 x155 x156 x157) :=
 fun x152 x153 x154 x155 x156 x157=>fa G [([0,1,1,0,0,1,0,0,1,0,1,1,1,1,1],fun e=>⟨Ex (gI e 1 0) (gI e 2 0) (gL .row e 7 0) (gL .row e 9 0) (gL .time e 10 0) (gI e 11 0) (Id e 12) (gL .item e 13 0)⟩),([0,1,1,1,1,1,0,0,1,0,0,1,0,1,1,1,1,1],fun e=>⟨Gx (gI e 1 0) (gI e 2 0) (gL .row e 7 0) (gL .row e 9 0) (gL .time e 10 0) (gI e 11 0) (Id e 12) (gL .item e 13 0)⟩)] ⟨fun _=>⟨rfl,Uaa G _ _ _ _ _ _ _ _⟩,fun _=>⟨rfl,Waa G _ _ _ _ _ _ _ _⟩,trivial⟩ [(12,[1,2,7,9,10,11,12]),(13,[1,2,7,9,10,11,12,13]),(19,[1,2,7,9,10,11,12,13]),(20,[1,2,7,9,10,11,12,13,15])] [] [] (Hx x152 x153 x154 x155 x156 x157) rfl rfl (by kernel_rfl)
def Nn (x50 x51:Int) (x52:LR) (x53:List Time) (s149:LR) (s150:Int):Tr LR (LR×Int) LR Empty Empty :=
 .c (cmp .lss s150 (aa .time x53))
 (.s (Ix x50 x51 x52 s149 x53 s150) (fun q252=>.l (.n (q252,(ar .add .i64 s150 1)))) nE nE nE)
 (.l (.x s149))
def Mj:=fun x50 x51 x52 x53 s149 s150=>(Nn x50 x51 x52 x53 s149 s150).val
def On:=fun x50 x51 x52 x53 s149 s150=>(Nn x50 x51 x52 x53 s149 s150).ob
def MH:=fun x50 x51 x52 x53 s149 s150=>Na (Mj x50 x51 x52 x53 s149 s150) (On x50 x51 x52 x53 s149 s150) [0,0,1,0,1,1,1,1,1] (fun q=>[(1,.I x50),(2,.I x51),(7,.A .row x52),(9,.A .row q.1),(10,.A .time x53),(11,.I q.2)]) (s149,s150) We (fun q=>(2,[(9,.A .row q)])) nE nE
theorem Yaa (G:Good Tryz.prog tt Ed) {fr:Fr}:∀ x50 x51 x52 x53 s149 s150,Nd fr (MH x50 x51 x52 x53 s149 s150) :=
 fun x50 x51 x52 x53 s149 s150=>fa G [([0,1,0,0,1,0,1,1,1,1,1],fun e=>⟨Ix (gI e 1 0) (gI e 2 0) (gL .row e 7 0) (gL .row e 9 0) (gL .time e 10 0) (gI e 11 0)⟩)] ⟨fun _=>⟨rfl,Xaa G _ _ _ _ _ _⟩,trivial⟩ [(10,[1,2,7,9,10,11,44]),(11,[1,2,7,9,10,11])] [] [] (Nn x50 x51 x52 x53 s149 s150) rfl rfl (by kernel_rfl)
def BS:=fun x50 x51 x52 x53=>lpV (fun s:LR×Int=>ca (Mj x50 x51 x52 x53 s.1 s.2)) ([],0)
def CS:=fun x50 x51 x52 x53=>LpT (fun s:LR×Int=>ca (Mj x50 x51 x52 x53 s.1 s.2)) (fun s=>On x50 x51 x52 x53 s.1 s.2) ([],0)
def Jx:=fun x50 x51 x52 x53=>lpS (MH x50 x51 x52 x53 [] 0) (BS x50 x51 x52 x53) (CS x50 x51 x52 x53)
theorem Zaa (G:Good Tryz.prog tt Ed) {fr:Fr}:∀ x50 x51 x52 x53,Nd fr (Jx x50 x51 x52 x53) :=
 fun x50 x51 x52 x53=>Oa (fun s:LR×Int=>MH x50 x51 x52 x53 s.1 s.2) ([],0) (fun _=>rfl) (fun _=>⟨rfl,rfl,rfl,rfl,rfl⟩) (by kernel_rfl) fun _=>Yaa G _ _ _ _ _ _
def Kx (x46 x47:Int) (x48:LR) (x49:List Time):Tr LR LR Empty Empty Empty :=
 .s (Jx x46 x47 x48 x49) nE (fun q263=>.l (.n q263)) nE nE
def DS:=fun x46 x47 x48 x49=>(Kx x46 x47 x48 x49).val
def ES:=fun x46 x47 x48 x49=>(Kx x46 x47 x48 x49).ob
def Lx:=fun x46 x47 x48 x49=>da.mk (DS x46 x47 x48 x49) (ES x46 x47 x48 x49) [0,1,1,1,1,1] [(1,.I x46),(2,.I x47),(7,.A .row x48),(9,.A .row []),(10,.A .time x49)] We (fun q=>[(9,.A .row q)]) nE nE nE
theorem aab (G:Good Tryz.prog tt Ed) {fr:Fr}:∀ x46 x47 x48 x49,Nd fr (Lx x46 x47 x48 x49) :=
 fun x46 x47 x48 x49=>fa G [([0,1,0,1,1,1,1,1],fun e=>⟨Jx (gI e 1 0) (gI e 2 0) (gL .row e 7 0) (gL .time e 10 0)⟩)] ⟨fun _=>⟨rfl,Zaa G _ _ _ _⟩,trivial⟩ [(9,[1,2,7,9,10,11])] [] [] (Kx x46 x47 x48 x49) rfl rfl (by kernel_rfl)
def Mx (a0:LR) (a1 a2:Int):Tr LR Empty Empty Empty Empty :=
 .s (zx a0 a1 a2) (fun q43=>.w [(ww a0 a1)] (.s (Lx a1 a2 q43 (vw a0 a1)) (fun q266=>.l (.r q266)) nE nE nE)) nE nE nE
def Nx:=fun a0 a1 a2=>(Mx a0 a1 a2).val
def Ox:=fun a0 a1 a2=>(Mx a0 a1 a2).ob
def FS:=fun a0 a1 a2=>da.mk (Nx a0 a1 a2) (Ox a0 a1 a2) [] [(0,.S .row a0),(1,.I a1),(2,.I a2)] We nE nE nE nE
theorem bab (G:Good Tryz.prog tt Ed) {fr:Fr}:∀ a0 a1 a2,Nd fr (FS a0 a1 a2) :=
 fun a0 a1 a2=>fa G [([0,1,1],fun e=>⟨zx (gL .row e 0 0) (gI e 1 0) (gI e 2 0)⟩),([0,1,1,1,1,1],fun e=>⟨Lx (gI e 1 0) (gI e 2 0) (gL .row e 7 0) (gL .time e 10 0)⟩)] ⟨fun _=>⟨rfl,Qaa G _ _ _⟩,fun _=>⟨rfl,aab G _ _ _ _⟩,trivial⟩ [(0,[0,1,2]),(1,[0,1,2,7]),(7,[0,1,2,7,9]),(8,[1,2,7,9,10]),(24,[6])] [] [] (Mx a0 a1 a2) rfl rfl (by kernel_rfl)
def Px (a0:LR) (a1:Int) (a2:Int):LR:=ocR (Nx a0 a1 a2)
def Qx (a0:LR) (a1:Int) (a2:Int):Prop:=Ox a0 a1 a2
def PH:Spec:=⟨[(.lst .row),(.int .i64),(.int .i64)],.one (.acc true) (.lst .row),false,fun x=>(Px x.1 x.2.1 x.2.2.1,0),fun x=>Qx x.1 x.2.1 x.2.2.1⟩
theorem cab (G:Good Tryz.prog tt Ed):Con Tryz.prog 97 PH :=
 Ca (pts:=[(.lst .row),(.int .i64),(.int .i64)]) (rt:=.one (.acc true) (.lst .row)) (o:=fun x=>Nx x.1 x.2.1 x.2.2.1) (ob:=fun x=>Ox x.1 x.2.1 x.2.2.1) G (fn:=Tryz.f97) (c:=ia Tryz.f97) (by kernel_rfl) (by kernel_rfl) (by kernel_rfl) (rs:=[.tmp 6]) (fz:=F97.fz) (by kernel_rfl) (by kernel_rfl) (fun _=>rfl) rfl (fun x=>FS x.1 x.2.1 x.2.2.1) (fun _=>⟨rfl,rfl,rfl,rfl,rfl⟩) (fun x _=>bab G x.1 x.2.1 x.2.2.1)
def Pn:SP:=[(97,PH),(68,fg)]
abbrev F71:Fnn:=⟨[.tmp 4],.one (.acc true) (.lst .row),none,[]⟩
abbrev QH:LR→RV:=fun q=>(some (RT.av (.one (.acc true) (.lst .row)) q),.dead)
abbrev Rx (fr:Fr) {A X Y Z:Type} (S:da LR A X Y Z):Prop:=ua Tryz.prog tt ⟨Tryz.f71.ntmps,none,[]⟩ fr (ia Tryz.f71) F71 S
def Qn (x3:LR) (x4:Int) (s9:LR) (s10:Int):Tr LR (LR×Int) LR Empty Empty :=
 .c (cmp .lss s10 4)
 (.k (Px x3 s10 x4) fun u12=>.w [(Qx x3 s10 x4),lim (aa .row s9) (aa .row u12)] (.l (.n ((s9++u12),(ar .add .i64 s10 1)))))
 (.l (.x s9))
def Nj:=fun x3 x4 s9 s10=>(Qn x3 x4 s9 s10).val
def Rn:=fun x3 x4 s9 s10=>(Qn x3 x4 s9 s10).ob
def RH:=fun x3 x4 s9 s10=>Na (Nj x3 x4 s9 s10) (Rn x3 x4 s9 s10) [0,0,1,0,1,1] (fun q=>[(0,.S .row x3),(1,.I x4),(5,.A .row q.1),(6,.I q.2)]) (s9,s10) QH (fun q=>(0,[(5,.A .row q)])) nE nE
theorem dab (G:Good Tryz.prog tt Pn) {fr:Fr}:∀ x3 x4 s9 s10,Rx fr (RH x3 x4 s9 s10) :=
 fun x3 x4 s9 s10=>fa G [] trivial [(3,[0,1,5,6,9]),(4,[0,1,5,6]),(5,[0,1,5,6])] [] [] (Qn x3 x4 s9 s10) rfl rfl (by kernel_rfl)
def GS:=fun x3 x4=>lpV (fun s:LR×Int=>ca (Nj x3 x4 s.1 s.2)) ([],0)
def JS:=fun x3 x4=>LpT (fun s:LR×Int=>ca (Nj x3 x4 s.1 s.2)) (fun s=>Rn x3 x4 s.1 s.2) ([],0)
def Sx:=fun x3 x4=>lpS (RH x3 x4 [] 0) (GS x3 x4) (JS x3 x4)
theorem eab (G:Good Tryz.prog tt Pn) {fr:Fr}:∀ x3 x4,Rx fr (Sx x3 x4) :=
 fun x3 x4=>Oa (fun s:LR×Int=>RH x3 x4 s.1 s.2) ([],0) (fun _=>rfl) (fun _=>⟨rfl,rfl,rfl,rfl,rfl⟩) (by kernel_rfl) fun _=>dab G _ _ _ _
def Tx (x1:LR) (x2:Int):Tr LR LR Empty Empty Empty :=
 .s (Sx x1 x2) nE (fun q20=>.l (.n q20)) nE nE
def LS:=fun x1 x2=>(Tx x1 x2).val
def NS:=fun x1 x2=>(Tx x1 x2).ob
def Ux:=fun x1 x2=>da.mk (LS x1 x2) (NS x1 x2) [0,1,1] [(0,.S .row x1),(1,.I x2),(5,.A .row [])] QH (fun q=>[(5,.A .row q)]) nE nE nE
theorem fab (G:Good Tryz.prog tt Pn) {fr:Fr}:∀ x1 x2,Rx fr (Ux x1 x2) :=
 fun x1 x2=>fa G [([0,1,0,1,1],fun e=>⟨Sx (gL .row e 0 0) (gI e 1 0)⟩)] ⟨fun _=>⟨rfl,eab G _ _⟩,trivial⟩ [(2,[0,1,5,6])] [] [] (Tx x1 x2) rfl rfl (by kernel_rfl)
def Vx (a0:LR) (a1:Int):Tr LR Empty Empty Empty Empty :=
 .s (Ux a0 a1) (fun q23=>.w [(Cf q23)] (.l (.r (ze q23)))) nE nE nE
def Wx:=fun a0 a1=>(Vx a0 a1).val
def Xx:=fun a0 a1=>(Vx a0 a1).ob
def QS:=fun a0 a1=>da.mk (Wx a0 a1) (Xx a0 a1) [] [(0,.S .row a0),(1,.I a1)] QH nE nE nE nE
theorem gab (G:Good Tryz.prog tt Pn) {fr:Fr}:∀ a0 a1,Rx fr (QS a0 a1) :=
 fun a0 a1=>fa G [([0,1,1],fun e=>⟨Ux (gL .row e 0 0) (gI e 1 0)⟩)] ⟨fun _=>⟨rfl,fab G _ _⟩,trivial⟩ [(0,[0,1]),(1,[0,1,5]),(6,[4])] [] [] (Vx a0 a1) rfl rfl (by kernel_rfl)
def Yx (a0:LR) (a1:Int):LR:=ocR (Wx a0 a1)
def Zx (a0:LR) (a1:Int):Prop:=Xx a0 a1
def SH:Spec:=⟨[(.lst .row),(.int .i64)],.one (.acc true) (.lst .row),false,fun x=>(Yx x.1 x.2.1,0),fun x=>Zx x.1 x.2.1⟩
theorem iab (G:Good Tryz.prog tt Pn):Con Tryz.prog 71 SH :=
 Ca (pts:=[(.lst .row),(.int .i64)]) (rt:=.one (.acc true) (.lst .row)) (o:=fun x=>Wx x.1 x.2.1) (ob:=fun x=>Xx x.1 x.2.1) G (fn:=Tryz.f71) (c:=ia Tryz.f71) (by kernel_rfl) (by kernel_rfl) (by kernel_rfl) (rs:=[.tmp 4]) (fz:=F71.fz) (by kernel_rfl) (by kernel_rfl) (fun _=>rfl) rfl (fun x=>QS x.1 x.2.1) (fun _=>⟨rfl,rfl,rfl,rfl,rfl⟩) (fun x _=>gab G x.1 x.2.1)
abbrev V42:=Plan→List LR→LR×Bool×Unit
abbrev Q42:=Plan→List LR→Prop
def ay (v:V42) (p:Q42):Spec:=⟨[(.st .plan),(.lst .lrow)],.tup [(false,(.lst .row)),(true,.bool)],false,fun x=>(v x.1 x.2.1,0),fun x=>p x.1 x.2.1⟩
def ci (r42V:V42) (r42P:Q42):SP:=[(42,ay r42V r42P),(67,UG),(68,fg),(69,XG),(70,gH),(71,SH),(41,Am)]
abbrev F42:Fnn:=⟨[.tmp 4,.tmp 5],.tup [(false,(.lst .row)),(true,.bool)],none,[]⟩
abbrev Sn:LR×Bool×Unit→RV:=fun q=>(some (RT.av (.tup [(false,(.lst .row)),(true,.bool)]) q),.dead)
abbrev Oj (fr:Fr) {A X Y Z:Type} (S:da (LR×Bool×Unit) A X Y Z):Prop:=ua Tryz.prog tt ⟨Tryz.f42.ntmps,none,[]⟩ fr (ia Tryz.f42) F42 S
def Tn (r42V:V42) (r42P:Q42) (x5:List LR) (_x6 _x7:Int) (x8:LP) (s14:List LR) (s15:Int):Tr (LR×Bool×Unit) ((List LR)×Int) ((List LR)) Empty Empty :=
 .c (cmp .lss s15 (aa .plan x8))
 (.k (r42V (Plan.mk (rd .plan x8 s15).Kind (rd .plan x8 s15).Num (rd .plan x8 s15).Kids) x5) fun u17=>.w [inb s15 (aa .plan x8),(r42P (Plan.mk (rd .plan x8 s15).Kind (rd .plan x8 s15).Num (rd .plan x8 s15).Kids) x5)] (.c (!u17.2.1)
 (.l (.r ([],(false,()))))
 (.w [lim (aa .lrow s14) (aa .lrow [u17.1])] (.l (.n ((s14++[u17.1]),(ar .add .i64 s15 1)))))))
 (.l (.x s14))
def Pj:=fun r42V r42P x5 x6 x7 x8 s14 s15=>(Tn r42V r42P x5 x6 x7 x8 s14 s15).val
def Un:=fun r42V r42P x5 x6 x7 x8 s14 s15=>(Tn r42V r42P x5 x6 x7 x8 s14 s15).ob
def UH:=fun r42V r42P x5 x6 x7 x8 s14 s15=>Na (Pj r42V r42P x5 x6 x7 x8 s14 s15) (Un r42V r42P x5 x6 x7 x8 s14 s15) [0,0,1,0,1,1] (fun q=>[(1,.S .lrow x5),(2,.box [(.fr,.i x6),(.fr,.i x7),(.sh,.lst .plan x8)]),(6,.v (.acc false) (.lst .lrow q.1)),(7,.I q.2)]) (s14,s15) Sn (fun q=>(0,[(1,.S .lrow x5),(2,.box [(.fr,.i x6),(.fr,.i x7),(.sh,.lst .plan x8)]),(6,.v (.acc false) (.lst .lrow q))])) nE nE
theorem jab {r42V:V42} {r42P:Q42} (G:Good Tryz.prog tt (ci r42V r42P)) {fr:Fr}:∀ x5 x6 x7 x8 s14 s15,Oj fr (UH r42V r42P x5 x6 x7 x8 s14 s15) :=
 fun x5 x6 x7 x8 s14 s15=>fa G [] trivial [(3,[1,2,6,7,16]),(4,[1,2,6,7]),(5,[1,2,6,7,8,9]),(6,[1,2,6,7,8,30]),(7,[4,5]),(8,[1,2,6,7])] [] [] (Tn r42V r42P x5 x6 x7 x8 s14 s15) rfl rfl (by kernel_rfl)
def RS:=fun r42V r42P x5 x6 x7 x8=>lpV (fun s:(List LR)×Int=>ca (Pj r42V r42P x5 x6 x7 x8 s.1 s.2)) ([],0)
def SS:=fun r42V r42P x5 x6 x7 x8=>LpT (fun s:(List LR)×Int=>ca (Pj r42V r42P x5 x6 x7 x8 s.1 s.2)) (fun s=>Un r42V r42P x5 x6 x7 x8 s.1 s.2) ([],0)
def cy:=fun r42V r42P x5 x6 x7 x8=>lpS (UH r42V r42P x5 x6 x7 x8 [] 0) (RS r42V r42P x5 x6 x7 x8) (SS r42V r42P x5 x6 x7 x8)
theorem kab {r42V:V42} {r42P:Q42} (G:Good Tryz.prog tt (ci r42V r42P)) {fr:Fr}:∀ x5 x6 x7 x8,Oj fr (cy r42V r42P x5 x6 x7 x8) :=
 fun x5 x6 x7 x8=>Oa (fun s:(List LR)×Int=>UH r42V r42P x5 x6 x7 x8 s.1 s.2) ([],0) (fun _=>rfl) (fun _=>⟨rfl,rfl,rfl,rfl,rfl⟩) (by kernel_rfl) fun _=>jab G _ _ _ _ _ _
def dy (r42V:V42) (r42P:Q42) (x1:List LR) (x2 x3:Int) (x4:LP):Tr (LR×Bool×Unit) ((List LR)) Empty Empty Empty :=
 .s (cy r42V r42P x1 x2 x3 x4) nE (fun q26=>.l (.n q26)) nE nE
def TS:=fun r42V r42P x1 x2 x3 x4=>(dy r42V r42P x1 x2 x3 x4).val
def US:=fun r42V r42P x1 x2 x3 x4=>(dy r42V r42P x1 x2 x3 x4).ob
def ey:=fun r42V r42P x1 x2 x3 x4=>da.mk (TS r42V r42P x1 x2 x3 x4) (US r42V r42P x1 x2 x3 x4) [0,1,1] [(1,.S .lrow x1),(2,.box [(.fr,.i x2),(.fr,.i x3),(.sh,.lst .plan x4)]),(6,.A .lrow [])] Sn (fun q=>[(1,.S .lrow x1),(2,.box [(.fr,.i x2),(.fr,.i x3),(.sh,.lst .plan x4)]),(6,.v (.acc false) (.lst .lrow q))]) nE nE nE
theorem lab {r42V:V42} {r42P:Q42} (G:Good Tryz.prog tt (ci r42V r42P)) {fr:Fr}:∀ x1 x2 x3 x4,Oj fr (ey r42V r42P x1 x2 x3 x4) :=
 fun x1 x2 x3 x4=>fa G [([0,1,0,1,1],fun e=>⟨cy r42V r42P (gL .lrow e 1 0) (gI e 2 0) (gI e 2 1) (gL .plan e 2 2)⟩)] ⟨fun _=>⟨rfl,kab G _ _ _ _⟩,trivial⟩ [(2,[1,2,6,7])] [] [] (dy r42V r42P x1 x2 x3 x4) rfl rfl (by kernel_rfl)
def fy (_r42V:V42) (_r42P:Q42) (x40:List LR):Tr (LR×Bool×Unit) LR Empty Empty Empty :=
 .w [inb 0 (aa .lrow x40),lim (aa .row []) (aa .row (rd .lrow x40 0)),inb 1 (aa .lrow x40),lim (aa .row ([]++(rd .lrow x40 0))) (aa .row (rd .lrow x40 1)),(Cf (([]++(rd .lrow x40 0))++(rd .lrow x40 1)))] (.l (.n (ze (([]++(rd .lrow x40 0))++(rd .lrow x40 1)))))
def VS:=fun r42V r42P x40=>(fy r42V r42P x40).val
def WS:=fun r42V r42P x40=>(fy r42V r42P x40).ob
def iy:=fun r42V r42P x40=>da.mk (VS r42V r42P x40) (WS r42V r42P x40) [0,1,1,1,1,1,0,1,0,1,1,1,1] [(6,.v (.acc false) (.lst .lrow x40))] Sn (fun q=>[(10,.A .row q)]) nE nE nE
theorem mab {r42V:V42} {r42P:Q42} (G:Good Tryz.prog tt (ci r42V r42P)) {fr:Fr}:∀ x40,Oj fr (iy r42V r42P x40) :=
 fun x40=>any_ok G [10] 224 (fy r42V r42P x40) rfl rfl rfl (by kernel_rfl) (by kernel_rfl) (by kernel_rfl)
def jy (r42V:V42) (r42P:Q42) (x31:List LR) (x32 x33:Int) (_x34:LP) (x35:List LR):Tr (LR×Bool×Unit) LR Empty Empty Empty :=
 .c (cmp .eql x32 1)
 (.w [inb x33 (aa .lrow x31),lim (aa .row []) (aa .row (rd .lrow x31 x33))] (.l (.n ([]++(rd .lrow x31 x33)))))
 (.c (cmp .eql x32 2)
 (.w [inb 0 (aa .lrow x35),(gv (rd .lrow x35 0) x33)] (.l (.n (fv (rd .lrow x35 0) x33))))
 (.c (cmp .eql x32 3)
 (.s (iy r42V r42P x35) (fun q42=>.l (.n q42)) nE nE nE)
 (.c (cmp .eql x32 4)
 (.w [inb 0 (aa .lrow x35),(tv (rd .lrow x35 0))] (.l (.n (sv (rd .lrow x35 0)))))
 (.c (cmp .eql x32 5)
 (.w [inb 0 (aa .lrow x35),inb 1 (aa .lrow x35),(Mv (rd .lrow x35 0) (rd .lrow x35 1))] (.l (.n (Lv (rd .lrow x35 0) (rd .lrow x35 1)))))
 (.w [inb 0 (aa .lrow x35),(Zx (rd .lrow x35 0) x33)] (.l (.n (Yx (rd .lrow x35 0) x33))))))))
def VH:=fun r42V r42P x31 x32 x33 x34 x35=>(jy r42V r42P x31 x32 x33 x34 x35).val
def WH:=fun r42V r42P x31 x32 x33 x34 x35=>(jy r42V r42P x31 x32 x33 x34 x35).ob
def ly:=fun r42V r42P x31 x32 x33 x34 x35=>da.mk (VH r42V r42P x31 x32 x33 x34 x35) (WH r42V r42P x31 x32 x33 x34 x35) [0,1,1,1,1] [(1,.S .lrow x31),(2,.box [(.fr,.i x32),(.fr,.i x33),(.sh,.lst .plan x34)]),(6,.v (.acc false) (.lst .lrow x35)),(10,.A .row [])] Sn (fun q=>[(10,.S .row q)]) nE nE nE
theorem nab {r42V:V42} {r42P:Q42} (G:Good Tryz.prog tt (ci r42V r42P)) {fr:Fr}:∀ x31 x32 x33 x34 x35,Oj fr (ly r42V r42P x31 x32 x33 x34 x35) :=
 fun x31 x32 x33 x34 x35=>fa G [([0,1,1,1,1,1,0,1,0,1,1,1,1],fun e=>⟨iy r42V r42P (gL .lrow e 6 0)⟩)] ⟨fun _=>⟨rfl,mab G _⟩,trivial⟩ [(10,[1,2,6,10,38]),(11,[10]),(12,[1,2,6,10,38,45]),(13,[10]),(14,[2,6,38,54]),(15,[10]),(16,[2,6,38,62]),(18,[2,6,38,74]),(19,[10]),(20,[2,6,80]),(21,[10])] [] [] (jy r42V r42P x31 x32 x33 x34 x35) rfl rfl (by kernel_rfl)
def my (r42V:V42) (r42P:Q42) (a0:Plan) (a1:List LR):Tr (LR×Bool×Unit) Empty Empty Empty Empty :=
 .s (ey r42V r42P a1 a0.Kind a0.Num a0.Kids) (fun q29=>.s (ly r42V r42P a1 a0.Kind a0.Num a0.Kids q29) (fun q52=>.w [(ej q52)] (.l (.r (q52,((cj q52),()))))) nE nE nE) nE nE nE
def Vn:=fun r42V r42P a0 a1=>(my r42V r42P a0 a1).val
def Wn:=fun r42V r42P a0 a1=>(my r42V r42P a0 a1).ob
def XS:=fun r42V r42P a0 a1=>da.mk (Vn r42V r42P a0 a1) (Wn r42V r42P a0 a1) [] [(0,.agg false [.i a0.Kind,.i a0.Num,.lst .plan a0.Kids]),(1,.S .lrow a1)] Sn nE nE nE nE
theorem oab {r42V:V42} {r42P:Q42} (G:Good Tryz.prog tt (ci r42V r42P)) {fr:Fr}:∀ a0 a1,Oj fr (XS r42V r42P a0 a1) :=
 fun a0 a1=>fa G [([0,1,1],fun e=>⟨ey r42V r42P (gL .lrow e 1 0) (gI e 2 0) (gI e 2 1) (gL .plan e 2 2)⟩),([0,1,1,1,1],fun e=>⟨ly r42V r42P (gL .lrow e 1 0) (gI e 2 0) (gI e 2 1) (gL .plan e 2 2) (gL .lrow e 6 0)⟩)] ⟨fun _=>⟨rfl,lab G _ _ _ _⟩,fun _=>⟨rfl,nab G _ _ _ _ _⟩,trivial⟩ [(0,[1,2]),(1,[1,2,6]),(9,[1,2,6,10]),(22,[4,5])] [] [] (my r42V r42P a0 a1) rfl rfl (by kernel_rfl)
theorem pab {r42V:V42} {r42P:Q42} (G:Good Tryz.prog tt (ci r42V r42P)):Con Tryz.prog 42 (ay (fun a0 a1=>ocR (Vn r42V r42P a0 a1)) (fun a0 a1=>Wn r42V r42P a0 a1)) :=
 Ca (pts:=[(.st .plan),(.lst .lrow)]) (rt:=.tup [(false,(.lst .row)),(true,.bool)]) (o:=fun x=>Vn r42V r42P x.1 x.2.1) (ob:=fun x=>Wn r42V r42P x.1 x.2.1) G (fn:=Tryz.f42) (c:=ia Tryz.f42) (by kernel_rfl) (by kernel_rfl) (by kernel_rfl) (rs:=[.tmp 4,.tmp 5]) (fz:=F42.fz) (by kernel_rfl) (by kernel_rfl) (fun _=>rfl) rfl (fun x=>XS r42V r42P x.1 x.2.1) (fun _=>⟨rfl,rfl,rfl,rfl,rfl⟩) (fun x _=>oab G x.1 x.2.1)
def nc:Nat→V42×Q42
 | 0=>(fun _ _=>default,fun _ _=>False)
 | n+1=>(fun a0 a1=>ocR (Vn (nc n).1 (nc n).2 a0 a1),fun a0 a1=>Wn (nc n).1 (nc n).2 a0 a1)
def XH:V42:=(nc Nc).1
def YH:Q42:=(nc Nc).2
def YS:Spec:=ay XH YH
def Xn:SP:=[(40,QG),(41,Am),(42,YS)]
abbrev F13:Fnn:=⟨[.tmp 4,.tmp 5],.tup [(false,(.lst .row)),(true,.bool)],none,[]⟩
abbrev ZH:LR×Bool×Unit→RV:=fun q=>(some (RT.av (.tup [(false,(.lst .row)),(true,.bool)]) q),.dead)
abbrev ny (fr:Fr) {A X Y Z:Type} (S:da (LR×Bool×Unit) A X Y Z):Prop:=ua Tryz.prog tt ⟨Tryz.f13.ntmps,none,[]⟩ fr (ia Tryz.f13) F13 S
def Yn (x7:List LR) (_x8 _x9:Int) (_x10:LP) (s15:Int):Tr (LR×Bool×Unit) Int Unit Empty Empty :=
 .c (cmp .lss s15 (aa .lrow x7))
 (.w [inb s15 (aa .lrow x7),(ej (rd .lrow x7 s15))] (.c (!(cj (rd .lrow x7 s15)))
 (.l (.r ([],(false,()))))
 (.l (.n (ar .add .i64 s15 1)))))
 (.l (.x ()))
def Qj:=fun x7 x8 x9 x10 s15=>(Yn x7 x8 x9 x10 s15).val
def Zn:=fun x7 x8 x9 x10 s15=>(Yn x7 x8 x9 x10 s15).ob
def aI:=fun x7 x8 x9 x10 s15=>Na (Qj x7 x8 x9 x10 s15) (Zn x7 x8 x9 x10 s15) [0,0,1,0,1,1] (fun q=>[(1,.S .lrow x7),(2,.box [(.fr,.i x8),(.fr,.i x9),(.sh,.lst .plan x10)]),(6,.I q)]) s15 ZH (fun _=>(0,[(1,.S .lrow x7),(2,.box [(.fr,.i x8),(.fr,.i x9),(.sh,.lst .plan x10)])])) nE nE
theorem qab (G:Good Tryz.prog tt Xn) {fr:Fr}:∀ x7 x8 x9 x10 s15,ny fr (aI x7 x8 x9 x10 s15) :=
 fun x7 x8 x9 x10 s15=>fa G [] trivial [(4,[1,2,6,21]),(5,[1,2,6]),(6,[1,2,6,29]),(7,[4,5])] [] [] (Yn x7 x8 x9 x10 s15) rfl rfl (by kernel_rfl)
def ZS:=fun x7 x8 x9 x10=>lpV (fun s:Int=>ca (Qj x7 x8 x9 x10 s)) 0
def aT:=fun x7 x8 x9 x10=>LpT (fun s:Int=>ca (Qj x7 x8 x9 x10 s)) (fun s=>Zn x7 x8 x9 x10 s) 0
def qy:=fun x7 x8 x9 x10=>lpS (aI x7 x8 x9 x10 0) (ZS x7 x8 x9 x10) (aT x7 x8 x9 x10)
theorem rab (G:Good Tryz.prog tt Xn) {fr:Fr}:∀ x7 x8 x9 x10,ny fr (qy x7 x8 x9 x10) :=
 fun x7 x8 x9 x10=>Oa (fun s:Int=>aI x7 x8 x9 x10 s) 0 (fun _=>rfl) (fun _=>⟨rfl,rfl,rfl,rfl,rfl⟩) (by kernel_rfl) fun _=>qab G _ _ _ _ _
def ry (x3:List LR) (x4 x5:Int) (x6:LP):Tr (LR×Bool×Unit) Unit Empty Empty Empty :=
 .s (qy x3 x4 x5 x6) nE (fun _=>.l (.n ())) nE nE
def bT:=fun x3 x4 x5 x6=>(ry x3 x4 x5 x6).val
def cT:=fun x3 x4 x5 x6=>(ry x3 x4 x5 x6).ob
def sy:=fun x3 x4 x5 x6=>da.mk (bT x3 x4 x5 x6) (cT x3 x4 x5 x6) [0,1,1] [(1,.S .lrow x3),(2,.box [(.fr,.i x4),(.fr,.i x5),(.sh,.lst .plan x6)])] ZH (fun _=>[(1,.S .lrow x3),(2,.box [(.fr,.i x4),(.fr,.i x5),(.sh,.lst .plan x6)])]) nE nE nE
theorem sab (G:Good Tryz.prog tt Xn) {fr:Fr}:∀ x3 x4 x5 x6,ny fr (sy x3 x4 x5 x6) :=
 fun x3 x4 x5 x6=>fa G [([0,1,0,1,1],fun e=>⟨qy (gL .lrow e 1 0) (gI e 2 0) (gI e 2 1) (gL .plan e 2 2)⟩)] ⟨fun _=>⟨rfl,rab G _ _ _ _⟩,trivial⟩ [(3,[1,2,6])] [] [] (ry x3 x4 x5 x6) rfl rfl (by kernel_rfl)
def uy (a0:Plan) (a1:List LR):Tr (LR×Bool×Unit) Empty Empty Empty Empty :=
 .w [(Pu (Plan.mk a0.Kind a0.Num a0.Kids))] (.c (cond (!(Ou (Plan.mk a0.Kind a0.Num a0.Kids))) true (cmp .neq (aa .lrow a1) 2))
 (.l (.r ([],(false,()))))
 (.s (sy a1 a0.Kind a0.Num a0.Kids) (fun _=>.k (XH (Plan.mk a0.Kind a0.Num a0.Kids) a1) fun u27=>.w [(YH (Plan.mk a0.Kind a0.Num a0.Kids) a1)] (.c (!u27.2.1)
 (.l (.r ([],(false,()))))
 (.l (.r (u27.1,(true,())))))) nE nE nE))
def vy:=fun a0 a1=>(uy a0 a1).val
def wy:=fun a0 a1=>(uy a0 a1).ob
def dT:=fun a0 a1=>da.mk (vy a0 a1) (wy a0 a1) [] [(0,.agg false [.i a0.Kind,.i a0.Num,.lst .plan a0.Kids]),(1,.S .lrow a1)] ZH nE nE nE nE
theorem tab (G:Good Tryz.prog tt Xn) {fr:Fr}:∀ a0 a1,ny fr (dT a0 a1) :=
 fun a0 a1=>fa G [([0,1,1],fun e=>⟨sy (gL .lrow e 1 0) (gI e 2 0) (gI e 2 1) (gL .plan e 2 2)⟩)] ⟨fun _=>⟨rfl,sab G _ _ _ _⟩,trivial⟩ [(0,[1,2]),(1,[1,2,16]),(2,[4,5]),(8,[7,8]),(9,[7,38]),(10,[4,5]),(11,[4,5])] [] [] (uy a0 a1) rfl rfl (by kernel_rfl)
def ao (a0:Plan) (a1:List LR):LR×Bool×Unit:=ocR (vy a0 a1)
def eo (a0:Plan) (a1:List LR):Prop:=wy a0 a1
def bI:Spec:=⟨[(.st .plan),(.lst .lrow)],.tup [(false,(.lst .row)),(true,.bool)],false,fun x=>(ao x.1 x.2.1,0),fun x=>eo x.1 x.2.1⟩
theorem uab (G:Good Tryz.prog tt Xn):Con Tryz.prog 13 bI :=
 Ca (pts:=[(.st .plan),(.lst .lrow)]) (rt:=.tup [(false,(.lst .row)),(true,.bool)]) (o:=fun x=>vy x.1 x.2.1) (ob:=fun x=>wy x.1 x.2.1) G (fn:=Tryz.f13) (c:=ia Tryz.f13) (by kernel_rfl) (by kernel_rfl) (by kernel_rfl) (rs:=[.tmp 4,.tmp 5]) (fz:=F13.fz) (by kernel_rfl) (by kernel_rfl) (fun _=>rfl) rfl (fun x=>dT x.1 x.2.1) (fun _=>⟨rfl,rfl,rfl,rfl,rfl⟩) (fun x _=>tab G x.1 x.2.1)
def xy:SP:=[]
abbrev F77:Fnn:=⟨[.tmp 2,.tmp 3,.tmp 4],.tup [(true,(.int .i64)),(true,(.int .i64)),(true,(.int .i64))],none,[]⟩
abbrev cI:Int×Int×Int×Unit→RV:=fun q=>(some (RT.av (.tup [(true,(.int .i64)),(true,(.int .i64)),(true,(.int .i64))]) q),.dead)
abbrev fI (fr:Fr) {A X Y Z:Type} (S:da (Int×Int×Int×Unit) A X Y Z):Prop:=ua Tryz.prog tt ⟨Tryz.f77.ntmps,none,[]⟩ fr (ia Tryz.f77) F77 S
def zy (x4:Int):Tr (Int×Int×Int×Unit) Bool Empty Empty Empty :=
 .c (cmp .eql x4 3)
 (.l (.n (cmp .eql x4 3)))
 (.l (.n (cmp .eql x4 5)))
def eT:=fun x4=>(zy x4).val
def fT:=fun x4=>(zy x4).ob
def Ay:=fun x4=>da.mk (eT x4) (fT x4) [0,1,1,1,1,0,1,0,1] [(5,.I x4)] cI (fun q=>[(5,.I x4),(10,.O q)]) nE nE nE
theorem vab (G:Good Tryz.prog tt xy) {fr:Fr}:∀ x4,fI fr (Ay x4) :=
 fun x4=>fa G [] trivial [(6,[5,10]),(7,[5,10])] [] [] (zy x4) rfl rfl (by kernel_rfl)
def By (x1:Int):Tr (Int×Int×Int×Unit) Unit Empty Empty Empty :=
 .c (cmp .eql x1 1)
 (.l (.r (0,(0,(1,())))))
 (.c (cmp .eql x1 2)
 (.l (.r (1,(1,(7,())))))
 (.s (Ay x1) (fun q7=>.c q7
 (.l (.r (2,(0,(0,())))))
 (.c (cmp .eql x1 4)
 (.l (.r (1,(0,(0,())))))
 (.c (cmp .eql x1 6)
 (.l (.r (1,(1,(3,())))))
 (.l (.n ()))))) nE nE nE))
def gT:=fun x1=>(By x1).val
def iT:=fun x1=>(By x1).ob
def Cy:=fun x1=>da.mk (gT x1) (iT x1) [0,1] [(0,.I x1)] cI (fun _=>[]) nE nE nE
theorem wab (G:Good Tryz.prog tt xy) {fr:Fr}:∀ x1,fI fr (Cy x1) :=
 fun x1=>fa G [([0,1,1,1,1,0,1,0,1],fun e=>⟨Ay (gI e 5 0)⟩)] ⟨fun _=>⟨rfl,vab G _⟩,trivial⟩ [(1,[5]),(2,[5,6]),(3,[2,3,4]),(4,[5,8]),(5,[2,3,4]),(8,[2,3,4]),(9,[5,13]),(10,[2,3,4]),(11,[15]),(12,[2,3,4])] [] [] (By x1) rfl rfl (by kernel_rfl)
def Dy (a0:Int):Tr (Int×Int×Int×Unit) Empty Empty Empty Empty :=
 .s (Cy a0) (fun _=>.l (.r ((-1),(0,(0,()))))) nE nE nE
def Ey:=fun a0=>(Dy a0).val
def Fy:=fun a0=>(Dy a0).ob
def kT:=fun a0=>da.mk (Ey a0) (Fy a0) [] [(0,.I a0)] cI nE nE nE nE
theorem xab (G:Good Tryz.prog tt xy) {fr:Fr}:∀ a0,fI fr (kT a0) :=
 fun a0=>fa G [([0,1],fun e=>⟨Cy (gI e 0 0)⟩)] ⟨fun _=>⟨rfl,wab G _⟩,trivial⟩ [(0,[0]),(13,[2,3,4])] [] [] (Dy a0) rfl rfl (by kernel_rfl)
def Ug (a0:Int):Int×Int×Int×Unit:=ocR (Ey a0)
def Gy (a0:Int):Prop:=Fy a0
def iI:Spec:=⟨[(.int .i64)],.tup [(true,(.int .i64)),(true,(.int .i64)),(true,(.int .i64))],false,fun x=>(Ug x.1,0),fun x=>Gy x.1⟩
theorem yab (G:Good Tryz.prog tt xy):Con Tryz.prog 77 iI :=
 Ca (pts:=[(.int .i64)]) (rt:=.tup [(true,(.int .i64)),(true,(.int .i64)),(true,(.int .i64))]) (o:=fun x=>Ey x.1) (ob:=fun x=>Fy x.1) G (fn:=Tryz.f77) (c:=ia Tryz.f77) (by kernel_rfl) (by kernel_rfl) (by kernel_rfl) (rs:=[.tmp 2,.tmp 3,.tmp 4]) (fz:=F77.fz) (by kernel_rfl) (by kernel_rfl) (fun _=>rfl) rfl (fun x=>kT x.1) (fun _=>⟨rfl,rfl,rfl,rfl,rfl⟩) (fun x _=>xab G x.1)
abbrev V46:=Plan→Int→Bool
abbrev Q46:=Plan→Int→Prop
def Hy (v:V46) (p:Q46):Spec:=⟨[(.st .plan),(.int .i64)],.one .fr .bool,false,fun x=>(v x.1 x.2.1,0),fun x=>p x.1 x.2.1⟩
def fo (r46V:V46) (r46P:Q46):SP:=[(77,iI),(46,Hy r46V r46P)]
abbrev F46:Fnn:=⟨[.tmp 4],.one .fr .bool,none,[]⟩
abbrev jI:Bool→RV:=fun q=>(some (RT.av (.one .fr .bool) q),.dead)
abbrev Iy (fr:Fr) {A X Y Z:Type} (S:da Bool A X Y Z):Prop:=ua Tryz.prog tt ⟨Tryz.f46.ntmps,none,[]⟩ fr (ia Tryz.f46) F46 S
def jo (r46V:V46) (r46P:Q46) (x7:Int) (x8:LP) (x9 s14:Int):Tr Bool Int Unit Empty Empty :=
 .c (cmp .lss s14 x9)
 (.w [inb s14 (aa .plan x8)] (.w [(r46P (Plan.mk (rd .plan x8 s14).Kind (rd .plan x8 s14).Num (rd .plan x8 s14).Kids) (ar .sub .i64 x7 1))] (.c (!(r46V (Plan.mk (rd .plan x8 s14).Kind (rd .plan x8 s14).Num (rd .plan x8 s14).Kids) (ar .sub .i64 x7 1)))
 (.l (.r false))
 (.l (.n (ar .add .i64 s14 1))))))
 (.l (.x ()))
def Rj:=fun r46V r46P x7 x8 x9 s14=>(jo r46V r46P x7 x8 x9 s14).val
def ko:=fun r46V r46P x7 x8 x9 s14=>(jo r46V r46P x7 x8 x9 s14).ob
def lI:=fun r46V r46P x7 x8 x9 s14=>Na (Rj r46V r46P x7 x8 x9 s14) (ko r46V r46P x7 x8 x9 s14) [0,0,1,0,1,1,1] (fun q=>[(1,.I x7),(43,.S .plan x8),(44,.I x9),(45,.I q)]) s14 jI (fun _=>(0,[])) nE nE
theorem zab {r46V:V46} {r46P:Q46} (G:Good Tryz.prog tt (fo r46V r46P)) {fr:Fr}:∀ x7 x8 x9 s14,Iy fr (lI r46V r46P x7 x8 x9 s14) :=
 fun x7 x8 x9 s14=>fa G [] trivial [(5,[1,43,44,45,46]),(6,[1,9,43,44,45]),(7,[1,43,44,45,53]),(8,[4]),(9,[1,43,44,45])] [] [] (jo r46V r46P x7 x8 x9 s14) rfl rfl (by kernel_rfl)
def lT:=fun r46V r46P x7 x8 x9=>lpV (fun s:Int=>ca (Rj r46V r46P x7 x8 x9 s)) 0
def mT:=fun r46V r46P x7 x8 x9=>LpT (fun s:Int=>ca (Rj r46V r46P x7 x8 x9 s)) (fun s=>ko r46V r46P x7 x8 x9 s) 0
def Jy:=fun r46V r46P x7 x8 x9=>lpS (lI r46V r46P x7 x8 x9 0) (lT r46V r46P x7 x8 x9) (mT r46V r46P x7 x8 x9)
theorem Aab {r46V:V46} {r46P:Q46} (G:Good Tryz.prog tt (fo r46V r46P)) {fr:Fr}:∀ x7 x8 x9,Iy fr (Jy r46V r46P x7 x8 x9) :=
 fun x7 x8 x9=>Oa (fun s:Int=>lI r46V r46P x7 x8 x9 s) 0 (fun _=>rfl) (fun _=>⟨rfl,rfl,rfl,rfl,rfl⟩) (by kernel_rfl) fun _=>zab G _ _ _ _
def Ky (r46V:V46) (r46P:Q46) (x3 _x4 _x5:Int) (x6:LP):Tr Bool Unit Empty Empty Empty :=
 .s (Jy r46V r46P x3 x6 (aa .plan x6)) nE (fun _=>.l (.n ())) nE nE
def nT:=fun r46V r46P x3 x4 x5 x6=>(Ky r46V r46P x3 x4 x5 x6).val
def oT:=fun r46V r46P x3 x4 x5 x6=>(Ky r46V r46P x3 x4 x5 x6).ob
def Ly:=fun r46V r46P x3 x4 x5 x6=>da.mk (nT r46V r46P x3 x4 x5 x6) (oT r46V r46P x3 x4 x5 x6) [0,1,1,1] [(1,.I x3),(2,.box [(.fr,.i x4),(.fr,.i x5),(.sh,.lst .plan x6)])] jI (fun _=>[]) nE nE nE
theorem Bab {r46V:V46} {r46P:Q46} (G:Good Tryz.prog tt (fo r46V r46P)) {fr:Fr}:∀ x3 x4 x5 x6,Iy fr (Ly r46V r46P x3 x4 x5 x6) :=
 fun x3 x4 x5 x6=>fa G [([0,1,0,1,1,1],fun e=>⟨Jy r46V r46P (gI e 1 0) (gL .plan e 43 0) (gI e 44 0)⟩)] ⟨fun _=>⟨rfl,Aab G _ _ _⟩,trivial⟩ [(4,[1,43,44,45])] [] [] (Ky r46V r46P x3 x4 x5 x6) rfl rfl (by kernel_rfl)
def Sj (r46V:V46) (r46P:Q46) (a0:Plan) (a1:Int):Tr Bool Empty Empty Empty Empty :=
 .k (Ug a0.Kind) fun u1=>.w [(Gy a0.Kind)] (.c (cond (cond (cond (cond (cmp .lss a1 1) true (cmp .lss u1.1 0)) true (cmp .neq (aa .plan a0.Kids) u1.1)) true (cmp .lss a0.Num u1.2.1)) true (cmp .gtr a0.Num u1.2.2.1))
 (.l (.r false))
 (.s (Ly r46V r46P a1 a0.Kind a0.Num a0.Kids) (fun _=>.l (.r true)) nE nE nE))
def di:=fun r46V r46P a0 a1=>(Sj r46V r46P a0 a1).val
def ei:=fun r46V r46P a0 a1=>(Sj r46V r46P a0 a1).ob
def pT:=fun r46V r46P a0 a1=>da.mk (di r46V r46P a0 a1) (ei r46V r46P a0 a1) [] [(0,.agg false [.i a0.Kind,.i a0.Num,.lst .plan a0.Kids]),(1,.I a1)] jI nE nE nE nE
theorem Cab {r46V:V46} {r46P:Q46} (G:Good Tryz.prog tt (fo r46V r46P)) {fr:Fr}:∀ a0 a1,Iy fr (pT r46V r46P a0 a1) :=
 fun a0 a1=>fa G [([0,1,1,1],fun e=>⟨Ly r46V r46P (gI e 1 0) (gI e 2 0) (gI e 2 1) (gL .plan e 2 2)⟩)] ⟨fun _=>⟨rfl,Bab G _ _ _ _⟩,trivial⟩ [(0,[1,2]),(1,[1,2,5,6,7]),(2,[1,2,41]),(3,[4]),(10,[4])] [] [] (Sj r46V r46P a0 a1) rfl rfl (by kernel_rfl)
theorem Dab {r46V:V46} {r46P:Q46} (G:Good Tryz.prog tt (fo r46V r46P)):Con Tryz.prog 46 (Hy (fun a0 a1=>ocR (di r46V r46P a0 a1)) (fun a0 a1=>ei r46V r46P a0 a1)) :=
 Ca (pts:=[(.st .plan),(.int .i64)]) (rt:=.one .fr .bool) (o:=fun x=>di r46V r46P x.1 x.2.1) (ob:=fun x=>ei r46V r46P x.1 x.2.1) G (fn:=Tryz.f46) (c:=ia Tryz.f46) (by kernel_rfl) (by kernel_rfl) (by kernel_rfl) (rs:=[.tmp 4]) (fz:=F46.fz) (by kernel_rfl) (by kernel_rfl) (fun _=>rfl) rfl (fun x=>pT r46V r46P x.1 x.2.1) (fun _=>⟨rfl,rfl,rfl,rfl,rfl⟩) (fun x _=>Cab G x.1 x.2.1)
def Jc:Nat→V46×Q46
 | 0=>(fun _ _=>default,fun _ _=>False)
 | n+1=>(fun a0 a1=>ocR (di (Jc n).1 (Jc n).2 a0 a1),fun a0 a1=>ei (Jc n).1 (Jc n).2 a0 a1)
def qT:V46:=(Jc Nc).1
def rT:Q46:=(Jc Nc).2
def sT:Spec:=Hy qT rT
def tT:SP:=[(46,sT)]
abbrev F17:Fnn:=⟨[.tmp 2],.one .fr .bool,none,[]⟩
abbrev Eab:Bool→RV:=fun q=>(some (RT.av (.one .fr .bool) q),.dead)
abbrev Fab (fr:Fr) {A X Y Z:Type} (S:da Bool A X Y Z):Prop:=ua Tryz.prog tt ⟨Tryz.f17.ntmps,none,[]⟩ fr (ia Tryz.f17) F17 S
def My (a0:Plan):Tr Bool Empty Empty Empty Empty :=
 .w [(rT (Plan.mk a0.Kind a0.Num a0.Kids) 4)] (.l (.r (qT (Plan.mk a0.Kind a0.Num a0.Kids) 4)))
def Ny:=fun a0=>(My a0).val
def Oy:=fun a0=>(My a0).ob
def uT:=fun a0=>da.mk (Ny a0) (Oy a0) [] [(0,.agg false [.i a0.Kind,.i a0.Num,.lst .plan a0.Kids])] Eab nE nE nE nE
theorem Gab (G:Good Tryz.prog tt tT) {fr:Fr}:∀ a0,Fab fr (uT a0) :=
 fun a0=>fa G [] trivial [(0,[1]),(1,[2])] [] [] (My a0) rfl rfl (by kernel_rfl)
def Py (a0:Plan):Bool:=ocR (Ny a0)
def Qy (a0:Plan):Prop:=Oy a0
def mI:Spec:=⟨[(.st .plan)],.one .fr .bool,false,fun x=>(Py x.1,0),fun x=>Qy x.1⟩
theorem Hab (G:Good Tryz.prog tt tT):Con Tryz.prog 17 mI :=
 Ca (pts:=[(.st .plan)]) (rt:=.one .fr .bool) (o:=fun x=>Ny x.1) (ob:=fun x=>Oy x.1) G (fn:=Tryz.f17) (c:=ia Tryz.f17) (by kernel_rfl) (by kernel_rfl) (by kernel_rfl) (rs:=[.tmp 2]) (fz:=F17.fz) (by kernel_rfl) (by kernel_rfl) (fun _=>rfl) rfl (fun x=>uT x.1) (fun _=>⟨rfl,rfl,rfl,rfl,rfl⟩) (fun x _=>Gab G x.1)
def vT:SP:=[]
abbrev F76:Fnn:=⟨[.tmp 4],.one .fr .bool,none,[]⟩
abbrev Iab:Bool→RV:=fun q=>(some (RT.av (.one .fr .bool) q),.dead)
abbrev Jab (fr:Fr) {A X Y Z:Type} (S:da Bool A X Y Z):Prop:=ua Tryz.prog tt ⟨Tryz.f76.ntmps,none,[]⟩ fr (ia Tryz.f76) F76 S
def nI (a0 a1:Time):Tr Bool Empty Empty Empty Empty :=
 .l (.r (cond (cmp .lss a0.A a1.A) true (cond (cmp .eql a0.A a1.A) (cmp .lss a0.B a1.B) false)))
def oI:=fun a0 a1=>(nI a0 a1).val
def pI:=fun a0 a1=>(nI a0 a1).ob
def wT:=fun a0 a1=>da.mk (oI a0 a1) (pI a0 a1) [] [(0,.agg true [.i a0.A,.i a0.B]),(1,.agg true [.i a1.A,.i a1.B])] Iab nE nE nE nE
theorem Kab (G:Good Tryz.prog tt vT) {fr:Fr}:∀ a0 a1,Jab fr (wT a0 a1) :=
 fun a0 a1=>fa G [] trivial [(0,[2,3]),(1,[4])] [] [] (nI a0 a1) rfl rfl (by kernel_rfl)
def qI (a0:Time) (a1:Time):Bool:=ocR (oI a0 a1)
def rI (a0:Time) (a1:Time):Prop:=pI a0 a1
def sI:Spec:=⟨[(.st .time),(.st .time)],.one .fr .bool,false,fun x=>(qI x.1 x.2.1,0),fun x=>rI x.1 x.2.1⟩
theorem Lab (G:Good Tryz.prog tt vT):Con Tryz.prog 76 sI :=
 Ca (pts:=[(.st .time),(.st .time)]) (rt:=.one .fr .bool) (o:=fun x=>oI x.1 x.2.1) (ob:=fun x=>pI x.1 x.2.1) G (fn:=Tryz.f76) (c:=ia Tryz.f76) (by kernel_rfl) (by kernel_rfl) (by kernel_rfl) (rs:=[.tmp 4]) (fz:=F76.fz) (by kernel_rfl) (by kernel_rfl) (fun _=>rfl) rfl (fun x=>wT x.1 x.2.1) (fun _=>⟨rfl,rfl,rfl,rfl,rfl⟩) (fun x _=>Kab G x.1 x.2.1)
def xT:SP:=[(76,sI)]
abbrev F44:Fnn:=⟨[.tmp 4],.one .fr .bool,none,[]⟩
abbrev Mab:Bool→RV:=fun q=>(some (RT.av (.one .fr .bool) q),.dead)
abbrev Nab (fr:Fr) {A X Y Z:Type} (S:da Bool A X Y Z):Prop:=ua Tryz.prog tt ⟨Tryz.f44.ntmps,none,[]⟩ fr (ia Tryz.f44) F44 S
def Ry (a0 a1:Row):Tr Bool Empty Empty Empty Empty :=
 .c (cmp .neq a0.Key a1.Key)
 (.l (.r (cmp .lss a0.Key a1.Key)))
 (.c (cmp .neq a0.Val a1.Val)
 (.l (.r (cmp .lss a0.Val a1.Val)))
 (.w [(rI a0.At a1.At)] (.l (.r (qI a0.At a1.At)))))
def Sy:=fun a0 a1=>(Ry a0 a1).val
def Uy:=fun a0 a1=>(Ry a0 a1).ob
def yT:=fun a0 a1=>da.mk (Sy a0 a1) (Uy a0 a1) [] [(0,.agg true [.i a0.Key,.i a0.Val,.i a0.At.A,.i a0.At.B,.i a0.Diff]),(1,.agg true [.i a1.Key,.i a1.Val,.i a1.At.A,.i a1.At.B,.i a1.Diff])] Mab nE nE nE nE
theorem Oab (G:Good Tryz.prog tt xT) {fr:Fr}:∀ a0 a1,Nab fr (yT a0 a1) :=
 fun a0 a1=>fa G [] trivial [(0,[2,3]),(1,[2,3,5]),(2,[4]),(3,[2,3,16]),(4,[4]),(5,[4])] [] [] (Ry a0 a1) rfl rfl (by kernel_rfl)
def Vy (a0:Row) (a1:Row):Bool:=ocR (Sy a0 a1)
def Wy (a0:Row) (a1:Row):Prop:=Uy a0 a1
def tI:Spec:=⟨[(.st .row),(.st .row)],.one .fr .bool,false,fun x=>(Vy x.1 x.2.1,0),fun x=>Wy x.1 x.2.1⟩
theorem Pab (G:Good Tryz.prog tt xT):Con Tryz.prog 44 tI :=
 Ca (pts:=[(.st .row),(.st .row)]) (rt:=.one .fr .bool) (o:=fun x=>Sy x.1 x.2.1) (ob:=fun x=>Uy x.1 x.2.1) G (fn:=Tryz.f44) (c:=ia Tryz.f44) (by kernel_rfl) (by kernel_rfl) (by kernel_rfl) (rs:=[.tmp 4]) (fz:=F44.fz) (by kernel_rfl) (by kernel_rfl) (fun _=>rfl) rfl (fun x=>yT x.1 x.2.1) (fun _=>⟨rfl,rfl,rfl,rfl,rfl⟩) (fun x _=>Oab G x.1 x.2.1)
def zT:SP:=[]
abbrev F49:Fnn:=⟨[.tmp 2],.one .fr .bool,none,[]⟩
abbrev Qab:Bool→RV:=fun q=>(some (RT.av (.one .fr .bool) q),.dead)
abbrev Rab (fr:Fr) {A X Y Z:Type} (S:da Bool A X Y Z):Prop:=ua Tryz.prog tt ⟨Tryz.f49.ntmps,none,[]⟩ fr (ia Tryz.f49) F49 S
def uI (a0:Time):Tr Bool Empty Empty Empty Empty :=
 .l (.r (cond (cond (cond (cmp .geq a0.A 0) (cmp .leq a0.A 7) false) (cmp .geq a0.B 0) false) (cmp .leq a0.B 7) false))
def vI:=fun a0=>(uI a0).val
def wI:=fun a0=>(uI a0).ob
def AT:=fun a0=>da.mk (vI a0) (wI a0) [] [(0,.agg true [.i a0.A,.i a0.B])] Qab nE nE nE nE
theorem Sab (G:Good Tryz.prog tt zT) {fr:Fr}:∀ a0,Rab fr (AT a0) :=
 fun a0=>fa G [] trivial [(0,[1]),(1,[2])] [] [] (uI a0) rfl rfl (by kernel_rfl)
def fi (a0:Time):Bool:=ocR (vI a0)
def mo (a0:Time):Prop:=wI a0
def po:Spec:=⟨[(.st .time)],.one .fr .bool,false,fun x=>(fi x.1,0),fun x=>mo x.1⟩
theorem BT (G:Good Tryz.prog tt zT):Con Tryz.prog 49 po :=
 Ca (pts:=[(.st .time)]) (rt:=.one .fr .bool) (o:=fun x=>vI x.1) (ob:=fun x=>wI x.1) G (fn:=Tryz.f49) (c:=ia Tryz.f49) (by kernel_rfl) (by kernel_rfl) (by kernel_rfl) (rs:=[.tmp 2]) (fz:=F49.fz) (by kernel_rfl) (by kernel_rfl) (fun _=>rfl) rfl (fun x=>AT x.1) (fun _=>⟨rfl,rfl,rfl,rfl,rfl⟩) (fun x _=>Sab G x.1)
def qo:SP:=[(49,po)]
abbrev F45:Fnn:=⟨[.tmp 2],.one .fr .bool,none,[]⟩
abbrev xI:Bool→RV:=fun q=>(some (RT.av (.one .fr .bool) q),.dead)
abbrev Xy (fr:Fr) {A X Y Z:Type} (S:da Bool A X Y Z):Prop:=ua Tryz.prog tt ⟨Tryz.f45.ntmps,none,[]⟩ fr (ia Tryz.f45) F45 S
def ro (x2:LR) (x3 s8:Int):Tr Bool Int Unit Empty Empty :=
 .c (cmp .lss s8 x3)
 (.w [inb s8 (aa .row x2)] (.w [(((!(cond (cond (cond (cmp .lss (rd .row x2 s8).Key 0) true (cmp .geq (rd .row x2 s8).Key 4)) true (cmp .lss (rd .row x2 s8).Val 0)) true (cmp .geq (rd .row x2 s8).Val 100)))&&true)=true→(mo (rd .row x2 s8).At))] (.c (cond (cond (cond (cond (cond (cond (cmp .lss (rd .row x2 s8).Key 0) true (cmp .geq (rd .row x2 s8).Key 4)) true (cmp .lss (rd .row x2 s8).Val 0)) true (cmp .geq (rd .row x2 s8).Val 100)) true (!(fi (rd .row x2 s8).At))) true (cmp .lss (rd .row x2 s8).Diff (-99999))) true (cmp .gtr (rd .row x2 s8).Diff 99999))
 (.l (.r false))
 (.l (.n (ar .add .i64 s8 1))))))
 (.l (.x ()))
def Tj:=fun x2 x3 s8=>(ro x2 x3 s8).val
def uo:=fun x2 x3 s8=>(ro x2 x3 s8).ob
def yI:=fun x2 x3 s8=>Na (Tj x2 x3 s8) (uo x2 x3 s8) [0,0,1,0,1] (fun q=>[(0,.S .row x2),(5,.S .row x2),(6,.I x3),(7,.I q)]) s8 xI (fun _=>(0,[(0,.S .row x2)])) nE nE
theorem Tab (G:Good Tryz.prog tt qo) {fr:Fr}:∀ x2 x3 s8,Xy fr (yI x2 x3 s8) :=
 fun x2 x3 s8=>fa G [] trivial [(2,[0,5,6,7,8]),(3,[0,4,5,6,7]),(4,[0,5,6,7,44]),(5,[2]),(6,[0,5,6,7])] [] [] (ro x2 x3 s8) rfl rfl (by kernel_rfl)
def CT:=fun x2 x3=>lpV (fun s:Int=>ca (Tj x2 x3 s)) 0
def DT:=fun x2 x3=>LpT (fun s:Int=>ca (Tj x2 x3 s)) (fun s=>uo x2 x3 s) 0
def Yy:=fun x2 x3=>lpS (yI x2 x3 0) (CT x2 x3) (DT x2 x3)
theorem Uab (G:Good Tryz.prog tt qo) {fr:Fr}:∀ x2 x3,Xy fr (Yy x2 x3) :=
 fun x2 x3=>Oa (fun s:Int=>yI x2 x3 s) 0 (fun _=>rfl) (fun _=>⟨rfl,rfl,rfl,rfl,rfl⟩) (by kernel_rfl) fun _=>Tab G _ _ _
def Zy (x1:LR):Tr Bool Unit Empty Empty Empty :=
 .s (Yy x1 (aa .row x1)) nE (fun _=>.l (.n ())) nE nE
def ET:=fun x1=>(Zy x1).val
def FT:=fun x1=>(Zy x1).ob
def az:=fun x1=>da.mk (ET x1) (FT x1) [0,1] [(0,.S .row x1)] xI (fun _=>[(0,.S .row x1)]) nE nE nE
theorem Vab (G:Good Tryz.prog tt qo) {fr:Fr}:∀ x1,Xy fr (az x1) :=
 fun x1=>fa G [([0,1,0,1],fun e=>⟨Yy (gL .row e 0 0) (gI e 6 0)⟩)] ⟨fun _=>⟨rfl,Uab G _ _⟩,trivial⟩ [(1,[0,5,6,7])] [] [] (Zy x1) rfl rfl (by kernel_rfl)
def bz (a0:LR):Tr Bool Empty Empty Empty Empty :=
 .s (az a0) (fun _=>.l (.r (cmp .leq (aa .row a0) 400))) nE nE nE
def cz:=fun a0=>(bz a0).val
def dz:=fun a0=>(bz a0).ob
def GT:=fun a0=>da.mk (cz a0) (dz a0) [] [(0,.S .row a0)] xI nE nE nE nE
theorem Wab (G:Good Tryz.prog tt qo) {fr:Fr}:∀ a0,Xy fr (GT a0) :=
 fun a0=>fa G [([0,1],fun e=>⟨az (gL .row e 0 0)⟩)] ⟨fun _=>⟨rfl,Vab G _⟩,trivial⟩ [(0,[0]),(7,[2])] [] [] (bz a0) rfl rfl (by kernel_rfl)
def vo (a0:LR):Bool:=ocR (cz a0)
def wo (a0:LR):Prop:=dz a0
def xo:Spec:=⟨[(.lst .row)],.one .fr .bool,false,fun x=>(vo x.1,0),fun x=>wo x.1⟩
theorem HT (G:Good Tryz.prog tt qo):Con Tryz.prog 45 xo :=
 Ca (pts:=[(.lst .row)]) (rt:=.one .fr .bool) (o:=fun x=>cz x.1) (ob:=fun x=>dz x.1) G (fn:=Tryz.f45) (c:=ia Tryz.f45) (by kernel_rfl) (by kernel_rfl) (by kernel_rfl) (rs:=[.tmp 2]) (fz:=F45.fz) (by kernel_rfl) (by kernel_rfl) (fun _=>rfl) rfl (fun x=>GT x.1) (fun _=>⟨rfl,rfl,rfl,rfl,rfl⟩) (fun x _=>Wab G x.1)
def yo:SP:=[(44,tI),(45,xo)]
abbrev F16:Fnn:=⟨[.tmp 2],.one .fr .bool,none,[]⟩
abbrev zI:Bool→RV:=fun q=>(some (RT.av (.one .fr .bool) q),.dead)
abbrev ez (fr:Fr) {A X Y Z:Type} (S:da Bool A X Y Z):Prop:=ua Tryz.prog tt ⟨Tryz.f16.ntmps,none,[]⟩ fr (ia Tryz.f16) F16 S
def Uj (x2:LR) (x3 s8:Int):Tr Bool Int Unit Empty Empty :=
 .c (cmp .lss s8 x3)
 (.w [inb s8 (aa .row x2)] (.w [(((cmp .gtr s8 0)&&((!(cmp .eql (rd .row x2 s8).Diff 0))&&true))=true→inb (ar .sub .i64 s8 1) (aa .row x2)),(((cmp .gtr s8 0)&&((!(cmp .eql (rd .row x2 s8).Diff 0))&&true))=true→(Wy (rd .row x2 (ar .sub .i64 s8 1)) (rd .row x2 s8)))] (.c (cond (cmp .eql (rd .row x2 s8).Diff 0) true (cond (cmp .gtr s8 0) (!(Vy (rd .row x2 (ar .sub .i64 s8 1)) (rd .row x2 s8))) false))
 (.l (.r false))
 (.l (.n (ar .add .i64 s8 1))))))
 (.l (.x ()))
def gi:=fun x2 x3 s8=>(Uj x2 x3 s8).val
def Vj:=fun x2 x3 s8=>(Uj x2 x3 s8).ob
def AI:=fun x2 x3 s8=>Na (gi x2 x3 s8) (Vj x2 x3 s8) [0,0,1,0,1] (fun q=>[(0,.S .row x2),(5,.S .row x2),(6,.I x3),(7,.I q)]) s8 zI (fun _=>(0,[(0,.S .row x2)])) nE nE
theorem Xab (G:Good Tryz.prog tt yo) {fr:Fr}:∀ x2 x3 s8,ez fr (AI x2 x3 s8) :=
 fun x2 x3 s8=>fa G [] trivial [(2,[0,5,6,7,8]),(3,[0,3,4,5,6,7]),(4,[0,5,6,7,28]),(5,[2]),(6,[0,5,6,7])] [] [] (Uj x2 x3 s8) rfl rfl (by kernel_rfl)
def IT:=fun x2 x3=>lpV (fun s:Int=>ca (gi x2 x3 s)) 0
def JT:=fun x2 x3=>LpT (fun s:Int=>ca (gi x2 x3 s)) (fun s=>Vj x2 x3 s) 0
def gz:=fun x2 x3=>lpS (AI x2 x3 0) (IT x2 x3) (JT x2 x3)
theorem Yab (G:Good Tryz.prog tt yo) {fr:Fr}:∀ x2 x3,ez fr (gz x2 x3) :=
 fun x2 x3=>Oa (fun s:Int=>AI x2 x3 s) 0 (fun _=>rfl) (fun _=>⟨rfl,rfl,rfl,rfl,rfl⟩) (by kernel_rfl) fun _=>Xab G _ _ _
def iz (x1:LR):Tr Bool Unit Empty Empty Empty :=
 .s (gz x1 (aa .row x1)) nE (fun _=>.l (.n ())) nE nE
def MT:=fun x1=>(iz x1).val
def NT:=fun x1=>(iz x1).ob
def jz:=fun x1=>da.mk (MT x1) (NT x1) [0,1] [(0,.S .row x1)] zI (fun _=>[(0,.S .row x1)]) nE nE nE
theorem Zab (G:Good Tryz.prog tt yo) {fr:Fr}:∀ x1,ez fr (jz x1) :=
 fun x1=>fa G [([0,1,0,1],fun e=>⟨gz (gL .row e 0 0) (gI e 6 0)⟩)] ⟨fun _=>⟨rfl,Yab G _ _⟩,trivial⟩ [(1,[0,5,6,7])] [] [] (iz x1) rfl rfl (by kernel_rfl)
def lz (a0:LR):Tr Bool Empty Empty Empty Empty :=
 .s (jz a0) (fun _=>.w [(wo a0)] (.l (.r (vo a0)))) nE nE nE
def mz:=fun a0=>(lz a0).val
def nz:=fun a0=>(lz a0).ob
def QT:=fun a0=>da.mk (mz a0) (nz a0) [] [(0,.S .row a0)] zI nE nE nE nE
theorem aac (G:Good Tryz.prog tt yo) {fr:Fr}:∀ a0,ez fr (QT a0) :=
 fun a0=>fa G [([0,1],fun e=>⟨jz (gL .row e 0 0)⟩)] ⟨fun _=>⟨rfl,Zab G _⟩,trivial⟩ [(0,[0]),(7,[2])] [] [] (lz a0) rfl rfl (by kernel_rfl)
def Wj (a0:LR):Bool:=ocR (mz a0)
def Xj (a0:LR):Prop:=nz a0
def zo:Spec:=⟨[(.lst .row)],.one .fr .bool,false,fun x=>(Wj x.1,0),fun x=>Xj x.1⟩
theorem bac (G:Good Tryz.prog tt yo):Con Tryz.prog 16 zo :=
 Ca (pts:=[(.lst .row)]) (rt:=.one .fr .bool) (o:=fun x=>mz x.1) (ob:=fun x=>nz x.1) G (fn:=Tryz.f16) (c:=ia Tryz.f16) (by kernel_rfl) (by kernel_rfl) (by kernel_rfl) (rs:=[.tmp 2]) (fz:=F16.fz) (by kernel_rfl) (by kernel_rfl) (fun _=>rfl) rfl (fun x=>QT x.1) (fun _=>⟨rfl,rfl,rfl,rfl,rfl⟩) (fun x _=>aac G x.1)
def ST:SP:=[]
abbrev F72:Fnn:=⟨[.tmp 2],.one (.acc false) (.lst .row),none,[2]⟩
abbrev cac:LR→RV:=fun q=>(some (RT.av (.one (.acc false) (.lst .row)) q),.dead)
abbrev dac (fr:Fr) {A X Y Z:Type} (S:da LR A X Y Z):Prop:=ua Tryz.prog tt ⟨Tryz.f72.ntmps,none,[]⟩ fr (ia Tryz.f72) F72 S
def oz (a0:LR):Tr LR Empty Empty Empty Empty :=
 .w [Xp (aa .row a0) (aa .row a0)] (.l (.r (List.take (List.length (List.replicate (Int.toNat (aa .row a0)) (Row.mk 0 0 (Time.mk 0 0) 0))) a0++List.drop (List.length a0) (List.replicate (Int.toNat (aa .row a0)) (Row.mk 0 0 (Time.mk 0 0) 0)))))
def qz:=fun a0=>(oz a0).val
def rz:=fun a0=>(oz a0).ob
def UT:=fun a0=>da.mk (qz a0) (rz a0) [] [(0,.S .row a0)] cac nE nE nE nE
theorem eac (G:Good Tryz.prog tt ST) {fr:Fr}:∀ a0,dac fr (UT a0) :=
 fun a0=>fa G [] trivial [(0,[0]),(1,[0,3]),(2,[3]),(3,[2])] [] [] (oz a0) rfl rfl (by kernel_rfl)
def tz (a0:LR):LR:=ocR (qz a0)
def uz (a0:LR):Prop:=rz a0
def BI:Spec:=⟨[(.lst .row)],.one (.acc false) (.lst .row),false,fun x=>(tz x.1,0),fun x=>uz x.1⟩
theorem fac (G:Good Tryz.prog tt ST):Con Tryz.prog 72 BI :=
 Ca (pts:=[(.lst .row)]) (rt:=.one (.acc false) (.lst .row)) (o:=fun x=>qz x.1) (ob:=fun x=>rz x.1) G (fn:=Tryz.f72) (c:=ia Tryz.f72) (by kernel_rfl) (by kernel_rfl) (by kernel_rfl) (rs:=[.tmp 2]) (fz:=F72.fz) (by kernel_rfl) (by kernel_rfl) (fun _=>rfl) rfl (fun x=>UT x.1) (fun _=>⟨rfl,rfl,rfl,rfl,rfl⟩) (fun x _=>eac G x.1)
def VT:SP:=[]
abbrev F98:Fnn:=⟨[.tmp 6,.tmp 7,.tmp 8],.tup [(true,(.int .i64)),(true,(.int .i64)),(true,.bool)],none,[]⟩
abbrev gac:Int×Int×Bool×Unit→RV:=fun q=>(some (RT.av (.tup [(true,(.int .i64)),(true,(.int .i64)),(true,.bool)]) q),.dead)
abbrev hac (fr:Fr) {A X Y Z:Type} (S:da (Int×Int×Bool×Unit) A X Y Z):Prop:=ua Tryz.prog tt ⟨Tryz.f98.ntmps,none,[]⟩ fr (ia Tryz.f98) F98 S
def vz (a0 a1 a2:Int):Tr (Int×Int×Bool×Unit) Empty Empty Empty Empty :=
 .c (cmp .eql a2 1)
 (.w [(4:Int)≠0,(4:Int)≠0] (.l (.r ((ar .rem .i64 a1 4),((ar .add .i64 (ar .sub .i64 a1 (ar .rem .i64 a1 4)) a0),(true,()))))))
 (.c (cmp .eql a2 2)
 (.w [(100:Int)≠0] (.l (.r (a0,((ar .rem .i64 (ar .add .i64 a1 1) 100),(true,()))))))
 (.c (cmp .eql a2 3)
 (.w [(4:Int)≠0] (.l (.r ((ar .rem .i64 a1 4),(a1,(true,()))))))
 (.c (cmp .eql a2 4)
 (.l (.r (0,(a1,(true,())))))
 (.c (cmp .eql a2 5)
 (.w [(2:Int)≠0] (.l (.r (a0,(a1,((cmp .eql (ar .rem .i64 a1 2) 0),()))))))
 (.c (cmp .eql a2 6)
 (.w [(2:Int)≠0] (.l (.r (a0,(a1,((cmp .eql (ar .rem .i64 a0 2) 0),()))))))
 (.c (cmp .eql a2 7)
 (.l (.r (a0,(a1,((cmp .lss a1 10),())))))
 (.l (.r (0,(0,(false,())))))))))))
def wz:=fun a0 a1 a2=>(vz a0 a1 a2).val
def xz:=fun a0 a1 a2=>(vz a0 a1 a2).ob
def WT:=fun a0 a1 a2=>da.mk (wz a0 a1 a2) (xz a0 a1 a2) [] [(0,.I a0),(1,.I a1),(2,.I a2)] gac nE nE nE nE
theorem iac (G:Good Tryz.prog tt VT) {fr:Fr}:∀ a0 a1 a2,hac fr (WT a0 a1 a2) :=
 fun a0 a1 a2=>fa G [] trivial [(0,[0,1,2]),(1,[0,1,9]),(2,[0,1,9,10]),(3,[6,7,8]),(4,[0,1,9,20]),(5,[6,7,8]),(6,[0,1,9,26]),(7,[6,7,8]),(8,[0,1,9,31]),(9,[6,7,8]),(10,[0,1,9,34]),(11,[6,7,8]),(12,[0,1,9,41]),(13,[6,7,8]),(14,[0,1,48]),(15,[6,7,8]),(16,[6,7,8])] [] [] (vz a0 a1 a2) rfl rfl (by kernel_rfl)
def yz (a0:Int) (a1:Int) (a2:Int):Int×Int×Bool×Unit:=ocR (wz a0 a1 a2)
def Az (a0:Int) (a1:Int) (a2:Int):Prop:=xz a0 a1 a2
def CI:Spec:=⟨[(.int .i64),(.int .i64),(.int .i64)],.tup [(true,(.int .i64)),(true,(.int .i64)),(true,.bool)],false,fun x=>(yz x.1 x.2.1 x.2.2.1,0),fun x=>Az x.1 x.2.1 x.2.2.1⟩
theorem jac (G:Good Tryz.prog tt VT):Con Tryz.prog 98 CI :=
 Ca (pts:=[(.int .i64),(.int .i64),(.int .i64)]) (rt:=.tup [(true,(.int .i64)),(true,(.int .i64)),(true,.bool)]) (o:=fun x=>wz x.1 x.2.1 x.2.2.1) (ob:=fun x=>xz x.1 x.2.1 x.2.2.1) G (fn:=Tryz.f98) (c:=ia Tryz.f98) (by kernel_rfl) (by kernel_rfl) (by kernel_rfl) (rs:=[.tmp 6,.tmp 7,.tmp 8]) (fz:=F98.fz) (by kernel_rfl) (by kernel_rfl) (fun _=>rfl) rfl (fun x=>WT x.1 x.2.1 x.2.2.1) (fun _=>⟨rfl,rfl,rfl,rfl,rfl⟩) (fun x _=>iac G x.1 x.2.1 x.2.2.1)
def XT:SP:=[(78,lK),(16,zo)]
abbrev F47:Fnn:=⟨[.tmp 2,.tmp 3],.tup [(false,(.lst .row)),(true,.bool)],none,[]⟩
abbrev kac:LR×Bool×Unit→RV:=fun q=>(some (RT.av (.tup [(false,(.lst .row)),(true,.bool)]) q),.dead)
abbrev lac (fr:Fr) {A X Y Z:Type} (S:da (LR×Bool×Unit) A X Y Z):Prop:=ua Tryz.prog tt ⟨Tryz.f47.ntmps,none,[]⟩ fr (ia Tryz.f47) F47 S
def Bz (a0:LR):Tr (LR×Bool×Unit) Empty Empty Empty Empty :=
 .k (jK a0) fun u1=>.w [(kK a0)] (.w [(Xj u1)] (.c (!(Wj u1))
 (.l (.r ([],(false,()))))
 (.l (.r (u1,(true,()))))))
def Cz:=fun a0=>(Bz a0).val
def Dz:=fun a0=>(Bz a0).ob
def YT:=fun a0=>da.mk (Cz a0) (Dz a0) [] [(0,.S .row a0)] kac nE nE nE nE
theorem mac (G:Good Tryz.prog tt XT) {fr:Fr}:∀ a0,lac fr (YT a0) :=
 fun a0=>fa G [] trivial [(0,[0]),(1,[4]),(2,[4,9]),(3,[2,3]),(4,[2,3])] [] [] (Bz a0) rfl rfl (by kernel_rfl)
def me (a0:LR):LR×Bool×Unit:=ocR (Cz a0)
def Vg (a0:LR):Prop:=Dz a0
def Yj:Spec:=⟨[(.lst .row)],.tup [(false,(.lst .row)),(true,.bool)],false,fun x=>(me x.1,0),fun x=>Vg x.1⟩
theorem nac (G:Good Tryz.prog tt XT):Con Tryz.prog 47 Yj :=
 Ca (pts:=[(.lst .row)]) (rt:=.tup [(false,(.lst .row)),(true,.bool)]) (o:=fun x=>Cz x.1) (ob:=fun x=>Dz x.1) G (fn:=Tryz.f47) (c:=ia Tryz.f47) (by kernel_rfl) (by kernel_rfl) (by kernel_rfl) (rs:=[.tmp 2,.tmp 3]) (fz:=F47.fz) (by kernel_rfl) (by kernel_rfl) (fun _=>rfl) rfl (fun x=>YT x.1) (fun _=>⟨rfl,rfl,rfl,rfl,rfl⟩) (fun x _=>mac G x.1)
def Zj:SP:=[(98,CI),(47,Yj)]
abbrev F73:Fnn:=⟨[.tmp 4,.tmp 5],.tup [(false,(.lst .row)),(true,.bool)],none,[]⟩
abbrev Ez:LR×Bool×Unit→RV:=fun q=>(some (RT.av (.tup [(false,(.lst .row)),(true,.bool)]) q),.dead)
abbrev Ao (fr:Fr) {A X Y Z:Type} (S:da (LR×Bool×Unit) A X Y Z):Prop:=ua Tryz.prog tt ⟨Tryz.f73.ntmps,none,[]⟩ fr (ia Tryz.f73) F73 S
def Gz (x22:Int) (x23 x24:LR) (_x25 x26:Int):Tr (LR×Bool×Unit) LR Empty Empty Empty :=
 .w [inb x26 (aa .row x24)] (.k (yz (rd .row x24 x26).Key (rd .row x24 x26).Val x22) fun u27=>.w [(Az (rd .row x24 x26).Key (rd .row x24 x26).Val x22)] (.c u27.2.2.1
 (.w [lim (aa .row x23) (aa .row [(Row.mk u27.1 u27.2.1 (rd .row x24 x26).At (rd .row x24 x26).Diff)])] (.l (.n (x23++[(Row.mk u27.1 u27.2.1 (rd .row x24 x26).At (rd .row x24 x26).Diff)]))))
 (.l (.n x23))))
def ZT:=fun x22 x23 x24 x25 x26=>(Gz x22 x23 x24 x25 x26).val
def aU:=fun x22 x23 x24 x25 x26=>(Gz x22 x23 x24 x25 x26).ob
def Hz:=fun x22 x23 x24 x25 x26=>da.mk (ZT x22 x23 x24 x25 x26) (aU x22 x23 x24 x25 x26) [0,1,1,0,0,1,0,1,1] [(1,.I x22),(6,.A .row x23),(13,.S .row x24),(14,.I x25),(15,.I x26)] Ez (fun q=>[(1,.I x22),(6,.A .row q),(13,.S .row x24),(14,.I x25),(15,.I x26)]) nE nE nE
theorem oac (G:Good Tryz.prog tt Zj) {fr:Fr}:∀ x22 x23 x24 x25 x26,Ao fr (Hz x22 x23 x24 x25 x26) :=
 fun x22 x23 x24 x25 x26=>fa G [] trivial [(4,[1,6,8,13,14,15]),(5,[1,6,8,9,10,11,13,14,15]),(6,[1,6,8,9,10,13,14,15,29]),(7,[1,6,13,14,15])] [] [] (Gz x22 x23 x24 x25 x26) rfl rfl (by kernel_rfl)
def Bo (x3:Int) (x4:LR) (x5:Int) (s19:LR) (s20:Int):Tr (LR×Bool×Unit) (LR×Int) LR Empty Empty :=
 .c (cmp .lss s20 x5)
 (.s (Hz x3 s19 x4 x5 s20) (fun q30=>.l (.n (q30,(ar .add .i64 s20 1)))) nE nE nE)
 (.l (.x s19))
def ak:=fun x3 x4 x5 s19 s20=>(Bo x3 x4 x5 s19 s20).val
def Co:=fun x3 x4 x5 s19 s20=>(Bo x3 x4 x5 s19 s20).ob
def DI:=fun x3 x4 x5 s19 s20=>Na (ak x3 x4 x5 s19 s20) (Co x3 x4 x5 s19 s20) [0,0,1,0,1,1] (fun q=>[(1,.I x3),(6,.A .row q.1),(13,.S .row x4),(14,.I x5),(15,.I q.2)]) (s19,s20) Ez (fun q=>(0,[(6,.A .row q)])) nE nE
theorem pac (G:Good Tryz.prog tt Zj) {fr:Fr}:∀ x3 x4 x5 s19 s20,Ao fr (DI x3 x4 x5 s19 s20) :=
 fun x3 x4 x5 s19 s20=>fa G [([0,1,1,0,0,1,0,1,1],fun e=>⟨Hz (gI e 1 0) (gL .row e 6 0) (gL .row e 13 0) (gI e 14 0) (gI e 15 0)⟩)] ⟨fun _=>⟨rfl,oac G _ _ _ _ _⟩,trivial⟩ [(3,[1,6,13,14,15,16]),(8,[1,6,13,14,15])] [] [] (Bo x3 x4 x5 s19 s20) rfl rfl (by kernel_rfl)
def bU:=fun x3 x4 x5=>lpV (fun s:LR×Int=>ca (ak x3 x4 x5 s.1 s.2)) ([],0)
def cU:=fun x3 x4 x5=>LpT (fun s:LR×Int=>ca (ak x3 x4 x5 s.1 s.2)) (fun s=>Co x3 x4 x5 s.1 s.2) ([],0)
def Iz:=fun x3 x4 x5=>lpS (DI x3 x4 x5 [] 0) (bU x3 x4 x5) (cU x3 x4 x5)
theorem qac (G:Good Tryz.prog tt Zj) {fr:Fr}:∀ x3 x4 x5,Ao fr (Iz x3 x4 x5) :=
 fun x3 x4 x5=>Oa (fun s:LR×Int=>DI x3 x4 x5 s.1 s.2) ([],0) (fun _=>rfl) (fun _=>⟨rfl,rfl,rfl,rfl,rfl⟩) (by kernel_rfl) fun _=>pac G _ _ _ _ _
def Jz (x1:LR) (x2:Int):Tr (LR×Bool×Unit) LR Empty Empty Empty :=
 .s (Iz x2 x1 (aa .row x1)) nE (fun q41=>.l (.n q41)) nE nE
def dU:=fun x1 x2=>(Jz x1 x2).val
def eU:=fun x1 x2=>(Jz x1 x2).ob
def Kz:=fun x1 x2=>da.mk (dU x1 x2) (eU x1 x2) [0,1,1] [(0,.S .row x1),(1,.I x2),(6,.A .row [])] Ez (fun q=>[(6,.A .row q)]) nE nE nE
theorem rac (G:Good Tryz.prog tt Zj) {fr:Fr}:∀ x1 x2,Ao fr (Kz x1 x2) :=
 fun x1 x2=>fa G [([0,1,0,1,1],fun e=>⟨Iz (gI e 1 0) (gL .row e 13 0) (gI e 14 0)⟩)] ⟨fun _=>⟨rfl,qac G _ _ _⟩,trivial⟩ [(2,[1,6,13,14,15])] [] [] (Jz x1 x2) rfl rfl (by kernel_rfl)
def Lz (a0:LR) (a1:Int):Tr (LR×Bool×Unit) Empty Empty Empty Empty :=
 .s (Kz a0 a1) (fun q44=>.w [(Vg q44)] (.l (.r ((me q44).1,((me q44).2.1,()))))) nE nE nE
def Mz:=fun a0 a1=>(Lz a0 a1).val
def Nz:=fun a0 a1=>(Lz a0 a1).ob
def fU:=fun a0 a1=>da.mk (Mz a0 a1) (Nz a0 a1) [] [(0,.S .row a0),(1,.I a1)] Ez nE nE nE nE
theorem sac (G:Good Tryz.prog tt Zj) {fr:Fr}:∀ a0 a1,Ao fr (fU a0 a1) :=
 fun a0 a1=>fa G [([0,1,1],fun e=>⟨Kz (gL .row e 0 0) (gI e 1 0)⟩)] ⟨fun _=>⟨rfl,rac G _ _⟩,trivial⟩ [(0,[0,1]),(1,[0,1,6]),(9,[4,5])] [] [] (Lz a0 a1) rfl rfl (by kernel_rfl)
def Oz (a0:LR) (a1:Int):LR×Bool×Unit:=ocR (Mz a0 a1)
def Pz (a0:LR) (a1:Int):Prop:=Nz a0 a1
def FI:Spec:=⟨[(.lst .row),(.int .i64)],.tup [(false,(.lst .row)),(true,.bool)],false,fun x=>(Oz x.1 x.2.1,0),fun x=>Pz x.1 x.2.1⟩
theorem tac (G:Good Tryz.prog tt Zj):Con Tryz.prog 73 FI :=
 Ca (pts:=[(.lst .row),(.int .i64)]) (rt:=.tup [(false,(.lst .row)),(true,.bool)]) (o:=fun x=>Mz x.1 x.2.1) (ob:=fun x=>Nz x.1 x.2.1) G (fn:=Tryz.f73) (c:=ia Tryz.f73) (by kernel_rfl) (by kernel_rfl) (by kernel_rfl) (rs:=[.tmp 4,.tmp 5]) (fz:=F73.fz) (by kernel_rfl) (by kernel_rfl) (fun _=>rfl) rfl (fun x=>fU x.1 x.2.1) (fun _=>⟨rfl,rfl,rfl,rfl,rfl⟩) (fun x _=>sac G x.1 x.2.1)
def gU:SP:=[]
abbrev F54:Fnn:=⟨[.tmp 4],.one (.acc false) (.lst .row),none,[]⟩
abbrev uac:LR→RV:=fun q=>(some (RT.av (.one (.acc false) (.lst .row)) q),.dead)
abbrev vac (fr:Fr) {A X Y Z:Type} (S:da LR A X Y Z):Prop:=ua Tryz.prog tt ⟨Tryz.f54.ntmps,none,[]⟩ fr (ia Tryz.f54) F54 S
def Qz (a0 a1:LR):Tr LR Empty Empty Empty Empty :=
 .w [lim (aa .row []) (aa .row a0),lim (aa .row ([]++a0)) (aa .row a1)] (.l (.r (([]++a0)++a1)))
def Rz:=fun a0 a1=>(Qz a0 a1).val
def Sz:=fun a0 a1=>(Qz a0 a1).ob
def iU:=fun a0 a1=>da.mk (Rz a0 a1) (Sz a0 a1) [] [(0,.S .row a0),(1,.S .row a1)] uac nE nE nE nE
theorem wac (G:Good Tryz.prog tt gU) {fr:Fr}:∀ a0 a1,vac fr (iU a0 a1) :=
 fun a0 a1=>fa G [] trivial [(0,[0,1]),(1,[4])] [] [] (Qz a0 a1) rfl rfl (by kernel_rfl)
def Tz (a0:LR) (a1:LR):LR:=ocR (Rz a0 a1)
def Uz (a0:LR) (a1:LR):Prop:=Sz a0 a1
def GI:Spec:=⟨[(.lst .row),(.lst .row)],.one (.acc false) (.lst .row),false,fun x=>(Tz x.1 x.2.1,0),fun x=>Uz x.1 x.2.1⟩
theorem xac (G:Good Tryz.prog tt gU):Con Tryz.prog 54 GI :=
 Ca (pts:=[(.lst .row),(.lst .row)]) (rt:=.one (.acc false) (.lst .row)) (o:=fun x=>Rz x.1 x.2.1) (ob:=fun x=>Sz x.1 x.2.1) G (fn:=Tryz.f54) (c:=ia Tryz.f54) (by kernel_rfl) (by kernel_rfl) (by kernel_rfl) (rs:=[.tmp 4]) (fz:=F54.fz) (by kernel_rfl) (by kernel_rfl) (fun _=>rfl) rfl (fun x=>iU x.1 x.2.1) (fun _=>⟨rfl,rfl,rfl,rfl,rfl⟩) (fun x _=>wac G x.1 x.2.1)
def Do:SP:=[]
abbrev F48:Fnn:=⟨[.tmp 2],.one (.acc false) (.lst .row),none,[2]⟩
abbrev II:LR→RV:=fun q=>(some (RT.av (.one (.acc false) (.lst .row)) q),.dead)
abbrev Vz (fr:Fr) {A X Y Z:Type} (S:da LR A X Y Z):Prop:=ua Tryz.prog tt ⟨Tryz.f48.ntmps,none,[]⟩ fr (ia Tryz.f48) F48 S
def Eo (_x2:LR) (x3:Int) (s7:LR) (s8:Int):Tr LR (LR×Int) LR Empty Empty :=
 .c (cmp .lss s8 x3)
 (.w [inb s8 (aa .row s7),inb s8 (aa .row s7),inb s8 (aa .row s7)] (.l (.n ((List.set s7 (Int.toNat s8) (Row.mk (rd .row s7 s8).Key (rd .row s7 s8).Val (rd .row s7 s8).At (IntKind.wrap .i64 (0 - (rd .row s7 s8).Diff)))),(ar .add .i64 s8 1)))))
 (.l (.x s7))
def bk:=fun x2 x3 s7 s8=>(Eo x2 x3 s7 s8).val
def Fo:=fun x2 x3 s7 s8=>(Eo x2 x3 s7 s8).ob
def JI:=fun x2 x3 s7 s8=>Na (bk x2 x3 s7 s8) (Fo x2 x3 s7 s8) [0,0,1,0,1,1] (fun q=>[(3,.v (.own false) (.lst .row q.1)),(9,.I x3),(10,.I q.2)]) (s7,s8) II (fun q=>(0,[(3,.v (.own false) (.lst .row q))])) nE nE
theorem yac (G:Good Tryz.prog tt Do) {fr:Fr}:∀ x2 x3 s7 s8,Vz fr (JI x2 x3 s7 s8) :=
 fun x2 x3 s7 s8=>fa G [] trivial [(3,[3,9,10,11]),(4,[3,4,9,10]),(5,[3,9,10]),(6,[3,9,10])] [] [] (Eo x2 x3 s7 s8) rfl rfl (by kernel_rfl)
def jU:=fun x2 x3=>lpV (fun s:LR×Int=>ca (bk x2 x3 s.1 s.2)) (x2,0)
def kU:=fun x2 x3=>LpT (fun s:LR×Int=>ca (bk x2 x3 s.1 s.2)) (fun s=>Fo x2 x3 s.1 s.2) (x2,0)
def Wz:=fun x2 x3=>lpS (JI x2 x3 x2 0) (jU x2 x3) (kU x2 x3)
theorem zac (G:Good Tryz.prog tt Do) {fr:Fr}:∀ x2 x3,Vz fr (Wz x2 x3) :=
 fun x2 x3=>Oa (fun s:LR×Int=>JI x2 x3 s.1 s.2) (x2,0) (fun _=>rfl) (fun _=>⟨rfl,rfl,rfl,rfl,rfl⟩) (by kernel_rfl) fun _=>yac G _ _ _ _
def Xz (x1:LR):Tr LR LR Empty Empty Empty :=
 .s (Wz x1 (aa .row x1)) nE (fun q17=>.l (.n q17)) nE nE
def lU:=fun x1=>(Xz x1).val
def mU:=fun x1=>(Xz x1).ob
def Yz:=fun x1=>da.mk (lU x1) (mU x1) [0,1,1] [(3,.v (.acc false) (.lst .row x1))] II (fun q=>[(3,.v (.own false) (.lst .row q))]) nE nE nE
theorem Aac (G:Good Tryz.prog tt Do) {fr:Fr}:∀ x1,Vz fr (Yz x1) :=
 fun x1=>fa G [([0,1,0,1,1],fun e=>⟨Wz (gL .row e 3 0) (gI e 9 0)⟩)] ⟨fun _=>⟨rfl,zac G _ _⟩,trivial⟩ [(2,[3,9,10])] [(2,3)] [] (Xz x1) rfl rfl (by kernel_rfl)
def Zz (a0:LR):Tr LR Empty Empty Empty Empty :=
 .w [lim (aa .row []) (aa .row a0)] (.s (Yz ([]++a0)) (fun q20=>.l (.r q20)) nE nE nE)
def aA:=fun a0=>(Zz a0).val
def bA:=fun a0=>(Zz a0).ob
def nU:=fun a0=>da.mk (aA a0) (bA a0) [] [(0,.S .row a0)] II nE nE nE nE
theorem Bac (G:Good Tryz.prog tt Do) {fr:Fr}:∀ a0,Vz fr (nU a0) :=
 fun a0=>fa G [([0,1,1],fun e=>⟨Yz (gL .row e 3 0)⟩)] ⟨fun _=>⟨rfl,Aac G _⟩,trivial⟩ [(0,[0]),(1,[3]),(7,[2])] [] [] (Zz a0) rfl rfl (by kernel_rfl)
def cA (a0:LR):LR:=ocR (aA a0)
def eA (a0:LR):Prop:=bA a0
def MI:Spec:=⟨[(.lst .row)],.one (.acc false) (.lst .row),false,fun x=>(cA x.1,0),fun x=>eA x.1⟩
theorem Cac (G:Good Tryz.prog tt Do):Con Tryz.prog 48 MI :=
 Ca (pts:=[(.lst .row)]) (rt:=.one (.acc false) (.lst .row)) (o:=fun x=>aA x.1) (ob:=fun x=>bA x.1) G (fn:=Tryz.f48) (c:=ia Tryz.f48) (by kernel_rfl) (by kernel_rfl) (by kernel_rfl) (rs:=[.tmp 2]) (fz:=F48.fz) (by kernel_rfl) (by kernel_rfl) (fun _=>rfl) rfl (fun x=>nU x.1) (fun _=>⟨rfl,rfl,rfl,rfl,rfl⟩) (fun x _=>Bac G x.1)
def oU:SP:=[]
abbrev F99:Fnn:=⟨[.tmp 4],.one .fr (.int .i64),none,[]⟩
abbrev Dac:Int→RV:=fun q=>(some (RT.av (.one .fr (.int .i64)) q),.dead)
abbrev Eac (fr:Fr) {A X Y Z:Type} (S:da Int A X Y Z):Prop:=ua Tryz.prog tt ⟨Tryz.f99.ntmps,none,[]⟩ fr (ia Tryz.f99) F99 S
def PI (a0 a1:Int):Tr Int Empty Empty Empty Empty :=
 .w [(100:Int)≠0] (.l (.r (ar .rem .i64 (ar .add .i64 (ar .mul .i64 10 a0) a1) 100)))
def QI:=fun a0 a1=>(PI a0 a1).val
def RI:=fun a0 a1=>(PI a0 a1).ob
def pU:=fun a0 a1=>da.mk (QI a0 a1) (RI a0 a1) [] [(0,.I a0),(1,.I a1)] Dac nE nE nE nE
theorem Fac (G:Good Tryz.prog tt oU) {fr:Fr}:∀ a0 a1,Eac fr (pU a0 a1) :=
 fun a0 a1=>fa G [] trivial [(0,[0,1]),(1,[4])] [] [] (PI a0 a1) rfl rfl (by kernel_rfl)
def SI (a0:Int) (a1:Int):Int:=ocR (QI a0 a1)
def UI (a0:Int) (a1:Int):Prop:=RI a0 a1
def VI:Spec:=⟨[(.int .i64),(.int .i64)],.one .fr (.int .i64),false,fun x=>(SI x.1 x.2.1,0),fun x=>UI x.1 x.2.1⟩
theorem Gac (G:Good Tryz.prog tt oU):Con Tryz.prog 99 VI :=
 Ca (pts:=[(.int .i64),(.int .i64)]) (rt:=.one .fr (.int .i64)) (o:=fun x=>QI x.1 x.2.1) (ob:=fun x=>RI x.1 x.2.1) G (fn:=Tryz.f99) (c:=ia Tryz.f99) (by kernel_rfl) (by kernel_rfl) (by kernel_rfl) (rs:=[.tmp 4]) (fz:=F99.fz) (by kernel_rfl) (by kernel_rfl) (fun _=>rfl) rfl (fun x=>pU x.1 x.2.1) (fun _=>⟨rfl,rfl,rfl,rfl,rfl⟩) (fun x _=>Fac G x.1 x.2.1)
def qU:SP:=[(49,po)]
abbrev F25:Fnn:=⟨[.cell 4 38],.one .fr (.st .time),none,[]⟩
abbrev Hac:Time→RV:=fun q=>(some (RT.av (.one .fr (.st .time)) q),.dead)
abbrev Iac (fr:Fr) {A X Y Z:Type} (S:da Time A X Y Z):Prop:=ua Tryz.prog tt ⟨Tryz.f25.ntmps,none,[]⟩ fr (ia Tryz.f25) F25 S
def fA (a0 a1:Time):Tr Time Empty Empty Empty Empty :=
 .w [(mo a0),(((!(!(fi a0)))&&true)=true→(mo a1))] (.c (cond (!(fi a0)) true (!(fi a1)))
 (.l (.r (Time.mk 0 0)))
 (.l (.r (Time.mk (mx a0.A a1.A) (mx a0.B a1.B)))))
def gA:=fun a0 a1=>(fA a0 a1).val
def iA:=fun a0 a1=>(fA a0 a1).ob
def rU:=fun a0 a1=>da.mk (gA a0 a1) (iA a0 a1) [] [(0,.agg true [.i a0.A,.i a0.B]),(1,.agg true [.i a1.A,.i a1.B])] Hac nE nE nE nE
theorem Jac (G:Good Tryz.prog tt qU) {fr:Fr}:∀ a0 a1,Iac fr (rU a0 a1) :=
 fun a0 a1=>fa G [] trivial [(0,[2,3,4]),(1,[2,3,4,12]),(2,[4]),(3,[4])] [] [] (fA a0 a1) rfl rfl (by kernel_rfl)
def Ho (a0:Time) (a1:Time):Time:=ocR (gA a0 a1)
def Io (a0:Time) (a1:Time):Prop:=iA a0 a1
def Jo:Spec:=⟨[(.st .time),(.st .time)],.one .fr (.st .time),false,fun x=>(Ho x.1 x.2.1,0),fun x=>Io x.1 x.2.1⟩
theorem sU (G:Good Tryz.prog tt qU):Con Tryz.prog 25 Jo :=
 Ca (pts:=[(.st .time),(.st .time)]) (rt:=.one .fr (.st .time)) (o:=fun x=>gA x.1 x.2.1) (ob:=fun x=>iA x.1 x.2.1) G (fn:=Tryz.f25) (c:=ia Tryz.f25) (by kernel_rfl) (by kernel_rfl) (by kernel_rfl) (rs:=[.cell 4 38]) (fz:=F25.fz) (by kernel_rfl) (by kernel_rfl) (fun _=>rfl) rfl (fun x=>rU x.1 x.2.1) (fun _=>⟨rfl,rfl,rfl,rfl,rfl⟩) (fun x _=>Jac G x.1 x.2.1)
end
end Go.Proofs.YthfkpijcajdnhaaGreat

namespace Go.Proofs.YthfkpijcajdnhaaGreat
open Go
noncomputable section
set_option maxRecDepth 100000
def jg:SP:=[(99,VI),(25,Jo),(47,Yj)]
abbrev F74:Fnn:=⟨[.tmp 4,.tmp 5],.tup [(false,(.lst .row)),(true,.bool)],none,[]⟩
abbrev fk:LR×Bool×Unit→RV:=fun q=>(some (RT.av (.tup [(false,(.lst .row)),(true,.bool)]) q),.dead)
abbrev Wg (fr:Fr) {A X Y Z:Type} (S:da (LR×Bool×Unit) A X Y Z):Prop:=ua Tryz.prog tt ⟨Tryz.f74.ntmps,none,[]⟩ fr (ia Tryz.f74) F74 S
def jA (x101 x102:LR) (x103:Row) (_x104:LR) (_x105 _x106 _x107 x108:Int):Tr (LR×Bool×Unit) LR Empty Empty Empty :=
 .w [inb x108 (aa .row x101)] (.c (cmp .eql x103.Key (rd .row x101 x108).Key)
 (.k (SI x103.Val (rd .row x101 x108).Val) fun u110=>.k (Ho x103.At (rd .row x101 x108).At) fun u111=>.w [(UI x103.Val (rd .row x101 x108).Val),(Io x103.At (rd .row x101 x108).At),lim (aa .row x102) (aa .row [(Row.mk x103.Key u110 u111 (ar .mul .i64 x103.Diff (rd .row x101 x108).Diff))])] (.l (.n (x102++[(Row.mk x103.Key u110 u111 (ar .mul .i64 x103.Diff (rd .row x101 x108).Diff))]))))
 (.l (.n x102)))
def tU:=fun x101 x102 x103 x104 x105 x106 x107 x108=>(jA x101 x102 x103 x104 x105 x106 x107 x108).val
def uU:=fun x101 x102 x103 x104 x105 x106 x107 x108=>(jA x101 x102 x103 x104 x105 x106 x107 x108).ob
def kA:=fun x101 x102 x103 x104 x105 x106 x107 x108=>da.mk (tU x101 x102 x103 x104 x105 x106 x107 x108) (uU x101 x102 x103 x104 x105 x106 x107 x108) [0,1,1,0,0,1,1,0,0,1,1,0,0,1,0,1,1] [(1,.S .row x101),(6,.A .row x102),(8,.box [(.fr,.i x103.Key),(.fr,.i x103.Val),(.fr,.i x103.At.A),(.fr,.i x103.At.B),(.fr,.i x103.Diff)]),(12,.S .row x104),(13,.I x105),(14,.I x106),(18,.S .row x101),(19,.I x107),(20,.I x108)] fk (fun q=>[(1,.S .row x101),(6,.A .row q),(8,.box [(.fr,.i x103.Key),(.fr,.i x103.Val),(.fr,.i x103.At.A),(.fr,.i x103.At.B),(.fr,.i x103.Diff)]),(12,.S .row x104),(13,.I x105),(14,.I x106),(18,.S .row x101),(19,.I x107),(20,.I x108)]) nE nE nE
theorem Kac (G:Good Tryz.prog tt jg) {fr:Fr}:∀ x101 x102 x103 x104 x105 x106 x107 x108,Wg fr (kA x101 x102 x103 x104 x105 x106 x107 x108) :=
 fun x101 x102 x103 x104 x105 x106 x107 x108=>fa G [] trivial [(7,[1,6,8,10,12,13,14,18,19,20]),(8,[1,6,8,10,12,13,14,18,19,20,28]),(9,[1,6,8,12,13,14,18,19,20])] [] [] (jA x101 x102 x103 x104 x105 x106 x107 x108) rfl rfl (by kernel_rfl)
def Ko (x73 _x74:LR) (x75:Row) (x76:LR) (x77 x78 x79:Int) (s98:LR) (s99:Int):Tr (LR×Bool×Unit) (LR×Int) LR Empty Empty :=
 .c (cmp .lss s99 x79)
 (.s (kA x73 s98 x75 x76 x77 x78 x79 s99) (fun q113=>.l (.n (q113,(ar .add .i64 s99 1)))) nE nE nE)
 (.l (.x s98))
def ik:=fun x73 x74 x75 x76 x77 x78 x79 s98 s99=>(Ko x73 x74 x75 x76 x77 x78 x79 s98 s99).val
def Lo:=fun x73 x74 x75 x76 x77 x78 x79 s98 s99=>(Ko x73 x74 x75 x76 x77 x78 x79 s98 s99).ob
def WI:=fun x73 x74 x75 x76 x77 x78 x79 s98 s99=>Na (ik x73 x74 x75 x76 x77 x78 x79 s98 s99) (Lo x73 x74 x75 x76 x77 x78 x79 s98 s99) [0,0,1,1,0,0,1,1,0,0,1,0,1,1] (fun q=>[(1,.S .row x73),(6,.A .row q.1),(8,.box [(.fr,.i x75.Key),(.fr,.i x75.Val),(.fr,.i x75.At.A),(.fr,.i x75.At.B),(.fr,.i x75.Diff)]),(12,.S .row x76),(13,.I x77),(14,.I x78),(18,.S .row x73),(19,.I x79),(20,.I q.2)]) (s98,s99) fk (fun q=>(2,[(1,.S .row x73),(6,.A .row q),(12,.S .row x76),(13,.I x77),(14,.I x78)])) nE nE
theorem Lac (G:Good Tryz.prog tt jg) {fr:Fr}:∀ x73 x74 x75 x76 x77 x78 x79 s98 s99,Wg fr (WI x73 x74 x75 x76 x77 x78 x79 s98 s99) :=
 fun x73 x74 x75 x76 x77 x78 x79 s98 s99=>fa G [([0,1,1,0,0,1,1,0,0,1,1,0,0,1,0,1,1],fun e=>⟨kA (gL .row e 1 0) (gL .row e 6 0) (gRow e 8) (gL .row e 12 0) (gI e 13 0) (gI e 14 0) (gI e 19 0) (gI e 20 0)⟩)] ⟨fun _=>⟨rfl,Kac G _ _ _ _ _ _ _ _⟩,trivial⟩ [(6,[1,6,8,12,13,14,18,19,20,21]),(10,[1,6,8,12,13,14,18,19,20])] [] [] (Ko x73 x74 x75 x76 x77 x78 x79 s98 s99) rfl rfl (by kernel_rfl)
def vU:=fun x73 x74 x75 x76 x77 x78 x79=>lpV (fun s:LR×Int=>ca (ik x73 x74 x75 x76 x77 x78 x79 s.1 s.2)) (x74,0)
def wU:=fun x73 x74 x75 x76 x77 x78 x79=>LpT (fun s:LR×Int=>ca (ik x73 x74 x75 x76 x77 x78 x79 s.1 s.2)) (fun s=>Lo x73 x74 x75 x76 x77 x78 x79 s.1 s.2) (x74,0)
def lA:=fun x73 x74 x75 x76 x77 x78 x79=>lpS (WI x73 x74 x75 x76 x77 x78 x79 x74 0) (vU x73 x74 x75 x76 x77 x78 x79) (wU x73 x74 x75 x76 x77 x78 x79)
theorem Mac (G:Good Tryz.prog tt jg) {fr:Fr}:∀ x73 x74 x75 x76 x77 x78 x79,Wg fr (lA x73 x74 x75 x76 x77 x78 x79) :=
 fun x73 x74 x75 x76 x77 x78 x79=>Oa (fun s:LR×Int=>WI x73 x74 x75 x76 x77 x78 x79 s.1 s.2) (x74,0) (fun _=>rfl) (fun _=>⟨rfl,rfl,rfl,rfl,rfl⟩) (by kernel_rfl) fun _=>Lac G _ _ _ _ _ _ _ _ _
def mA (x68 x69 x70:LR) (x71 x72:Int):Tr (LR×Bool×Unit) LR Empty Empty Empty :=
 .w [inb x72 (aa .row x70)] (.s (lA x68 x69 (rd .row x70 x72) x70 x71 x72 (aa .row x68)) nE (fun q124=>.l (.n q124)) nE nE)
def xU:=fun x68 x69 x70 x71 x72=>(mA x68 x69 x70 x71 x72).val
def yU:=fun x68 x69 x70 x71 x72=>(mA x68 x69 x70 x71 x72).ob
def nA:=fun x68 x69 x70 x71 x72=>da.mk (xU x68 x69 x70 x71 x72) (yU x68 x69 x70 x71 x72) [0,1,1,0,0,1,0,1,1] [(1,.S .row x68),(6,.A .row x69),(12,.S .row x70),(13,.I x71),(14,.I x72)] fk (fun q=>[(1,.S .row x68),(6,.A .row q),(12,.S .row x70),(13,.I x71),(14,.I x72)]) nE nE nE
theorem Nac (G:Good Tryz.prog tt jg) {fr:Fr}:∀ x68 x69 x70 x71 x72,Wg fr (nA x68 x69 x70 x71 x72) :=
 fun x68 x69 x70 x71 x72=>fa G [([0,1,1,0,0,1,1,0,0,1,0,1,1],fun e=>⟨lA (gL .row e 1 0) (gL .row e 6 0) (gRow e 8) (gL .row e 12 0) (gI e 13 0) (gI e 14 0) (gI e 19 0)⟩)] ⟨fun _=>⟨rfl,Mac G _ _ _ _ _ _ _⟩,trivial⟩ [(4,[1,6,8,12,13,14]),(5,[1,6,8,12,13,14,18,19,20])] [] [] (mA x68 x69 x70 x71 x72) rfl rfl (by kernel_rfl)
def Mo (x3 x4:LR) (x5:Int) (s65:LR) (s66:Int):Tr (LR×Bool×Unit) (LR×Int) LR Empty Empty :=
 .c (cmp .lss s66 x5)
 (.s (nA x3 s65 x4 x5 s66) (fun q127=>.l (.n (q127,(ar .add .i64 s66 1)))) nE nE nE)
 (.l (.x s65))
def jk:=fun x3 x4 x5 s65 s66=>(Mo x3 x4 x5 s65 s66).val
def Oo:=fun x3 x4 x5 s65 s66=>(Mo x3 x4 x5 s65 s66).ob
def XI:=fun x3 x4 x5 s65 s66=>Na (jk x3 x4 x5 s65 s66) (Oo x3 x4 x5 s65 s66) [0,0,1,0,1,1] (fun q=>[(1,.S .row x3),(6,.A .row q.1),(12,.S .row x4),(13,.I x5),(14,.I q.2)]) (s65,s66) fk (fun q=>(0,[(6,.A .row q)])) nE nE
theorem Oac (G:Good Tryz.prog tt jg) {fr:Fr}:∀ x3 x4 x5 s65 s66,Wg fr (XI x3 x4 x5 s65 s66) :=
 fun x3 x4 x5 s65 s66=>fa G [([0,1,1,0,0,1,0,1,1],fun e=>⟨nA (gL .row e 1 0) (gL .row e 6 0) (gL .row e 12 0) (gI e 13 0) (gI e 14 0)⟩)] ⟨fun _=>⟨rfl,Nac G _ _ _ _ _⟩,trivial⟩ [(3,[1,6,12,13,14,15]),(11,[1,6,12,13,14])] [] [] (Mo x3 x4 x5 s65 s66) rfl rfl (by kernel_rfl)
def zU:=fun x3 x4 x5=>lpV (fun s:LR×Int=>ca (jk x3 x4 x5 s.1 s.2)) ([],0)
def AU:=fun x3 x4 x5=>LpT (fun s:LR×Int=>ca (jk x3 x4 x5 s.1 s.2)) (fun s=>Oo x3 x4 x5 s.1 s.2) ([],0)
def oA:=fun x3 x4 x5=>lpS (XI x3 x4 x5 [] 0) (zU x3 x4 x5) (AU x3 x4 x5)
theorem Pac (G:Good Tryz.prog tt jg) {fr:Fr}:∀ x3 x4 x5,Wg fr (oA x3 x4 x5) :=
 fun x3 x4 x5=>Oa (fun s:LR×Int=>XI x3 x4 x5 s.1 s.2) ([],0) (fun _=>rfl) (fun _=>⟨rfl,rfl,rfl,rfl,rfl⟩) (by kernel_rfl) fun _=>Oac G _ _ _ _ _
def pA (x1 x2:LR):Tr (LR×Bool×Unit) LR Empty Empty Empty :=
 .s (oA x2 x1 (aa .row x1)) nE (fun q138=>.l (.n q138)) nE nE
def BU:=fun x1 x2=>(pA x1 x2).val
def CU:=fun x1 x2=>(pA x1 x2).ob
def qA:=fun x1 x2=>da.mk (BU x1 x2) (CU x1 x2) [0,1,1] [(0,.S .row x1),(1,.S .row x2),(6,.A .row [])] fk (fun q=>[(6,.A .row q)]) nE nE nE
theorem Qac (G:Good Tryz.prog tt jg) {fr:Fr}:∀ x1 x2,Wg fr (qA x1 x2) :=
 fun x1 x2=>fa G [([0,1,0,1,1],fun e=>⟨oA (gL .row e 1 0) (gL .row e 12 0) (gI e 13 0)⟩)] ⟨fun _=>⟨rfl,Pac G _ _ _⟩,trivial⟩ [(2,[1,6,12,13,14])] [] [] (pA x1 x2) rfl rfl (by kernel_rfl)
def rA (a0 a1:LR):Tr (LR×Bool×Unit) Empty Empty Empty Empty :=
 .s (qA a0 a1) (fun q141=>.w [(Vg q141)] (.l (.r ((me q141).1,((me q141).2.1,()))))) nE nE nE
def sA:=fun a0 a1=>(rA a0 a1).val
def tA:=fun a0 a1=>(rA a0 a1).ob
def DU:=fun a0 a1=>da.mk (sA a0 a1) (tA a0 a1) [] [(0,.S .row a0),(1,.S .row a1)] fk nE nE nE nE
theorem Rac (G:Good Tryz.prog tt jg) {fr:Fr}:∀ a0 a1,Wg fr (DU a0 a1) :=
 fun a0 a1=>fa G [([0,1,1],fun e=>⟨qA (gL .row e 0 0) (gL .row e 1 0)⟩)] ⟨fun _=>⟨rfl,Qac G _ _⟩,trivial⟩ [(0,[0,1]),(1,[0,1,6]),(12,[4,5])] [] [] (rA a0 a1) rfl rfl (by kernel_rfl)
def uA (a0:LR) (a1:LR):LR×Bool×Unit:=ocR (sA a0 a1)
def vA (a0:LR) (a1:LR):Prop:=tA a0 a1
def YI:Spec:=⟨[(.lst .row),(.lst .row)],.tup [(false,(.lst .row)),(true,.bool)],false,fun x=>(uA x.1 x.2.1,0),fun x=>vA x.1 x.2.1⟩
theorem Sac (G:Good Tryz.prog tt jg):Con Tryz.prog 74 YI :=
 Ca (pts:=[(.lst .row),(.lst .row)]) (rt:=.tup [(false,(.lst .row)),(true,.bool)]) (o:=fun x=>sA x.1 x.2.1) (ob:=fun x=>tA x.1 x.2.1) G (fn:=Tryz.f74) (c:=ia Tryz.f74) (by kernel_rfl) (by kernel_rfl) (by kernel_rfl) (rs:=[.tmp 4,.tmp 5]) (fz:=F74.fz) (by kernel_rfl) (by kernel_rfl) (fun _=>rfl) rfl (fun x=>DU x.1 x.2.1) (fun _=>⟨rfl,rfl,rfl,rfl,rfl⟩) (fun x _=>Rac G x.1 x.2.1)
def EU:SP:=[]
abbrev F55:Fnn:=⟨[.tmp 4],.one .fr .bool,none,[]⟩
abbrev Tac:Bool→RV:=fun q=>(some (RT.av (.one .fr .bool) q),.dead)
abbrev Uac (fr:Fr) {A X Y Z:Type} (S:da Bool A X Y Z):Prop:=ua Tryz.prog tt ⟨Tryz.f55.ntmps,none,[]⟩ fr (ia Tryz.f55) F55 S
def ZI (a0 a1:Time):Tr Bool Empty Empty Empty Empty :=
 .l (.r (cond (cmp .leq a0.A a1.A) (cmp .leq a0.B a1.B) false))
def aJ:=fun a0 a1=>(ZI a0 a1).val
def bJ:=fun a0 a1=>(ZI a0 a1).ob
def FU:=fun a0 a1=>da.mk (aJ a0 a1) (bJ a0 a1) [] [(0,.agg true [.i a0.A,.i a0.B]),(1,.agg true [.i a1.A,.i a1.B])] Tac nE nE nE nE
theorem Vac (G:Good Tryz.prog tt EU) {fr:Fr}:∀ a0 a1,Uac fr (FU a0 a1) :=
 fun a0 a1=>fa G [] trivial [(0,[2,3]),(1,[4])] [] [] (ZI a0 a1) rfl rfl (by kernel_rfl)
def cJ (a0:Time) (a1:Time):Bool:=ocR (aJ a0 a1)
def dJ (a0:Time) (a1:Time):Prop:=bJ a0 a1
def fJ:Spec:=⟨[(.st .time),(.st .time)],.one .fr .bool,false,fun x=>(cJ x.1 x.2.1,0),fun x=>dJ x.1 x.2.1⟩
theorem Wac (G:Good Tryz.prog tt EU):Con Tryz.prog 55 fJ :=
 Ca (pts:=[(.st .time),(.st .time)]) (rt:=.one .fr .bool) (o:=fun x=>aJ x.1 x.2.1) (ob:=fun x=>bJ x.1 x.2.1) G (fn:=Tryz.f55) (c:=ia Tryz.f55) (by kernel_rfl) (by kernel_rfl) (by kernel_rfl) (rs:=[.tmp 4]) (fz:=F55.fz) (by kernel_rfl) (by kernel_rfl) (fun _=>rfl) rfl (fun x=>FU x.1 x.2.1) (fun _=>⟨rfl,rfl,rfl,rfl,rfl⟩) (fun x _=>Vac G x.1 x.2.1)
def nk:SP:=[(55,fJ),(79,kF)]
abbrev F50:Fnn:=⟨[.tmp 4],.one .fr (.lst .item),none,[]⟩
abbrev wA:LI→RV:=fun q=>(some (RT.av (.one .fr (.lst .item)) q),.dead)
abbrev Po (fr:Fr) {A X Y Z:Type} (S:da LI A X Y Z):Prop:=ua Tryz.prog tt ⟨Tryz.f50.ntmps,none,[]⟩ fr (ia Tryz.f50) F50 S
def xA (x22:Time) (x23:LI) (x24:LR) (_x25 x26:Int):Tr LI LI Empty Empty Empty :=
 .w [inb x26 (aa .row x24)] (.w [(dJ (rd .row x24 x26).At x22)] (.c (cJ (rd .row x24 x26).At x22)
 (.w [lim (aa .item x23) (aa .item [(Item.mk (rd .row x24 x26).Key (rd .row x24 x26).Val (rd .row x24 x26).Diff)])] (.l (.n (x23++[(Item.mk (rd .row x24 x26).Key (rd .row x24 x26).Val (rd .row x24 x26).Diff)]))))
 (.l (.n x23))))
def GU:=fun x22 x23 x24 x25 x26=>(xA x22 x23 x24 x25 x26).val
def IU:=fun x22 x23 x24 x25 x26=>(xA x22 x23 x24 x25 x26).ob
def yA:=fun x22 x23 x24 x25 x26=>da.mk (GU x22 x23 x24 x25 x26) (IU x22 x23 x24 x25 x26) [0,1,1,0,0,1,0,1,1] [(3,.box [(.fr,.i x22.A),(.fr,.i x22.B)]),(5,.A .item x23),(9,.S .row x24),(10,.I x25),(11,.I x26)] wA (fun q=>[(3,.box [(.fr,.i x22.A),(.fr,.i x22.B)]),(5,.A .item q),(9,.S .row x24),(10,.I x25),(11,.I x26)]) nE nE nE
theorem Xac (G:Good Tryz.prog tt nk) {fr:Fr}:∀ x22 x23 x24 x25 x26,Po fr (yA x22 x23 x24 x25 x26) :=
 fun x22 x23 x24 x25 x26=>fa G [] trivial [(4,[3,5,7,9,10,11]),(5,[3,5,7,9,10,11,18]),(6,[3,5,9,10,11])] [] [] (xA x22 x23 x24 x25 x26) rfl rfl (by kernel_rfl)
def Qo (x3:Time) (x4:LR) (x5:Int) (s19:LI) (s20:Int):Tr LI (LI×Int) LI Empty Empty :=
 .c (cmp .lss s20 x5)
 (.s (yA x3 s19 x4 x5 s20) (fun q30=>.l (.n (q30,(ar .add .i64 s20 1)))) nE nE nE)
 (.l (.x s19))
def qk:=fun x3 x4 x5 s19 s20=>(Qo x3 x4 x5 s19 s20).val
def Ro:=fun x3 x4 x5 s19 s20=>(Qo x3 x4 x5 s19 s20).ob
def gJ:=fun x3 x4 x5 s19 s20=>Na (qk x3 x4 x5 s19 s20) (Ro x3 x4 x5 s19 s20) [0,0,1,0,1,1] (fun q=>[(3,.box [(.fr,.i x3.A),(.fr,.i x3.B)]),(5,.A .item q.1),(9,.S .row x4),(10,.I x5),(11,.I q.2)]) (s19,s20) wA (fun q=>(0,[(5,.A .item q)])) nE nE
theorem Yac (G:Good Tryz.prog tt nk) {fr:Fr}:∀ x3 x4 x5 s19 s20,Po fr (gJ x3 x4 x5 s19 s20) :=
 fun x3 x4 x5 s19 s20=>fa G [([0,1,1,0,0,1,0,1,1],fun e=>⟨yA (Id e 3) (gL .item e 5 0) (gL .row e 9 0) (gI e 10 0) (gI e 11 0)⟩)] ⟨fun _=>⟨rfl,Xac G _ _ _ _ _⟩,trivial⟩ [(3,[3,5,9,10,11,12]),(7,[3,5,9,10,11])] [] [] (Qo x3 x4 x5 s19 s20) rfl rfl (by kernel_rfl)
def JU:=fun x3 x4 x5=>lpV (fun s:LI×Int=>ca (qk x3 x4 x5 s.1 s.2)) ([],0)
def LU:=fun x3 x4 x5=>LpT (fun s:LI×Int=>ca (qk x3 x4 x5 s.1 s.2)) (fun s=>Ro x3 x4 x5 s.1 s.2) ([],0)
def zA:=fun x3 x4 x5=>lpS (gJ x3 x4 x5 [] 0) (JU x3 x4 x5) (LU x3 x4 x5)
theorem Zac (G:Good Tryz.prog tt nk) {fr:Fr}:∀ x3 x4 x5,Po fr (zA x3 x4 x5) :=
 fun x3 x4 x5=>Oa (fun s:LI×Int=>gJ x3 x4 x5 s.1 s.2) ([],0) (fun _=>rfl) (fun _=>⟨rfl,rfl,rfl,rfl,rfl⟩) (by kernel_rfl) fun _=>Yac G _ _ _ _ _
def AA (x1:LR) (x2:Time):Tr LI LI Empty Empty Empty :=
 .s (zA x2 x1 (aa .row x1)) nE (fun q41=>.l (.n q41)) nE nE
def MU:=fun x1 x2=>(AA x1 x2).val
def NU:=fun x1 x2=>(AA x1 x2).ob
def BA:=fun x1 x2=>da.mk (MU x1 x2) (NU x1 x2) [0,1,1] [(0,.S .row x1),(3,.box [(.fr,.i x2.A),(.fr,.i x2.B)]),(5,.A .item [])] wA (fun q=>[(5,.A .item q)]) nE nE nE
theorem aad (G:Good Tryz.prog tt nk) {fr:Fr}:∀ x1 x2,Po fr (BA x1 x2) :=
 fun x1 x2=>fa G [([0,1,0,1,1],fun e=>⟨zA (Id e 3) (gL .row e 9 0) (gI e 10 0)⟩)] ⟨fun _=>⟨rfl,Zac G _ _ _⟩,trivial⟩ [(2,[3,5,9,10,11])] [] [] (AA x1 x2) rfl rfl (by kernel_rfl)
def CA (a0:LR) (a1:Time):Tr LI Empty Empty Empty Empty :=
 .s (BA a0 a1) (fun q44=>.w [(Dl q44)] (.l (.r (nr q44)))) nE nE nE
def DA:=fun a0 a1=>(CA a0 a1).val
def FA:=fun a0 a1=>(CA a0 a1).ob
def PU:=fun a0 a1=>da.mk (DA a0 a1) (FA a0 a1) [] [(0,.S .row a0),(1,.agg true [.i a1.A,.i a1.B])] wA nE nE nE nE
theorem cad (G:Good Tryz.prog tt nk) {fr:Fr}:∀ a0 a1,Po fr (PU a0 a1) :=
 fun a0 a1=>fa G [([0,1,1],fun e=>⟨BA (gL .row e 0 0) (Id e 3)⟩)] ⟨fun _=>⟨rfl,aad G _ _⟩,trivial⟩ [(0,[0,3]),(1,[0,3,5]),(8,[4])] [] [] (CA a0 a1) rfl rfl (by kernel_rfl)
def So (a0:LR) (a1:Time):LI:=ocR (DA a0 a1)
def To (a0:LR) (a1:Time):Prop:=FA a0 a1
def iJ:Spec:=⟨[(.lst .row),(.st .time)],.one .fr (.lst .item),false,fun x=>(So x.1 x.2.1,0),fun x=>To x.1 x.2.1⟩
theorem dad (G:Good Tryz.prog tt nk):Con Tryz.prog 50 iJ :=
 Ca (pts:=[(.lst .row),(.st .time)]) (rt:=.one .fr (.lst .item)) (o:=fun x=>DA x.1 x.2.1) (ob:=fun x=>FA x.1 x.2.1) G (fn:=Tryz.f50) (c:=ia Tryz.f50) (by kernel_rfl) (by kernel_rfl) (by kernel_rfl) (rs:=[.tmp 4]) (fz:=F50.fz) (by kernel_rfl) (by kernel_rfl) (fun _=>rfl) rfl (fun x=>PU x.1 x.2.1) (fun _=>⟨rfl,rfl,rfl,rfl,rfl⟩) (fun x _=>cad G x.1 x.2.1)
def Df:SP:=[]
abbrev QU:Fnn:=⟨[.tmp 2],.one (.acc true) (.lst .item),none,[]⟩
abbrev ii:LI→RV:=fun q=>(some (RT.av (.one (.acc true) (.lst .item)) q),.dead)
abbrev kg (fr:Fr) {A X Y Z:Type} (S:da LI A X Y Z):Prop:=ua Tryz.prog tt ⟨Tryz.f105.ntmps,none,[]⟩ fr (ia Tryz.f105) QU S
def GA (x83 _x84:LI) (x85 x86 _x87 x88:Int):Tr LI Int Empty Empty Empty :=
 .w [inb x88 (aa .item x83)] (.c (cmp .eql (rd .item x83 x88).Key x85)
 (.l (.n (ar .add .i64 x86 (rd .item x83 x88).Count)))
 (.l (.n x86)))
def RU:=fun x83 x84 x85 x86 x87 x88=>(GA x83 x84 x85 x86 x87 x88).val
def SU:=fun x83 x84 x85 x86 x87 x88=>(GA x83 x84 x85 x86 x87 x88).ob
def HA:=fun x83 x84 x85 x86 x87 x88=>da.mk (RU x83 x84 x85 x86 x87 x88) (SU x83 x84 x85 x86 x87 x88) [0,1,1,0,0,1,0,1,0,0,1,0,0,1,0,1,1] [(0,.S .item x83),(3,.A .item x84),(4,.I x85),(5,.I x86),(13,.S .item x83),(14,.I x87),(15,.I x88)] ii (fun q=>[(0,.S .item x83),(3,.A .item x84),(4,.I x85),(5,.I q),(13,.S .item x83),(14,.I x87),(15,.I x88)]) nE nE nE
theorem ead (G:Good Tryz.prog tt Df) {fr:Fr}:∀ x83 x84 x85 x86 x87 x88,kg fr (HA x83 x84 x85 x86 x87 x88) :=
 fun x83 x84 x85 x86 x87 x88=>fa G [] trivial [(8,[0,3,4,5,7,13,14,15]),(9,[0,3,4,5,7,13,14,15,22]),(10,[0,3,4,5,13,14,15])] [] [] (GA x83 x84 x85 x86 x87 x88) rfl rfl (by kernel_rfl)
def Uo (x63 x64:LI) (x65 x66 s80 s81:Int):Tr LI (Int×Int) Int Empty Empty :=
 .c (cmp .lss s81 x66)
 (.s (HA x63 x64 x65 s80 x66 s81) (fun q91=>.l (.n (q91,(ar .add .i64 s81 1)))) nE nE nE)
 (.l (.x s80))
def rk:=fun x63 x64 x65 x66 s80 s81=>(Uo x63 x64 x65 x66 s80 s81).val
def Vo:=fun x63 x64 x65 x66 s80 s81=>(Uo x63 x64 x65 x66 s80 s81).ob
def jJ:=fun x63 x64 x65 x66 s80 s81=>Na (rk x63 x64 x65 x66 s80 s81) (Vo x63 x64 x65 x66 s80 s81) [0,0,1,0,1,0,0,1,0,0,1,0,1,1] (fun q=>[(0,.S .item x63),(3,.A .item x64),(4,.I x65),(5,.I q.1),(13,.S .item x63),(14,.I x66),(15,.I q.2)]) (s80,s81) ii (fun q=>(2,[(0,.S .item x63),(3,.A .item x64),(4,.I x65),(5,.I q)])) nE nE
theorem fad (G:Good Tryz.prog tt Df) {fr:Fr}:∀ x63 x64 x65 x66 s80 s81,kg fr (jJ x63 x64 x65 x66 s80 s81) :=
 fun x63 x64 x65 x66 s80 s81=>fa G [([0,1,1,0,0,1,0,1,0,0,1,0,0,1,0,1,1],fun e=>⟨HA (gL .item e 0 0) (gL .item e 3 0) (gI e 4 0) (gI e 5 0) (gI e 14 0) (gI e 15 0)⟩)] ⟨fun _=>⟨rfl,ead G _ _ _ _ _ _⟩,trivial⟩ [(7,[0,3,4,5,13,14,15,16]),(11,[0,3,4,5,13,14,15])] [] [] (Uo x63 x64 x65 x66 s80 s81) rfl rfl (by kernel_rfl)
def UU:=fun x63 x64 x65 x66=>lpV (fun s:Int×Int=>ca (rk x63 x64 x65 x66 s.1 s.2)) (0,0)
def VU:=fun x63 x64 x65 x66=>LpT (fun s:Int×Int=>ca (rk x63 x64 x65 x66 s.1 s.2)) (fun s=>Vo x63 x64 x65 x66 s.1 s.2) (0,0)
def IA:=fun x63 x64 x65 x66=>lpS (jJ x63 x64 x65 x66 0 0) (UU x63 x64 x65 x66) (VU x63 x64 x65 x66)
theorem gad (G:Good Tryz.prog tt Df) {fr:Fr}:∀ x63 x64 x65 x66,kg fr (IA x63 x64 x65 x66) :=
 fun x63 x64 x65 x66=>Oa (fun s:Int×Int=>jJ x63 x64 x65 x66 s.1 s.2) (0,0) (fun _=>rfl) (fun _=>⟨rfl,rfl,rfl,rfl,rfl⟩) (by kernel_rfl) fun _=>fad G _ _ _ _ _ _
def JA (x60 x61:LI) (x62:Int):Tr LI Int Empty Empty Empty :=
 .s (IA x60 x61 x62 (aa .item x60)) nE (fun q102=>.l (.n q102)) nE nE
def WU:=fun x60 x61 x62=>(JA x60 x61 x62).val
def XU:=fun x60 x61 x62=>(JA x60 x61 x62).ob
def LA:=fun x60 x61 x62=>da.mk (WU x60 x61 x62) (XU x60 x61 x62) [0,1,0,0,1,0,0,1,0,1,1] [(0,.S .item x60),(3,.A .item x61),(4,.I x62),(5,.I 0)] ii (fun q=>[(0,.S .item x60),(3,.A .item x61),(4,.I x62),(5,.I q)]) nE nE nE
theorem iad (G:Good Tryz.prog tt Df) {fr:Fr}:∀ x60 x61 x62,kg fr (LA x60 x61 x62) :=
 fun x60 x61 x62=>fa G [([0,1,0,1,0,0,1,0,0,1,0,1,1],fun e=>⟨IA (gL .item e 0 0) (gL .item e 3 0) (gI e 4 0) (gI e 14 0)⟩)] ⟨fun _=>⟨rfl,gad G _ _ _ _⟩,trivial⟩ [(6,[0,3,4,5,13,14,15])] [] [] (JA x60 x61 x62) rfl rfl (by kernel_rfl)
def PA (x57 x58:LI) (x59:Int):Tr LI LI Empty Empty Empty :=
 .s (LA x57 x58 x59) (fun q105=>.c (cmp .neq q105 0)
 (.w [(100:Int)≠0,(100:Int)≠0,lim (aa .item x58) (aa .item [(Item.mk x59 (ar .rem .i64 (ar .add .i64 (ar .rem .i64 q105 100) 100) 100) 1)])] (.l (.n (x58++[(Item.mk x59 (ar .rem .i64 (ar .add .i64 (ar .rem .i64 q105 100) 100) 100) 1)]))))
 (.l (.n x58))) nE nE nE
def YU:=fun x57 x58 x59=>(PA x57 x58 x59).val
def ZU:=fun x57 x58 x59=>(PA x57 x58 x59).ob
def QA:=fun x57 x58 x59=>da.mk (YU x57 x58 x59) (ZU x57 x58 x59) [0,1,0,0,1,0,1,1] [(0,.S .item x57),(3,.A .item x58),(4,.I x59)] ii (fun q=>[(0,.S .item x57),(3,.A .item q),(4,.I x59)]) nE nE nE
theorem jad (G:Good Tryz.prog tt Df) {fr:Fr}:∀ x57 x58 x59,kg fr (QA x57 x58 x59) :=
 fun x57 x58 x59=>fa G [([0,1,0,0,1,0,0,1,0,1,1],fun e=>⟨LA (gL .item e 0 0) (gL .item e 3 0) (gI e 4 0)⟩)] ⟨fun _=>⟨rfl,iad G _ _ _⟩,trivial⟩ [(5,[0,3,4,5]),(12,[0,3,4,5,29]),(13,[0,3,4])] [] [] (PA x57 x58 x59) rfl rfl (by kernel_rfl)
def Wo (x2 s54:LI) (s55:Int):Tr LI (LI×Int) LI Empty Empty :=
 .c (cmp .lss s55 4)
 (.s (QA x2 s54 s55) (fun q111=>.l (.n (q111,(ar .add .i64 s55 1)))) nE nE nE)
 (.l (.x s54))
def sk:=fun x2 s54 s55=>(Wo x2 s54 s55).val
def Xo:=fun x2 s54 s55=>(Wo x2 s54 s55).ob
def kJ:=fun x2 s54 s55=>Na (sk x2 s54 s55) (Xo x2 s54 s55) [0,0,1,0,1,1] (fun q=>[(0,.S .item x2),(3,.A .item q.1),(4,.I q.2)]) (s54,s55) ii (fun q=>(0,[(3,.A .item q)])) nE nE
theorem kad (G:Good Tryz.prog tt Df) {fr:Fr}:∀ x2 s54 s55,kg fr (kJ x2 s54 s55) :=
 fun x2 s54 s55=>fa G [([0,1,0,0,1,0,1,1],fun e=>⟨QA (gL .item e 0 0) (gL .item e 3 0) (gI e 4 0)⟩)] ⟨fun _=>⟨rfl,jad G _ _ _⟩,trivial⟩ [(3,[0,3,4,10]),(4,[0,3,4])] [] [] (Wo x2 s54 s55) rfl rfl (by kernel_rfl)
def aV:=fun x2=>lpV (fun s:LI×Int=>ca (sk x2 s.1 s.2)) ([],0)
def bV:=fun x2=>LpT (fun s:LI×Int=>ca (sk x2 s.1 s.2)) (fun s=>Xo x2 s.1 s.2) ([],0)
def RA:=fun x2=>lpS (kJ x2 [] 0) (aV x2) (bV x2)
theorem lad (G:Good Tryz.prog tt Df) {fr:Fr}:∀ x2,kg fr (RA x2) :=
 fun x2=>Oa (fun s:LI×Int=>kJ x2 s.1 s.2) ([],0) (fun _=>rfl) (fun _=>⟨rfl,rfl,rfl,rfl,rfl⟩) (by kernel_rfl) fun _=>kad G _ _ _
def SA (x1:LI):Tr LI LI Empty Empty Empty :=
 .s (RA x1) nE (fun q122=>.l (.n q122)) nE nE
def cV:=fun x1=>(SA x1).val
def dV:=fun x1=>(SA x1).ob
def TA:=fun x1=>da.mk (cV x1) (dV x1) [0,1,1] [(0,.S .item x1),(3,.A .item [])] ii (fun q=>[(3,.A .item q)]) nE nE nE
theorem mad (G:Good Tryz.prog tt Df) {fr:Fr}:∀ x1,kg fr (TA x1) :=
 fun x1=>fa G [([0,1,0,1,1],fun e=>⟨RA (gL .item e 0 0)⟩)] ⟨fun _=>⟨rfl,lad G _⟩,trivial⟩ [(2,[0,3,4])] [] [] (SA x1) rfl rfl (by kernel_rfl)
def UA (a0:LI):Tr LI Empty Empty Empty Empty :=
 .s (TA a0) (fun q125=>.l (.r q125)) nE nE nE
def VA:=fun a0=>(UA a0).val
def WA:=fun a0=>(UA a0).ob
def eV:=fun a0=>da.mk (VA a0) (WA a0) [] [(0,.S .item a0)] ii nE nE nE nE
theorem nad (G:Good Tryz.prog tt Df) {fr:Fr}:∀ a0,kg fr (eV a0) :=
 fun a0=>fa G [([0,1,1],fun e=>⟨TA (gL .item e 0 0)⟩)] ⟨fun _=>⟨rfl,mad G _⟩,trivial⟩ [(0,[0]),(1,[0,3]),(14,[2])] [] [] (UA a0) rfl rfl (by kernel_rfl)
def XA (a0:LI):LI:=ocR (VA a0)
def YA (a0:LI):Prop:=WA a0
def lJ:Spec:=⟨[(.lst .item)],.one (.acc true) (.lst .item),false,fun x=>(XA x.1,0),fun x=>YA x.1⟩
theorem oad (G:Good Tryz.prog tt Df):Con Tryz.prog 105 lJ :=
 Ca (pts:=[(.lst .item)]) (rt:=.one (.acc true) (.lst .item)) (o:=fun x=>VA x.1) (ob:=fun x=>WA x.1) G (fn:=Tryz.f105) (c:=ia Tryz.f105) (by kernel_rfl) (by kernel_rfl) (by kernel_rfl) (rs:=[.tmp 2]) (fz:=QU.fz) (by kernel_rfl) (by kernel_rfl) (fun _=>rfl) rfl (fun x=>eV x.1) (fun _=>⟨rfl,rfl,rfl,rfl,rfl⟩) (fun x _=>nad G x.1)
def tk:SP:=[]
abbrev fV:Fnn:=⟨[.tmp 2],.one (.acc true) (.lst .item),none,[]⟩
abbrev ZA:LI→RV:=fun q=>(some (RT.av (.one (.acc true) (.lst .item)) q),.dead)
abbrev Yo (fr:Fr) {A X Y Z:Type} (S:da LI A X Y Z):Prop:=ua Tryz.prog tt ⟨Tryz.f106.ntmps,none,[]⟩ fr (ia Tryz.f106) fV S
def aB (x18 x19:LI) (_x20 x21:Int):Tr LI LI Empty Empty Empty :=
 .w [inb x21 (aa .item x19)] (.c (cmp .gtr (rd .item x19 x21).Count 0)
 (.w [lim (aa .item x18) (aa .item [(Item.mk (rd .item x19 x21).Key (rd .item x19 x21).Val 1)])] (.l (.n (x18++[(Item.mk (rd .item x19 x21).Key (rd .item x19 x21).Val 1)]))))
 (.l (.n x18)))
def gV:=fun x18 x19 x20 x21=>(aB x18 x19 x20 x21).val
def iV:=fun x18 x19 x20 x21=>(aB x18 x19 x20 x21).ob
def Zo:=fun x18 x19 x20 x21=>da.mk (gV x18 x19 x20 x21) (iV x18 x19 x20 x21) [0,1,1,0,0,1,0,1,1] [(3,.A .item x18),(7,.S .item x19),(8,.I x20),(9,.I x21)] ZA (fun q=>[(3,.A .item q),(7,.S .item x19),(8,.I x20),(9,.I x21)]) nE nE nE
theorem pad (G:Good Tryz.prog tt tk) {fr:Fr}:∀ x18 x19 x20 x21,Yo fr (Zo x18 x19 x20 x21) :=
 fun x18 x19 x20 x21=>fa G [] trivial [(4,[3,5,7,8,9]),(5,[3,5,7,8,9,15]),(6,[3,7,8,9])] [] [] (aB x18 x19 x20 x21) rfl rfl (by kernel_rfl)
def cp (x2:LI) (x3:Int) (s15:LI) (s16:Int):Tr LI (LI×Int) LI Empty Empty :=
 .c (cmp .lss s16 x3)
 (.s (Zo s15 x2 x3 s16) (fun q24=>.l (.n (q24,(ar .add .i64 s16 1)))) nE nE nE)
 (.l (.x s15))
def uk:=fun x2 x3 s15 s16=>(cp x2 x3 s15 s16).val
def dp:=fun x2 x3 s15 s16=>(cp x2 x3 s15 s16).ob
def mJ:=fun x2 x3 s15 s16=>Na (uk x2 x3 s15 s16) (dp x2 x3 s15 s16) [0,0,1,0,1,1] (fun q=>[(3,.A .item q.1),(7,.S .item x2),(8,.I x3),(9,.I q.2)]) (s15,s16) ZA (fun q=>(0,[(3,.A .item q)])) nE nE
theorem qad (G:Good Tryz.prog tt tk) {fr:Fr}:∀ x2 x3 s15 s16,Yo fr (mJ x2 x3 s15 s16) :=
 fun x2 x3 s15 s16=>fa G [([0,1,1,0,0,1,0,1,1],fun e=>⟨Zo (gL .item e 3 0) (gL .item e 7 0) (gI e 8 0) (gI e 9 0)⟩)] ⟨fun _=>⟨rfl,pad G _ _ _ _⟩,trivial⟩ [(3,[3,7,8,9,10]),(7,[3,7,8,9])] [] [] (cp x2 x3 s15 s16) rfl rfl (by kernel_rfl)
def jV:=fun x2 x3=>lpV (fun s:LI×Int=>ca (uk x2 x3 s.1 s.2)) ([],0)
def kV:=fun x2 x3=>LpT (fun s:LI×Int=>ca (uk x2 x3 s.1 s.2)) (fun s=>dp x2 x3 s.1 s.2) ([],0)
def bB:=fun x2 x3=>lpS (mJ x2 x3 [] 0) (jV x2 x3) (kV x2 x3)
theorem rad (G:Good Tryz.prog tt tk) {fr:Fr}:∀ x2 x3,Yo fr (bB x2 x3) :=
 fun x2 x3=>Oa (fun s:LI×Int=>mJ x2 x3 s.1 s.2) ([],0) (fun _=>rfl) (fun _=>⟨rfl,rfl,rfl,rfl,rfl⟩) (by kernel_rfl) fun _=>qad G _ _ _ _
def cB (x1:LI):Tr LI LI Empty Empty Empty :=
 .s (bB x1 (aa .item x1)) nE (fun q35=>.l (.n q35)) nE nE
def lV:=fun x1=>(cB x1).val
def mV:=fun x1=>(cB x1).ob
def dB:=fun x1=>da.mk (lV x1) (mV x1) [0,1,1] [(0,.S .item x1),(3,.A .item [])] ZA (fun q=>[(3,.A .item q)]) nE nE nE
theorem sad (G:Good Tryz.prog tt tk) {fr:Fr}:∀ x1,Yo fr (dB x1) :=
 fun x1=>fa G [([0,1,0,1,1],fun e=>⟨bB (gL .item e 7 0) (gI e 8 0)⟩)] ⟨fun _=>⟨rfl,rad G _ _⟩,trivial⟩ [(2,[3,7,8,9])] [] [] (cB x1) rfl rfl (by kernel_rfl)
def eB (a0:LI):Tr LI Empty Empty Empty Empty :=
 .s (dB a0) (fun q38=>.l (.r q38)) nE nE nE
def fB:=fun a0=>(eB a0).val
def iB:=fun a0=>(eB a0).ob
def nV:=fun a0=>da.mk (fB a0) (iB a0) [] [(0,.S .item a0)] ZA nE nE nE nE
theorem tad (G:Good Tryz.prog tt tk) {fr:Fr}:∀ a0,Yo fr (nV a0) :=
 fun a0=>fa G [([0,1,1],fun e=>⟨dB (gL .item e 0 0)⟩)] ⟨fun _=>⟨rfl,sad G _⟩,trivial⟩ [(0,[0]),(1,[0,3]),(8,[2])] [] [] (eB a0) rfl rfl (by kernel_rfl)
def vk (a0:LI):LI:=ocR (fB a0)
def ep (a0:LI):Prop:=iB a0
def jB:Spec:=⟨[(.lst .item)],.one (.acc true) (.lst .item),false,fun x=>(vk x.1,0),fun x=>ep x.1⟩
theorem uad (G:Good Tryz.prog tt tk):Con Tryz.prog 106 jB :=
 Ca (pts:=[(.lst .item)]) (rt:=.one (.acc true) (.lst .item)) (o:=fun x=>fB x.1) (ob:=fun x=>iB x.1) G (fn:=Tryz.f106) (c:=ia Tryz.f106) (by kernel_rfl) (by kernel_rfl) (by kernel_rfl) (rs:=[.tmp 2]) (fz:=fV.fz) (by kernel_rfl) (by kernel_rfl) (fun _=>rfl) rfl (fun x=>nV x.1) (fun _=>⟨rfl,rfl,rfl,rfl,rfl⟩) (fun x _=>tad G x.1)
def wk:SP:=[(106,jB)]
abbrev oV:Fnn:=⟨[.tmp 2],.one (.acc true) (.lst .item),none,[]⟩
abbrev kB:LI→RV:=fun q=>(some (RT.av (.one (.acc true) (.lst .item)) q),.dead)
abbrev fp (fr:Fr) {A X Y Z:Type} (S:da LI A X Y Z):Prop:=ua Tryz.prog tt ⟨Tryz.f107.ntmps,none,[]⟩ fr (ia Tryz.f107) oV S
def lB (x19 x20:LI) (_x21 x22:Int):Tr LI LI Empty Empty Empty :=
 .w [inb x22 (aa .item x20)] (.w [(((!(cmp .eql (aa .item x19) 0))&&true)=true→inb (ar .sub .i64 (aa .item x19) 1) (aa .item x19))] (.c (cond (cmp .eql (aa .item x19) 0) true (cmp .neq (rd .item x19 (ar .sub .i64 (aa .item x19) 1)).Key (rd .item x20 x22).Key))
 (.w [lim (aa .item x19) (aa .item [(rd .item x20 x22)])] (.l (.n (x19++[(rd .item x20 x22)]))))
 (.l (.n x19))))
def pV:=fun x19 x20 x21 x22=>(lB x19 x20 x21 x22).val
def qV:=fun x19 x20 x21 x22=>(lB x19 x20 x21 x22).ob
def mB:=fun x19 x20 x21 x22=>da.mk (pV x19 x20 x21 x22) (qV x19 x20 x21 x22) [0,1,1,0,0,1,0,1,1] [(3,.A .item x19),(8,.A .item x20),(9,.I x21),(10,.I x22)] kB (fun q=>[(3,.A .item q),(8,.A .item x20),(9,.I x21),(10,.I x22)]) nE nE nE
theorem vad (G:Good Tryz.prog tt wk) {fr:Fr}:∀ x19 x20 x21 x22,fp fr (mB x19 x20 x21 x22) :=
 fun x19 x20 x21 x22=>fa G [] trivial [(4,[3,5,8,9,10]),(5,[3,5,8,9,10,28]),(6,[3,8,9,10])] [] [] (lB x19 x20 x21 x22) rfl rfl (by kernel_rfl)
def gp (x3:LI) (x4:Int) (s16:LI) (s17:Int):Tr LI (LI×Int) LI Empty Empty :=
 .c (cmp .lss s17 x4)
 (.s (mB s16 x3 x4 s17) (fun q25=>.l (.n (q25,(ar .add .i64 s17 1)))) nE nE nE)
 (.l (.x s16))
def xk:=fun x3 x4 s16 s17=>(gp x3 x4 s16 s17).val
def ip:=fun x3 x4 s16 s17=>(gp x3 x4 s16 s17).ob
def nJ:=fun x3 x4 s16 s17=>Na (xk x3 x4 s16 s17) (ip x3 x4 s16 s17) [0,0,1,0,1,1] (fun q=>[(3,.A .item q.1),(8,.A .item x3),(9,.I x4),(10,.I q.2)]) (s16,s17) kB (fun q=>(0,[(3,.A .item q)])) nE nE
theorem wad (G:Good Tryz.prog tt wk) {fr:Fr}:∀ x3 x4 s16 s17,fp fr (nJ x3 x4 s16 s17) :=
 fun x3 x4 s16 s17=>fa G [([0,1,1,0,0,1,0,1,1],fun e=>⟨mB (gL .item e 3 0) (gL .item e 8 0) (gI e 9 0) (gI e 10 0)⟩)] ⟨fun _=>⟨rfl,vad G _ _ _ _⟩,trivial⟩ [(3,[3,8,9,10,11]),(7,[3,8,9,10])] [] [] (gp x3 x4 s16 s17) rfl rfl (by kernel_rfl)
def rV:=fun x3 x4=>lpV (fun s:LI×Int=>ca (xk x3 x4 s.1 s.2)) ([],0)
def sV:=fun x3 x4=>LpT (fun s:LI×Int=>ca (xk x3 x4 s.1 s.2)) (fun s=>ip x3 x4 s.1 s.2) ([],0)
def nB:=fun x3 x4=>lpS (nJ x3 x4 [] 0) (rV x3 x4) (sV x3 x4)
theorem xad (G:Good Tryz.prog tt wk) {fr:Fr}:∀ x3 x4,fp fr (nB x3 x4) :=
 fun x3 x4=>Oa (fun s:LI×Int=>nJ x3 x4 s.1 s.2) ([],0) (fun _=>rfl) (fun _=>⟨rfl,rfl,rfl,rfl,rfl⟩) (by kernel_rfl) fun _=>wad G _ _ _ _
def oB (x1:LI):Tr LI LI Empty Empty Empty :=
 .w [(ep x1)] (.s (nB (vk x1) (aa .item (vk x1))) nE (fun q36=>.l (.n q36)) nE nE)
def tV:=fun x1=>(oB x1).val
def uV:=fun x1=>(oB x1).ob
def pB:=fun x1=>da.mk (tV x1) (uV x1) [0,1,1] [(0,.S .item x1),(3,.A .item [])] kB (fun q=>[(3,.A .item q)]) nE nE nE
theorem yad (G:Good Tryz.prog tt wk) {fr:Fr}:∀ x1,fp fr (pB x1) :=
 fun x1=>fa G [([0,1,0,1,1],fun e=>⟨nB (gL .item e 8 0) (gI e 9 0)⟩)] ⟨fun _=>⟨rfl,xad G _ _⟩,trivial⟩ [(2,[3,8,9,10])] [] [] (oB x1) rfl rfl (by kernel_rfl)
def qB (a0:LI):Tr LI Empty Empty Empty Empty :=
 .s (pB a0) (fun q39=>.l (.r q39)) nE nE nE
def rB:=fun a0=>(qB a0).val
def sB:=fun a0=>(qB a0).ob
def vV:=fun a0=>da.mk (rB a0) (sB a0) [] [(0,.S .item a0)] kB nE nE nE nE
theorem zad (G:Good Tryz.prog tt wk) {fr:Fr}:∀ a0,fp fr (vV a0) :=
 fun a0=>fa G [([0,1,1],fun e=>⟨pB (gL .item e 0 0)⟩)] ⟨fun _=>⟨rfl,yad G _⟩,trivial⟩ [(0,[0]),(1,[0,3]),(8,[2])] [] [] (qB a0) rfl rfl (by kernel_rfl)
def tB (a0:LI):LI:=ocR (rB a0)
def uB (a0:LI):Prop:=sB a0
def oJ:Spec:=⟨[(.lst .item)],.one (.acc true) (.lst .item),false,fun x=>(tB x.1,0),fun x=>uB x.1⟩
theorem Aad (G:Good Tryz.prog tt wk):Con Tryz.prog 107 oJ :=
 Ca (pts:=[(.lst .item)]) (rt:=.one (.acc true) (.lst .item)) (o:=fun x=>rB x.1) (ob:=fun x=>sB x.1) G (fn:=Tryz.f107) (c:=ia Tryz.f107) (by kernel_rfl) (by kernel_rfl) (by kernel_rfl) (rs:=[.tmp 2]) (fz:=oV.fz) (by kernel_rfl) (by kernel_rfl) (fun _=>rfl) rfl (fun x=>vV x.1) (fun _=>⟨rfl,rfl,rfl,rfl,rfl⟩) (fun x _=>zad G x.1)
def wV:SP:=[(105,lJ),(106,jB),(107,oJ)]
abbrev F85:Fnn:=⟨[.tmp 4],.one (.acc true) (.lst .item),none,[]⟩
abbrev Bad:LI→RV:=fun q=>(some (RT.av (.one (.acc true) (.lst .item)) q),.dead)
abbrev Cad (fr:Fr) {A X Y Z:Type} (S:da LI A X Y Z):Prop:=ua Tryz.prog tt ⟨Tryz.f85.ntmps,none,[]⟩ fr (ia Tryz.f85) F85 S
def vB (a0:LI) (a1:Int):Tr LI Empty Empty Empty Empty :=
 .c (cmp .eql a1 1)
 (.w [(YA a0)] (.l (.r (XA a0))))
 (.c (cmp .eql a1 2)
 (.w [(ep a0)] (.l (.r (vk a0))))
 (.w [(uB a0)] (.l (.r (tB a0)))))
def wB:=fun a0 a1=>(vB a0 a1).val
def xB:=fun a0 a1=>(vB a0 a1).ob
def xV:=fun a0 a1=>da.mk (wB a0 a1) (xB a0 a1) [] [(0,.S .item a0),(1,.I a1)] Bad nE nE nE nE
theorem Dad (G:Good Tryz.prog tt wV) {fr:Fr}:∀ a0 a1,Cad fr (xV a0 a1) :=
 fun a0 a1=>fa G [] trivial [(0,[0,1]),(1,[0,5]),(2,[0,5,6]),(3,[4]),(4,[0,10]),(5,[4]),(6,[4])] [] [] (vB a0 a1) rfl rfl (by kernel_rfl)
def yB (a0:LI) (a1:Int):LI:=ocR (wB a0 a1)
def zB (a0:LI) (a1:Int):Prop:=xB a0 a1
def pJ:Spec:=⟨[(.lst .item),(.int .i64)],.one (.acc true) (.lst .item),false,fun x=>(yB x.1 x.2.1,0),fun x=>zB x.1 x.2.1⟩
theorem Ead (G:Good Tryz.prog tt wV):Con Tryz.prog 85 pJ :=
 Ca (pts:=[(.lst .item),(.int .i64)]) (rt:=.one (.acc true) (.lst .item)) (o:=fun x=>wB x.1 x.2.1) (ob:=fun x=>xB x.1 x.2.1) G (fn:=Tryz.f85) (c:=ia Tryz.f85) (by kernel_rfl) (by kernel_rfl) (by kernel_rfl) (rs:=[.tmp 4]) (fz:=F85.fz) (by kernel_rfl) (by kernel_rfl) (fun _=>rfl) rfl (fun x=>xV x.1 x.2.1) (fun _=>⟨rfl,rfl,rfl,rfl,rfl⟩) (fun x _=>Dad G x.1 x.2.1)
def Uc:SP:=[(100,LW),(50,iJ),(85,pJ),(79,kF),(47,Yj)]
abbrev F75:Fnn:=⟨[.tmp 4,.tmp 5],.tup [(false,(.lst .row)),(true,.bool)],none,[]⟩
abbrev oe:LR×Bool×Unit→RV:=fun q=>(some (RT.av (.tup [(false,(.lst .row)),(true,.bool)]) q),.dead)
abbrev cd (fr:Fr) {A X Y Z:Type} (S:da (LR×Bool×Unit) A X Y Z):Prop:=ua Tryz.prog tt ⟨Tryz.f75.ntmps,none,[]⟩ fr (ia Tryz.f75) F75 S
def AB (x276:LR) (_x277:Int) (_x278:LR) (x279:Int) (x280:LR) (_x281 x282:Int):Tr (LR×Bool×Unit) LR Empty Empty Empty :=
 .w [inb x282 (aa .row x276)] (.c (cmp .eql (rd .row x276 x282).Key x279)
 (.w [lim (aa .row x280) (aa .row [(rd .row x276 x282)])] (.l (.n (x280++[(rd .row x276 x282)]))))
 (.l (.n x280)))
def yV:=fun x276 x277 x278 x279 x280 x281 x282=>(AB x276 x277 x278 x279 x280 x281 x282).val
def zV:=fun x276 x277 x278 x279 x280 x281 x282=>(AB x276 x277 x278 x279 x280 x281 x282).ob
def BB:=fun x276 x277 x278 x279 x280 x281 x282=>da.mk (yV x276 x277 x278 x279 x280 x281 x282) (zV x276 x277 x278 x279 x280 x281 x282) [0,1,1,0,0,1,0,1,0,0,1,0,0,1,0,1,1] [(0,.S .row x276),(1,.I x277),(6,.A .row x278),(7,.I x279),(8,.A .row x280),(25,.S .row x276),(26,.I x281),(27,.I x282)] oe (fun q=>[(0,.S .row x276),(1,.I x277),(6,.A .row x278),(7,.I x279),(8,.A .row q),(25,.S .row x276),(26,.I x281),(27,.I x282)]) nE nE nE
theorem Fad (G:Good Tryz.prog tt Uc) {fr:Fr}:∀ x276 x277 x278 x279 x280 x281 x282,cd fr (BB x276 x277 x278 x279 x280 x281 x282) :=
 fun x276 x277 x278 x279 x280 x281 x282=>fa G [] trivial [(8,[0,1,6,7,8,10,25,26,27]),(9,[0,1,6,7,8,10,25,26,27,34]),(10,[0,1,6,7,8,25,26,27])] [] [] (AB x276 x277 x278 x279 x280 x281 x282) rfl rfl (by kernel_rfl)
def jp (x254:LR) (x255:Int) (x256:LR) (x257 x258:Int) (s273:LR) (s274:Int):Tr (LR×Bool×Unit) (LR×Int) LR Empty Empty :=
 .c (cmp .lss s274 x258)
 (.s (BB x254 x255 x256 x257 s273 x258 s274) (fun q285=>.l (.n (q285,(ar .add .i64 s274 1)))) nE nE nE)
 (.l (.x s273))
def yk:=fun x254 x255 x256 x257 x258 s273 s274=>(jp x254 x255 x256 x257 x258 s273 s274).val
def lp:=fun x254 x255 x256 x257 x258 s273 s274=>(jp x254 x255 x256 x257 x258 s273 s274).ob
def qJ:=fun x254 x255 x256 x257 x258 s273 s274=>Na (yk x254 x255 x256 x257 x258 s273 s274) (lp x254 x255 x256 x257 x258 s273 s274) [0,0,1,0,1,0,0,1,0,0,1,0,1,1] (fun q=>[(0,.S .row x254),(1,.I x255),(6,.A .row x256),(7,.I x257),(8,.A .row q.1),(25,.S .row x254),(26,.I x258),(27,.I q.2)]) (s273,s274) oe (fun q=>(2,[(0,.S .row x254),(1,.I x255),(6,.A .row x256),(7,.I x257),(8,.A .row q)])) nE nE
theorem Gad (G:Good Tryz.prog tt Uc) {fr:Fr}:∀ x254 x255 x256 x257 x258 s273 s274,cd fr (qJ x254 x255 x256 x257 x258 s273 s274) :=
 fun x254 x255 x256 x257 x258 s273 s274=>fa G [([0,1,1,0,0,1,0,1,0,0,1,0,0,1,0,1,1],fun e=>⟨BB (gL .row e 0 0) (gI e 1 0) (gL .row e 6 0) (gI e 7 0) (gL .row e 8 0) (gI e 26 0) (gI e 27 0)⟩)] ⟨fun _=>⟨rfl,Fad G _ _ _ _ _ _ _⟩,trivial⟩ [(7,[0,1,6,7,8,25,26,27,28]),(11,[0,1,6,7,8,25,26,27])] [] [] (jp x254 x255 x256 x257 x258 s273 s274) rfl rfl (by kernel_rfl)
def BV:=fun x254 x255 x256 x257 x258=>lpV (fun s:LR×Int=>ca (yk x254 x255 x256 x257 x258 s.1 s.2)) ([],0)
def CV:=fun x254 x255 x256 x257 x258=>LpT (fun s:LR×Int=>ca (yk x254 x255 x256 x257 x258 s.1 s.2)) (fun s=>lp x254 x255 x256 x257 x258 s.1 s.2) ([],0)
def CB:=fun x254 x255 x256 x257 x258=>lpS (qJ x254 x255 x256 x257 x258 [] 0) (BV x254 x255 x256 x257 x258) (CV x254 x255 x256 x257 x258)
theorem Had (G:Good Tryz.prog tt Uc) {fr:Fr}:∀ x254 x255 x256 x257 x258,cd fr (CB x254 x255 x256 x257 x258) :=
 fun x254 x255 x256 x257 x258=>Oa (fun s:LR×Int=>qJ x254 x255 x256 x257 x258 s.1 s.2) ([],0) (fun _=>rfl) (fun _=>⟨rfl,rfl,rfl,rfl,rfl⟩) (by kernel_rfl) fun _=>Gad G _ _ _ _ _ _ _
def DB (x250:LR) (x251:Int) (x252:LR) (x253:Int):Tr (LR×Bool×Unit) LR Empty Empty Empty :=
 .s (CB x250 x251 x252 x253 (aa .row x250)) nE (fun q296=>.l (.n q296)) nE nE
def DV:=fun x250 x251 x252 x253=>(DB x250 x251 x252 x253).val
def EV:=fun x250 x251 x252 x253=>(DB x250 x251 x252 x253).ob
def FB:=fun x250 x251 x252 x253=>da.mk (DV x250 x251 x252 x253) (EV x250 x251 x252 x253) [0,1,0,0,1,0,0,1,0,1,1] [(0,.S .row x250),(1,.I x251),(6,.A .row x252),(7,.I x253),(8,.A .row [])] oe (fun q=>[(0,.S .row x250),(1,.I x251),(6,.A .row x252),(7,.I x253),(8,.A .row q)]) nE nE nE
theorem Iad (G:Good Tryz.prog tt Uc) {fr:Fr}:∀ x250 x251 x252 x253,cd fr (FB x250 x251 x252 x253) :=
 fun x250 x251 x252 x253=>fa G [([0,1,0,1,0,0,1,0,0,1,0,1,1],fun e=>⟨CB (gL .row e 0 0) (gI e 1 0) (gL .row e 6 0) (gI e 7 0) (gI e 26 0)⟩)] ⟨fun _=>⟨rfl,Had G _ _ _ _ _⟩,trivial⟩ [(6,[0,1,6,7,8,25,26,27])] [] [] (DB x250 x251 x252 x253) rfl rfl (by kernel_rfl)
def mp (_x424:LR) (_x425:Int) (_x426:LR) (_x427:Int) (_x428 _x429:LR) (_x430:Time) (_x431:LI) (_x432:List Time) (_x433 _x434:Int) (x435:LI) (x436:Int) (s440:LI) (s441:Int):Tr (LR×Bool×Unit) (LI×Int) LI Empty Empty :=
 .c (cmp .lss s441 x436)
 (.w [inb s441 (aa .item x435)] (.w [lim (aa .item s440) (aa .item [(Item.mk (rd .item x435 s441).Key (rd .item x435 s441).Val (IntKind.wrap .i64 (0 - (rd .item x435 s441).Count)))])] (.l (.n ((s440++[(Item.mk (rd .item x435 s441).Key (rd .item x435 s441).Val (IntKind.wrap .i64 (0 - (rd .item x435 s441).Count)))]),(ar .add .i64 s441 1))))))
 (.l (.x s440))
def zk:=fun x424 x425 x426 x427 x428 x429 x430 x431 x432 x433 x434 x435 x436 s440 s441=>(mp x424 x425 x426 x427 x428 x429 x430 x431 x432 x433 x434 x435 x436 s440 s441).val
def np:=fun x424 x425 x426 x427 x428 x429 x430 x431 x432 x433 x434 x435 x436 s440 s441=>(mp x424 x425 x426 x427 x428 x429 x430 x431 x432 x433 x434 x435 x436 s440 s441).ob
def rJ:=fun x424 x425 x426 x427 x428 x429 x430 x431 x432 x433 x434 x435 x436 s440 s441=>Na (zk x424 x425 x426 x427 x428 x429 x430 x431 x432 x433 x434 x435 x436 s440 s441) (np x424 x425 x426 x427 x428 x429 x430 x431 x432 x433 x434 x435 x436 s440 s441) [0,0,1,0,1,1,0,0,1,1,0,0,1,0,1,1,1,0,0,1,0,0,1,0,1,1] (fun q=>[(0,.S .row x424),(1,.I x425),(6,.A .row x426),(7,.I x427),(8,.A .row x428),(11,.A .row x429),(13,.box [(.fr,.i x430.A),(.fr,.i x430.B)]),(14,.A .item q.1),(43,.v .fr (.lst .time x432)),(44,.I x433),(45,.I x434),(56,.v .fr (.lst .item x435)),(57,.I x436),(58,.I q.2)]) (s440,s441) oe (fun q=>(6,[(0,.S .row x424),(1,.I x425),(6,.A .row x426),(7,.I x427),(8,.A .row x428),(11,.A .row x429),(13,.box [(.fr,.i x430.A),(.fr,.i x430.B)]),(14,.A .item q),(43,.v .fr (.lst .time x432)),(44,.I x433),(45,.I x434)])) nE nE
theorem Jad (G:Good Tryz.prog tt Uc) {fr:Fr}:∀ x424 x425 x426 x427 x428 x429 x430 x431 x432 x433 x434 x435 x436 s440 s441,cd fr (rJ x424 x425 x426 x427 x428 x429 x430 x431 x432 x433 x434 x435 x436 s440 s441) :=
 fun x424 x425 x426 x427 x428 x429 x430 x431 x432 x433 x434 x435 x436 s440 s441=>fa G [] trivial [(18,[0,1,6,7,8,11,13,14,43,44,45,56,57,58,59]),(19,[0,1,6,7,8,11,13,14,16,43,44,45,56,57,58]),(20,[0,1,6,7,8,11,13,14,43,44,45,56,57,58]),(21,[0,1,6,7,8,11,13,14,43,44,45,56,57,58])] [] [] (mp x424 x425 x426 x427 x428 x429 x430 x431 x432 x433 x434 x435 x436 s440 s441) rfl rfl (by kernel_rfl)
def FV:=fun x424 x425 x426 x427 x428 x429 x430 x431 x432 x433 x434 x435 x436=>lpV (fun s:LI×Int=>ca (zk x424 x425 x426 x427 x428 x429 x430 x431 x432 x433 x434 x435 x436 s.1 s.2)) (x431,0)
def GV:=fun x424 x425 x426 x427 x428 x429 x430 x431 x432 x433 x434 x435 x436=>LpT (fun s:LI×Int=>ca (zk x424 x425 x426 x427 x428 x429 x430 x431 x432 x433 x434 x435 x436 s.1 s.2)) (fun s=>np x424 x425 x426 x427 x428 x429 x430 x431 x432 x433 x434 x435 x436 s.1 s.2) (x431,0)
def GB:=fun x424 x425 x426 x427 x428 x429 x430 x431 x432 x433 x434 x435 x436=>lpS (rJ x424 x425 x426 x427 x428 x429 x430 x431 x432 x433 x434 x435 x436 x431 0) (FV x424 x425 x426 x427 x428 x429 x430 x431 x432 x433 x434 x435 x436) (GV x424 x425 x426 x427 x428 x429 x430 x431 x432 x433 x434 x435 x436)
theorem Kad (G:Good Tryz.prog tt Uc) {fr:Fr}:∀ x424 x425 x426 x427 x428 x429 x430 x431 x432 x433 x434 x435 x436,cd fr (GB x424 x425 x426 x427 x428 x429 x430 x431 x432 x433 x434 x435 x436) :=
 fun x424 x425 x426 x427 x428 x429 x430 x431 x432 x433 x434 x435 x436=>Oa (fun s:LI×Int=>rJ x424 x425 x426 x427 x428 x429 x430 x431 x432 x433 x434 x435 x436 s.1 s.2) (x431,0) (fun _=>rfl) (fun _=>⟨rfl,rfl,rfl,rfl,rfl⟩) (by kernel_rfl) fun _=>Jad G _ _ _ _ _ _ _ _ _ _ _ _ _ _ _
def HB (x412:LR) (x413:Int) (x414:LR) (x415:Int) (x416 x417:LR) (x418:Time) (x419:LI) (x420:List Time) (x421 x422:Int):Tr (LR×Bool×Unit) LI Empty Empty Empty :=
 .k (So x417 x418) fun u423=>.w [(To x417 x418)] (.s (GB x412 x413 x414 x415 x416 x417 x418 x419 x420 x421 x422 u423 (aa .item u423)) nE (fun q450=>.l (.n q450)) nE nE)
def HV:=fun x412 x413 x414 x415 x416 x417 x418 x419 x420 x421 x422=>(HB x412 x413 x414 x415 x416 x417 x418 x419 x420 x421 x422).val
def IV:=fun x412 x413 x414 x415 x416 x417 x418 x419 x420 x421 x422=>(HB x412 x413 x414 x415 x416 x417 x418 x419 x420 x421 x422).ob
def IB:=fun x412 x413 x414 x415 x416 x417 x418 x419 x420 x421 x422=>da.mk (HV x412 x413 x414 x415 x416 x417 x418 x419 x420 x421 x422) (IV x412 x413 x414 x415 x416 x417 x418 x419 x420 x421 x422) [0,1,1,0,0,1,1,0,0,1,0,1,1,1,0,0,1,0,0,1,0,1,1] [(0,.S .row x412),(1,.I x413),(6,.A .row x414),(7,.I x415),(8,.A .row x416),(11,.A .row x417),(13,.box [(.fr,.i x418.A),(.fr,.i x418.B)]),(14,.A .item x419),(43,.v .fr (.lst .time x420)),(44,.I x421),(45,.I x422)] oe (fun q=>[(0,.S .row x412),(1,.I x413),(6,.A .row x414),(7,.I x415),(8,.A .row x416),(11,.A .row x417),(13,.box [(.fr,.i x418.A),(.fr,.i x418.B)]),(14,.A .item q),(43,.v .fr (.lst .time x420)),(44,.I x421),(45,.I x422)]) nE nE nE
theorem Lad (G:Good Tryz.prog tt Uc) {fr:Fr}:∀ x412 x413 x414 x415 x416 x417 x418 x419 x420 x421 x422,cd fr (IB x412 x413 x414 x415 x416 x417 x418 x419 x420 x421 x422) :=
 fun x412 x413 x414 x415 x416 x417 x418 x419 x420 x421 x422=>fa G [([0,1,0,1,1,0,0,1,1,0,0,1,0,1,1,1,0,0,1,0,0,1,0,1,1],fun e=>⟨GB (gL .row e 0 0) (gI e 1 0) (gL .row e 6 0) (gI e 7 0) (gL .row e 8 0) (gL .row e 11 0) (Id e 13) (gL .item e 14 0) (gL .time e 43 0) (gI e 44 0) (gI e 45 0) (gL .item e 56 0) (gI e 57 0)⟩)] ⟨fun _=>⟨rfl,Kad G _ _ _ _ _ _ _ _ _ _ _ _ _⟩,trivial⟩ [(17,[0,1,6,7,8,11,13,14,43,44,45,56,57,58])] [] [] (HB x412 x413 x414 x415 x416 x417 x418 x419 x420 x421 x422) rfl rfl (by kernel_rfl)
def qp (_x456:LR) (_x457:Int) (_x458:LR) (_x459:Int) (_x460 _x461:LR) (x462:Time) (_x463:List Time) (_x464 _x465:Int) (x466:LI) (x467:Int) (s471:LR) (s472:Int):Tr (LR×Bool×Unit) (LR×Int) LR Empty Empty :=
 .c (cmp .lss s472 x467)
 (.w [inb s472 (aa .item x466)] (.w [lim (aa .row s471) (aa .row [(Row.mk (rd .item x466 s472).Key (rd .item x466 s472).Val x462 (rd .item x466 s472).Count)])] (.l (.n ((s471++[(Row.mk (rd .item x466 s472).Key (rd .item x466 s472).Val x462 (rd .item x466 s472).Count)]),(ar .add .i64 s472 1))))))
 (.l (.x s471))
def Ak:=fun x456 x457 x458 x459 x460 x461 x462 x463 x464 x465 x466 x467 s471 s472=>(qp x456 x457 x458 x459 x460 x461 x462 x463 x464 x465 x466 x467 s471 s472).val
def rp:=fun x456 x457 x458 x459 x460 x461 x462 x463 x464 x465 x466 x467 s471 s472=>(qp x456 x457 x458 x459 x460 x461 x462 x463 x464 x465 x466 x467 s471 s472).ob
def sJ:=fun x456 x457 x458 x459 x460 x461 x462 x463 x464 x465 x466 x467 s471 s472=>Na (Ak x456 x457 x458 x459 x460 x461 x462 x463 x464 x465 x466 x467 s471 s472) (rp x456 x457 x458 x459 x460 x461 x462 x463 x464 x465 x466 x467 s471 s472) [0,0,1,1,1,1,0,0,1,1,0,0,1,0,1,1,1,0,0,1,0,0,1,0,1,1] (fun q=>[(0,.S .row x456),(1,.I x457),(6,.A .row x458),(7,.I x459),(8,.A .row x460),(11,.A .row q.1),(13,.box [(.fr,.i x462.A),(.fr,.i x462.B)]),(43,.v .fr (.lst .time x463)),(44,.I x464),(45,.I x465),(75,.v .fr (.lst .item x466)),(76,.I x467),(77,.I q.2)]) (s471,s472) oe (fun q=>(8,[(0,.S .row x456),(1,.I x457),(6,.A .row x458),(7,.I x459),(8,.A .row x460),(11,.A .row q),(43,.v .fr (.lst .time x463)),(44,.I x464),(45,.I x465)])) nE nE
theorem Mad (G:Good Tryz.prog tt Uc) {fr:Fr}:∀ x456 x457 x458 x459 x460 x461 x462 x463 x464 x465 x466 x467 s471 s472,cd fr (sJ x456 x457 x458 x459 x460 x461 x462 x463 x464 x465 x466 x467 s471 s472) :=
 fun x456 x457 x458 x459 x460 x461 x462 x463 x464 x465 x466 x467 s471 s472=>fa G [] trivial [(23,[0,1,6,7,8,11,13,43,44,45,75,76,77,78]),(24,[0,1,6,7,8,11,13,18,43,44,45,75,76,77]),(25,[0,1,6,7,8,11,13,43,44,45,75,76,77]),(26,[0,1,6,7,8,11,13,43,44,45,75,76,77])] [] [] (qp x456 x457 x458 x459 x460 x461 x462 x463 x464 x465 x466 x467 s471 s472) rfl rfl (by kernel_rfl)
def JV:=fun x456 x457 x458 x459 x460 x461 x462 x463 x464 x465 x466 x467=>lpV (fun s:LR×Int=>ca (Ak x456 x457 x458 x459 x460 x461 x462 x463 x464 x465 x466 x467 s.1 s.2)) (x461,0)
def LV:=fun x456 x457 x458 x459 x460 x461 x462 x463 x464 x465 x466 x467=>LpT (fun s:LR×Int=>ca (Ak x456 x457 x458 x459 x460 x461 x462 x463 x464 x465 x466 x467 s.1 s.2)) (fun s=>rp x456 x457 x458 x459 x460 x461 x462 x463 x464 x465 x466 x467 s.1 s.2) (x461,0)
def JB:=fun x456 x457 x458 x459 x460 x461 x462 x463 x464 x465 x466 x467=>lpS (sJ x456 x457 x458 x459 x460 x461 x462 x463 x464 x465 x466 x467 x461 0) (JV x456 x457 x458 x459 x460 x461 x462 x463 x464 x465 x466 x467) (LV x456 x457 x458 x459 x460 x461 x462 x463 x464 x465 x466 x467)
theorem Nad (G:Good Tryz.prog tt Uc) {fr:Fr}:∀ x456 x457 x458 x459 x460 x461 x462 x463 x464 x465 x466 x467,cd fr (JB x456 x457 x458 x459 x460 x461 x462 x463 x464 x465 x466 x467) :=
 fun x456 x457 x458 x459 x460 x461 x462 x463 x464 x465 x466 x467=>Oa (fun s:LR×Int=>sJ x456 x457 x458 x459 x460 x461 x462 x463 x464 x465 x466 x467 s.1 s.2) (x461,0) (fun _=>rfl) (fun _=>⟨rfl,rfl,rfl,rfl,rfl⟩) (by kernel_rfl) fun _=>Mad G _ _ _ _ _ _ _ _ _ _ _ _ _ _
def MB (x401:LR) (x402:Int) (x403:LR) (x404:Int) (x405 x406:LR) (x407:List Time) (x408 x409:Int):Tr (LR×Bool×Unit) LR Empty Empty Empty :=
 .w [inb x409 (aa .time x407)] (.k (So x405 (rd .time x407 x409)) fun u410=>.w [(To x405 (rd .time x407 x409)),(zB u410 x402)] (.s (IB x401 x402 x403 x404 x405 x406 (rd .time x407 x409) (yB u410 x402) x407 x408 x409) (fun q453=>.k (nr q453) fun u455=>.w [(Dl q453)] (.s (JB x401 x402 x403 x404 x405 x406 (rd .time x407 x409) x407 x408 x409 u455 (aa .item u455)) nE (fun q481=>.l (.n q481)) nE nE)) nE nE nE))
def tJ:=fun x401 x402 x403 x404 x405 x406 x407 x408 x409=>(MB x401 x402 x403 x404 x405 x406 x407 x408 x409).val
def uJ:=fun x401 x402 x403 x404 x405 x406 x407 x408 x409=>(MB x401 x402 x403 x404 x405 x406 x407 x408 x409).ob
def PB:=fun x401 x402 x403 x404 x405 x406 x407 x408 x409=>da.mk (tJ x401 x402 x403 x404 x405 x406 x407 x408 x409) (uJ x401 x402 x403 x404 x405 x406 x407 x408 x409) [0,1,1,0,0,1,0,1,1,1,0,0,1,0,0,1,0,1,1] [(0,.S .row x401),(1,.I x402),(6,.A .row x403),(7,.I x404),(8,.A .row x405),(11,.A .row x406),(43,.v .fr (.lst .time x407)),(44,.I x408),(45,.I x409)] oe (fun q=>[(0,.S .row x401),(1,.I x402),(6,.A .row x403),(7,.I x404),(8,.A .row x405),(11,.A .row q),(43,.v .fr (.lst .time x407)),(44,.I x408),(45,.I x409)]) nE nE nE
theorem Oad (G:Good Tryz.prog tt Uc) {fr:Fr}:∀ x401 x402 x403 x404 x405 x406 x407 x408 x409,cd fr (PB x401 x402 x403 x404 x405 x406 x407 x408 x409) :=
 fun x401 x402 x403 x404 x405 x406 x407 x408 x409=>fa G [([0,1,1,0,0,1,1,0,0,1,0,1,1,1,0,0,1,0,0,1,0,1,1],fun e=>⟨IB (gL .row e 0 0) (gI e 1 0) (gL .row e 6 0) (gI e 7 0) (gL .row e 8 0) (gL .row e 11 0) (Id e 13) (gL .item e 14 0) (gL .time e 43 0) (gI e 44 0) (gI e 45 0)⟩),([0,1,1,1,1,0,0,1,1,0,0,1,0,1,1,1,0,0,1,0,0,1,0,1,1],fun e=>⟨JB (gL .row e 0 0) (gI e 1 0) (gL .row e 6 0) (gI e 7 0) (gL .row e 8 0) (gL .row e 11 0) (Id e 13) (gL .time e 43 0) (gI e 44 0) (gI e 45 0) (gL .item e 75 0) (gI e 76 0)⟩)] ⟨fun _=>⟨rfl,Lad G _ _ _ _ _ _ _ _ _ _ _⟩,fun _=>⟨rfl,Nad G _ _ _ _ _ _ _ _ _ _ _ _⟩,trivial⟩ [(15,[0,1,6,7,8,11,13,43,44,45]),(16,[0,1,6,7,8,11,13,14,43,44,45]),(22,[0,1,6,7,8,11,13,43,44,45,75,76,77])] [] [] (MB x401 x402 x403 x404 x405 x406 x407 x408 x409) rfl rfl (by kernel_rfl)
def tp (x307:LR) (x308:Int) (x309:LR) (x310:Int) (x311:LR) (x312:List Time) (x313:Int) (s398:LR) (s399:Int):Tr (LR×Bool×Unit) (LR×Int) LR Empty Empty :=
 .c (cmp .lss s399 x313)
 (.s (PB x307 x308 x309 x310 x311 s398 x312 x313 s399) (fun q486=>.l (.n (q486,(ar .add .i64 s399 1)))) nE nE nE)
 (.l (.x s398))
def Bk:=fun x307 x308 x309 x310 x311 x312 x313 s398 s399=>(tp x307 x308 x309 x310 x311 x312 x313 s398 s399).val
def vp:=fun x307 x308 x309 x310 x311 x312 x313 s398 s399=>(tp x307 x308 x309 x310 x311 x312 x313 s398 s399).ob
def vJ:=fun x307 x308 x309 x310 x311 x312 x313 s398 s399=>Na (Bk x307 x308 x309 x310 x311 x312 x313 s398 s399) (vp x307 x308 x309 x310 x311 x312 x313 s398 s399) [0,0,1,0,1,1,1,0,0,1,0,0,1,0,1,1] (fun q=>[(0,.S .row x307),(1,.I x308),(6,.A .row x309),(7,.I x310),(8,.A .row x311),(11,.A .row q.1),(43,.v .fr (.lst .time x312)),(44,.I x313),(45,.I q.2)]) (s398,s399) oe (fun q=>(4,[(0,.S .row x307),(1,.I x308),(6,.A .row x309),(7,.I x310),(11,.A .row q)])) nE nE
theorem Pad (G:Good Tryz.prog tt Uc) {fr:Fr}:∀ x307 x308 x309 x310 x311 x312 x313 s398 s399,cd fr (vJ x307 x308 x309 x310 x311 x312 x313 s398 s399) :=
 fun x307 x308 x309 x310 x311 x312 x313 s398 s399=>fa G [([0,1,1,0,0,1,0,1,1,1,0,0,1,0,0,1,0,1,1],fun e=>⟨PB (gL .row e 0 0) (gI e 1 0) (gL .row e 6 0) (gI e 7 0) (gL .row e 8 0) (gL .row e 11 0) (gL .time e 43 0) (gI e 44 0) (gI e 45 0)⟩)] ⟨fun _=>⟨rfl,Oad G _ _ _ _ _ _ _ _ _⟩,trivial⟩ [(14,[0,1,6,7,8,11,43,44,45,46]),(27,[0,1,6,7,8,11,43,44,45])] [] [] (tp x307 x308 x309 x310 x311 x312 x313 s398 s399) rfl rfl (by kernel_rfl)
def MV:=fun x307 x308 x309 x310 x311 x312 x313=>lpV (fun s:LR×Int=>ca (Bk x307 x308 x309 x310 x311 x312 x313 s.1 s.2)) ([],0)
def NV:=fun x307 x308 x309 x310 x311 x312 x313=>LpT (fun s:LR×Int=>ca (Bk x307 x308 x309 x310 x311 x312 x313 s.1 s.2)) (fun s=>vp x307 x308 x309 x310 x311 x312 x313 s.1 s.2) ([],0)
def QB:=fun x307 x308 x309 x310 x311 x312 x313=>lpS (vJ x307 x308 x309 x310 x311 x312 x313 [] 0) (MV x307 x308 x309 x310 x311 x312 x313) (NV x307 x308 x309 x310 x311 x312 x313)
theorem Qad (G:Good Tryz.prog tt Uc) {fr:Fr}:∀ x307 x308 x309 x310 x311 x312 x313,cd fr (QB x307 x308 x309 x310 x311 x312 x313) :=
 fun x307 x308 x309 x310 x311 x312 x313=>Oa (fun s:LR×Int=>vJ x307 x308 x309 x310 x311 x312 x313 s.1 s.2) ([],0) (fun _=>rfl) (fun _=>⟨rfl,rfl,rfl,rfl,rfl⟩) (by kernel_rfl) fun _=>Pad G _ _ _ _ _ _ _ _ _
def RB (x301:LR) (x302:Int) (x303:LR) (x304:Int) (x305:LR):Tr (LR×Bool×Unit) LR Empty Empty Empty :=
 .k (Xa x301 x304) fun u306=>.w [(VJ x301 x304)] (.s (QB x301 x302 x303 x304 x305 u306 (aa .time u306)) nE (fun q497=>.l (.n q497)) nE nE)
def QV:=fun x301 x302 x303 x304 x305=>(RB x301 x302 x303 x304 x305).val
def SV:=fun x301 x302 x303 x304 x305=>(RB x301 x302 x303 x304 x305).ob
def SB:=fun x301 x302 x303 x304 x305=>da.mk (QV x301 x302 x303 x304 x305) (SV x301 x302 x303 x304 x305) [0,1,1,1,0,0,1,0,0,1,0,1,1] [(0,.S .row x301),(1,.I x302),(6,.A .row x303),(7,.I x304),(8,.A .row x305),(11,.A .row [])] oe (fun q=>[(0,.S .row x301),(1,.I x302),(6,.A .row x303),(7,.I x304),(11,.A .row q)]) nE nE nE
theorem Rad (G:Good Tryz.prog tt Uc) {fr:Fr}:∀ x301 x302 x303 x304 x305,cd fr (SB x301 x302 x303 x304 x305) :=
 fun x301 x302 x303 x304 x305=>fa G [([0,1,0,1,1,1,0,0,1,0,0,1,0,1,1],fun e=>⟨QB (gL .row e 0 0) (gI e 1 0) (gL .row e 6 0) (gI e 7 0) (gL .row e 8 0) (gL .time e 43 0) (gI e 44 0)⟩)] ⟨fun _=>⟨rfl,Qad G _ _ _ _ _ _ _⟩,trivial⟩ [(13,[0,1,6,7,8,11,43,44,45])] [] [] (RB x301 x302 x303 x304 x305) rfl rfl (by kernel_rfl)
def TB (x246:LR) (x247:Int) (x248:LR) (x249:Int):Tr (LR×Bool×Unit) LR Empty Empty Empty :=
 .s (FB x246 x247 x248 x249) (fun q299=>.s (SB x246 x247 x248 x249 q299) (fun q500=>.w [lim (aa .row x248) (aa .row q500)] (.l (.n (x248++q500)))) nE nE nE) nE nE nE
def xJ:=fun x246 x247 x248 x249=>(TB x246 x247 x248 x249).val
def yJ:=fun x246 x247 x248 x249=>(TB x246 x247 x248 x249).ob
def UB:=fun x246 x247 x248 x249=>da.mk (xJ x246 x247 x248 x249) (yJ x246 x247 x248 x249) [0,1,0,0,1,0,1,1] [(0,.S .row x246),(1,.I x247),(6,.A .row x248),(7,.I x249)] oe (fun q=>[(0,.S .row x246),(1,.I x247),(6,.A .row q),(7,.I x249)]) nE nE nE
theorem Sad (G:Good Tryz.prog tt Uc) {fr:Fr}:∀ x246 x247 x248 x249,cd fr (UB x246 x247 x248 x249) :=
 fun x246 x247 x248 x249=>fa G [([0,1,0,0,1,0,0,1,0,1,1],fun e=>⟨FB (gL .row e 0 0) (gI e 1 0) (gL .row e 6 0) (gI e 7 0)⟩),([0,1,1,1,0,0,1,0,0,1,0,1,1],fun e=>⟨SB (gL .row e 0 0) (gI e 1 0) (gL .row e 6 0) (gI e 7 0) (gL .row e 8 0)⟩)] ⟨fun _=>⟨rfl,Iad G _ _ _ _⟩,fun _=>⟨rfl,Rad G _ _ _ _ _⟩,trivial⟩ [(5,[0,1,6,7,8]),(12,[0,1,6,7,8,11]),(28,[0,1,6,7])] [] [] (TB x246 x247 x248 x249) rfl rfl (by kernel_rfl)
def xp (x3:LR) (x4:Int) (s243:LR) (s244:Int):Tr (LR×Bool×Unit) (LR×Int) LR Empty Empty :=
 .c (cmp .lss s244 4)
 (.s (UB x3 x4 s243 s244) (fun q507=>.l (.n (q507,(ar .add .i64 s244 1)))) nE nE nE)
 (.l (.x s243))
def Ck:=fun x3 x4 s243 s244=>(xp x3 x4 s243 s244).val
def yp:=fun x3 x4 s243 s244=>(xp x3 x4 s243 s244).ob
def zJ:=fun x3 x4 s243 s244=>Na (Ck x3 x4 s243 s244) (yp x3 x4 s243 s244) [0,0,1,0,1,1] (fun q=>[(0,.S .row x3),(1,.I x4),(6,.A .row q.1),(7,.I q.2)]) (s243,s244) oe (fun q=>(0,[(6,.A .row q)])) nE nE
theorem Tad (G:Good Tryz.prog tt Uc) {fr:Fr}:∀ x3 x4 s243 s244,cd fr (zJ x3 x4 s243 s244) :=
 fun x3 x4 s243 s244=>fa G [([0,1,0,0,1,0,1,1],fun e=>⟨UB (gL .row e 0 0) (gI e 1 0) (gL .row e 6 0) (gI e 7 0)⟩)] ⟨fun _=>⟨rfl,Sad G _ _ _ _⟩,trivial⟩ [(3,[0,1,6,7,21]),(4,[0,1,6,7])] [] [] (xp x3 x4 s243 s244) rfl rfl (by kernel_rfl)
def TV:=fun x3 x4=>lpV (fun s:LR×Int=>ca (Ck x3 x4 s.1 s.2)) ([],0)
def UV:=fun x3 x4=>LpT (fun s:LR×Int=>ca (Ck x3 x4 s.1 s.2)) (fun s=>yp x3 x4 s.1 s.2) ([],0)
def VB:=fun x3 x4=>lpS (zJ x3 x4 [] 0) (TV x3 x4) (UV x3 x4)
theorem Uad (G:Good Tryz.prog tt Uc) {fr:Fr}:∀ x3 x4,cd fr (VB x3 x4) :=
 fun x3 x4=>Oa (fun s:LR×Int=>zJ x3 x4 s.1 s.2) ([],0) (fun _=>rfl) (fun _=>⟨rfl,rfl,rfl,rfl,rfl⟩) (by kernel_rfl) fun _=>Tad G _ _ _ _
def WB (x1:LR) (x2:Int):Tr (LR×Bool×Unit) LR Empty Empty Empty :=
 .s (VB x1 x2) nE (fun q518=>.l (.n q518)) nE nE
def VV:=fun x1 x2=>(WB x1 x2).val
def WV:=fun x1 x2=>(WB x1 x2).ob
def XB:=fun x1 x2=>da.mk (VV x1 x2) (WV x1 x2) [0,1,1] [(0,.S .row x1),(1,.I x2),(6,.A .row [])] oe (fun q=>[(6,.A .row q)]) nE nE nE
theorem Vad (G:Good Tryz.prog tt Uc) {fr:Fr}:∀ x1 x2,cd fr (XB x1 x2) :=
 fun x1 x2=>fa G [([0,1,0,1,1],fun e=>⟨VB (gL .row e 0 0) (gI e 1 0)⟩)] ⟨fun _=>⟨rfl,Uad G _ _⟩,trivial⟩ [(2,[0,1,6,7])] [] [] (WB x1 x2) rfl rfl (by kernel_rfl)
def YB (a0:LR) (a1:Int):Tr (LR×Bool×Unit) Empty Empty Empty Empty :=
 .s (XB a0 a1) (fun q521=>.w [(Vg q521)] (.l (.r ((me q521).1,((me q521).2.1,()))))) nE nE nE
def ZB:=fun a0 a1=>(YB a0 a1).val
def aC:=fun a0 a1=>(YB a0 a1).ob
def XV:=fun a0 a1=>da.mk (ZB a0 a1) (aC a0 a1) [] [(0,.S .row a0),(1,.I a1)] oe nE nE nE nE
theorem Wad (G:Good Tryz.prog tt Uc) {fr:Fr}:∀ a0 a1,cd fr (XV a0 a1) :=
 fun a0 a1=>fa G [([0,1,1],fun e=>⟨XB (gL .row e 0 0) (gI e 1 0)⟩)] ⟨fun _=>⟨rfl,Vad G _ _⟩,trivial⟩ [(0,[0,1]),(1,[0,1,6]),(29,[4,5])] [] [] (YB a0 a1) rfl rfl (by kernel_rfl)
def bC (a0:LR) (a1:Int):LR×Bool×Unit:=ocR (ZB a0 a1)
def cC (a0:LR) (a1:Int):Prop:=aC a0 a1
def AJ:Spec:=⟨[(.lst .row),(.int .i64)],.tup [(false,(.lst .row)),(true,.bool)],false,fun x=>(bC x.1 x.2.1,0),fun x=>cC x.1 x.2.1⟩
theorem Xad (G:Good Tryz.prog tt Uc):Con Tryz.prog 75 AJ :=
 Ca (pts:=[(.lst .row),(.int .i64)]) (rt:=.tup [(false,(.lst .row)),(true,.bool)]) (o:=fun x=>ZB x.1 x.2.1) (ob:=fun x=>aC x.1 x.2.1) G (fn:=Tryz.f75) (c:=ia Tryz.f75) (by kernel_rfl) (by kernel_rfl) (by kernel_rfl) (rs:=[.tmp 4,.tmp 5]) (fz:=F75.fz) (by kernel_rfl) (by kernel_rfl) (fun _=>rfl) rfl (fun x=>XV x.1 x.2.1) (fun _=>⟨rfl,rfl,rfl,rfl,rfl⟩) (fun x _=>Wad G x.1 x.2.1)
abbrev V43:=Plan→List LR→LR×Bool×Unit
abbrev Q43:=Plan→List LR→Prop
def dC (v:V43) (p:Q43):Spec:=⟨[(.st .plan),(.lst .lrow)],.tup [(false,(.lst .row)),(true,.bool)],false,fun x=>(v x.1 x.2.1,0),fun x=>p x.1 x.2.1⟩
def zp (r43V:V43) (r43P:Q43):SP:=[(43,dC r43V r43P),(72,BI),(73,FI),(54,GI),(47,Yj),(48,MI),(74,YI),(75,AJ)]
abbrev F43:Fnn:=⟨[.tmp 4,.tmp 5],.tup [(false,(.lst .row)),(true,.bool)],none,[]⟩
abbrev BJ:LR×Bool×Unit→RV:=fun q=>(some (RT.av (.tup [(false,(.lst .row)),(true,.bool)]) q),.dead)
abbrev eC (fr:Fr) {A X Y Z:Type} (S:da (LR×Bool×Unit) A X Y Z):Prop:=ua Tryz.prog tt ⟨Tryz.f43.ntmps,none,[]⟩ fr (ia Tryz.f43) F43 S
def Ap (r43V:V43) (r43P:Q43) (x5:List LR) (_x6 _x7:Int) (x8:LP) (x9:Int) (s15:List LR) (s16:Int):Tr (LR×Bool×Unit) ((List LR)×Int) ((List LR)) Empty Empty :=
 .c (cmp .lss s16 x9)
 (.w [inb s16 (aa .plan x8)] (.k (r43V (Plan.mk (rd .plan x8 s16).Kind (rd .plan x8 s16).Num (rd .plan x8 s16).Kids) x5) fun u18=>.w [(r43P (Plan.mk (rd .plan x8 s16).Kind (rd .plan x8 s16).Num (rd .plan x8 s16).Kids) x5)] (.c (!u18.2.1)
 (.l (.r ([],(false,()))))
 (.w [lim (aa .lrow s15) (aa .lrow [u18.1])] (.l (.n ((s15++[u18.1]),(ar .add .i64 s16 1))))))))
 (.l (.x s15))
def Dk:=fun r43V r43P x5 x6 x7 x8 x9 s15 s16=>(Ap r43V r43P x5 x6 x7 x8 x9 s15 s16).val
def Bp:=fun r43V r43P x5 x6 x7 x8 x9 s15 s16=>(Ap r43V r43P x5 x6 x7 x8 x9 s15 s16).ob
def CJ:=fun r43V r43P x5 x6 x7 x8 x9 s15 s16=>Na (Dk r43V r43P x5 x6 x7 x8 x9 s15 s16) (Bp r43V r43P x5 x6 x7 x8 x9 s15 s16) [0,0,1,0,1,1] (fun q=>[(1,.S .lrow x5),(2,.box [(.fr,.i x6),(.fr,.i x7),(.sh,.lst .plan x8)]),(6,.v (.acc false) (.lst .lrow q.1)),(12,.S .plan x8),(13,.I x9),(14,.I q.2)]) (s15,s16) BJ (fun q=>(0,[(1,.S .lrow x5),(2,.box [(.fr,.i x6),(.fr,.i x7),(.sh,.lst .plan x8)]),(6,.v (.acc false) (.lst .lrow q))])) nE nE
theorem Yad {r43V:V43} {r43P:Q43} (G:Good Tryz.prog tt (zp r43V r43P)) {fr:Fr}:∀ x5 x6 x7 x8 x9 s15 s16,eC fr (CJ r43V r43P x5 x6 x7 x8 x9 s15 s16) :=
 fun x5 x6 x7 x8 x9 s15 s16=>fa G [] trivial [(3,[1,2,6,12,13,14,15]),(4,[1,2,6,8,12,13,14]),(5,[1,2,6,9,10,12,13,14]),(6,[1,2,6,9,12,13,14,25]),(7,[4,5]),(8,[1,2,6,12,13,14]),(9,[1,2,6,12,13,14])] [] [] (Ap r43V r43P x5 x6 x7 x8 x9 s15 s16) rfl rfl (by kernel_rfl)
def YV:=fun r43V r43P x5 x6 x7 x8 x9=>lpV (fun s:(List LR)×Int=>ca (Dk r43V r43P x5 x6 x7 x8 x9 s.1 s.2)) ([],0)
def ZV:=fun r43V r43P x5 x6 x7 x8 x9=>LpT (fun s:(List LR)×Int=>ca (Dk r43V r43P x5 x6 x7 x8 x9 s.1 s.2)) (fun s=>Bp r43V r43P x5 x6 x7 x8 x9 s.1 s.2) ([],0)
def fC:=fun r43V r43P x5 x6 x7 x8 x9=>lpS (CJ r43V r43P x5 x6 x7 x8 x9 [] 0) (YV r43V r43P x5 x6 x7 x8 x9) (ZV r43V r43P x5 x6 x7 x8 x9)
theorem Zad {r43V:V43} {r43P:Q43} (G:Good Tryz.prog tt (zp r43V r43P)) {fr:Fr}:∀ x5 x6 x7 x8 x9,eC fr (fC r43V r43P x5 x6 x7 x8 x9) :=
 fun x5 x6 x7 x8 x9=>Oa (fun s:(List LR)×Int=>CJ r43V r43P x5 x6 x7 x8 x9 s.1 s.2) ([],0) (fun _=>rfl) (fun _=>⟨rfl,rfl,rfl,rfl,rfl⟩) (by kernel_rfl) fun _=>Yad G _ _ _ _ _ _ _
def gC (r43V:V43) (r43P:Q43) (x1:List LR) (x2 x3:Int) (x4:LP):Tr (LR×Bool×Unit) ((List LR)) Empty Empty Empty :=
 .s (fC r43V r43P x1 x2 x3 x4 (aa .plan x4)) nE (fun q27=>.l (.n q27)) nE nE
def aW:=fun r43V r43P x1 x2 x3 x4=>(gC r43V r43P x1 x2 x3 x4).val
def bW:=fun r43V r43P x1 x2 x3 x4=>(gC r43V r43P x1 x2 x3 x4).ob
def iC:=fun r43V r43P x1 x2 x3 x4=>da.mk (aW r43V r43P x1 x2 x3 x4) (bW r43V r43P x1 x2 x3 x4) [0,1,1] [(1,.S .lrow x1),(2,.box [(.fr,.i x2),(.fr,.i x3),(.sh,.lst .plan x4)]),(6,.v .fr (.nl .lrow))] BJ (fun q=>[(1,.S .lrow x1),(2,.box [(.fr,.i x2),(.fr,.i x3),(.sh,.lst .plan x4)]),(6,.v (.acc false) (.lst .lrow q))]) nE nE nE
theorem aae {r43V:V43} {r43P:Q43} (G:Good Tryz.prog tt (zp r43V r43P)) {fr:Fr}:∀ x1 x2 x3 x4,eC fr (iC r43V r43P x1 x2 x3 x4) :=
 fun x1 x2 x3 x4=>fa G [([0,1,0,1,1],fun e=>⟨fC r43V r43P (gL .lrow e 1 0) (gI e 2 0) (gI e 2 1) (gL .plan e 2 2) (gI e 13 0)⟩)] ⟨fun _=>⟨rfl,Zad G _ _ _ _ _⟩,trivial⟩ [(2,[1,2,6,12,13,14])] [] [] (gC r43V r43P x1 x2 x3 x4) rfl rfl (by kernel_rfl)
def jC (r43V:V43) (r43P:Q43) (a0:Plan) (a1:List LR):Tr (LR×Bool×Unit) Empty Empty Empty Empty :=
 .s (iC r43V r43P a1 a0.Kind a0.Num a0.Kids) (fun q30=>.c (cmp .eql a0.Kind 1)
 (.w [inb a0.Num (aa .lrow a1),(uz (rd .lrow a1 a0.Num))] (.l (.r ((tz (rd .lrow a1 a0.Num)),(true,())))))
 (.c (cmp .eql a0.Kind 2)
 (.k (Oz (rd .lrow q30 0) a0.Num) fun u35=>.w [inb 0 (aa .lrow q30),(Pz (rd .lrow q30 0) a0.Num)] (.l (.r (u35.1,(u35.2.1,())))))
 (.c (cmp .eql a0.Kind 3)
 (.k (Tz (rd .lrow q30 0) (rd .lrow q30 1)) fun u37=>.w [inb 0 (aa .lrow q30),inb 1 (aa .lrow q30),(Uz (rd .lrow q30 0) (rd .lrow q30 1)),(Vg u37)] (.l (.r ((me u37).1,((me u37).2.1,())))))
 (.c (cmp .eql a0.Kind 4)
 (.k (cA (rd .lrow q30 0)) fun u40=>.w [inb 0 (aa .lrow q30),(eA (rd .lrow q30 0)),(Vg u40)] (.l (.r ((me u40).1,((me u40).2.1,())))))
 (.c (cmp .eql a0.Kind 5)
 (.k (uA (rd .lrow q30 0) (rd .lrow q30 1)) fun u43=>.w [inb 0 (aa .lrow q30),inb 1 (aa .lrow q30),(vA (rd .lrow q30 0) (rd .lrow q30 1))] (.l (.r (u43.1,(u43.2.1,())))))
 (.k (bC (rd .lrow q30 0) a0.Num) fun u44=>.w [inb 0 (aa .lrow q30),(cC (rd .lrow q30 0) a0.Num)] (.l (.r (u44.1,(u44.2.1,())))))))))) nE nE nE
def Cp:=fun r43V r43P a0 a1=>(jC r43V r43P a0 a1).val
def Ep:=fun r43V r43P a0 a1=>(jC r43V r43P a0 a1).ob
def cW:=fun r43V r43P a0 a1=>da.mk (Cp r43V r43P a0 a1) (Ep r43V r43P a0 a1) [] [(0,.agg false [.i a0.Kind,.i a0.Num,.lst .plan a0.Kids]),(1,.S .lrow a1)] BJ nE nE nE nE
theorem bae {r43V:V43} {r43P:Q43} (G:Good Tryz.prog tt (zp r43V r43P)) {fr:Fr}:∀ a0 a1,eC fr (cW r43V r43P a0 a1) :=
 fun a0 a1=>fa G [([0,1,1],fun e=>⟨iC r43V r43P (gL .lrow e 1 0) (gI e 2 0) (gI e 2 1) (gL .plan e 2 2)⟩)] ⟨fun _=>⟨rfl,aae G _ _ _ _⟩,trivial⟩ [(0,[1,2]),(1,[1,2,6]),(10,[1,2,6,32]),(11,[1,2,6,32,33]),(12,[4,5]),(13,[2,6,32,41]),(14,[4,5]),(15,[2,6,32,51]),(16,[4,5]),(17,[2,6,32,63]),(18,[4,5]),(19,[2,6,72]),(20,[4,5]),(21,[4,5])] [] [] (jC r43V r43P a0 a1) rfl rfl (by kernel_rfl)
theorem cae {r43V:V43} {r43P:Q43} (G:Good Tryz.prog tt (zp r43V r43P)):Con Tryz.prog 43 (dC (fun a0 a1=>ocR (Cp r43V r43P a0 a1)) (fun a0 a1=>Ep r43V r43P a0 a1)) :=
 Ca (pts:=[(.st .plan),(.lst .lrow)]) (rt:=.tup [(false,(.lst .row)),(true,.bool)]) (o:=fun x=>Cp r43V r43P x.1 x.2.1) (ob:=fun x=>Ep r43V r43P x.1 x.2.1) G (fn:=Tryz.f43) (c:=ia Tryz.f43) (by kernel_rfl) (by kernel_rfl) (by kernel_rfl) (rs:=[.tmp 4,.tmp 5]) (fz:=F43.fz) (by kernel_rfl) (by kernel_rfl) (fun _=>rfl) rfl (fun x=>cW r43V r43P x.1 x.2.1) (fun _=>⟨rfl,rfl,rfl,rfl,rfl⟩) (fun x _=>bae G x.1 x.2.1)
def Vc:Nat→V43×Q43
 | 0=>(fun _ _=>default,fun _ _=>False)
 | n+1=>(fun a0 a1=>ocR (Cp (Vc n).1 (Vc n).2 a0 a1),fun a0 a1=>Ep (Vc n).1 (Vc n).2 a0 a1)
def DJ:V43:=(Vc Nc).1
def FJ:Q43:=(Vc Nc).2
def dW:Spec:=dC DJ FJ
def Fp:SP:=[(17,mI),(16,zo),(43,dW)]
abbrev F14:Fnn:=⟨[.tmp 4,.tmp 5],.tup [(false,(.lst .row)),(true,.bool)],none,[]⟩
abbrev GJ:LR×Bool×Unit→RV:=fun q=>(some (RT.av (.tup [(false,(.lst .row)),(true,.bool)]) q),.dead)
abbrev lC (fr:Fr) {A X Y Z:Type} (S:da (LR×Bool×Unit) A X Y Z):Prop:=ua Tryz.prog tt ⟨Tryz.f14.ntmps,none,[]⟩ fr (ia Tryz.f14) F14 S
def Gp (x7:List LR) (_x8 _x9:Int) (_x10:LP) (x11 s16:Int):Tr (LR×Bool×Unit) Int Unit Empty Empty :=
 .c (cmp .lss s16 x11)
 (.w [inb s16 (aa .lrow x7)] (.w [(Xj (rd .lrow x7 s16))] (.c (!(Wj (rd .lrow x7 s16)))
 (.l (.r ([],(false,()))))
 (.l (.n (ar .add .i64 s16 1))))))
 (.l (.x ()))
def Fk:=fun x7 x8 x9 x10 x11 s16=>(Gp x7 x8 x9 x10 x11 s16).val
def Hp:=fun x7 x8 x9 x10 x11 s16=>(Gp x7 x8 x9 x10 x11 s16).ob
def HJ:=fun x7 x8 x9 x10 x11 s16=>Na (Fk x7 x8 x9 x10 x11 s16) (Hp x7 x8 x9 x10 x11 s16) [0,0,1,0,1,1] (fun q=>[(1,.S .lrow x7),(2,.box [(.fr,.i x8),(.fr,.i x9),(.sh,.lst .plan x10)]),(16,.S .lrow x7),(17,.I x11),(18,.I q)]) s16 GJ (fun _=>(0,[(1,.S .lrow x7),(2,.box [(.fr,.i x8),(.fr,.i x9),(.sh,.lst .plan x10)])])) nE nE
theorem dae (G:Good Tryz.prog tt Fp) {fr:Fr}:∀ x7 x8 x9 x10 x11 s16,lC fr (HJ x7 x8 x9 x10 x11 s16) :=
 fun x7 x8 x9 x10 x11 s16=>fa G [] trivial [(4,[1,2,16,17,18,19]),(5,[1,2,7,16,17,18]),(6,[1,2,16,17,18,24]),(7,[4,5]),(8,[1,2,16,17,18])] [] [] (Gp x7 x8 x9 x10 x11 s16) rfl rfl (by kernel_rfl)
def eW:=fun x7 x8 x9 x10 x11=>lpV (fun s:Int=>ca (Fk x7 x8 x9 x10 x11 s)) 0
def fW:=fun x7 x8 x9 x10 x11=>LpT (fun s:Int=>ca (Fk x7 x8 x9 x10 x11 s)) (fun s=>Hp x7 x8 x9 x10 x11 s) 0
def mC:=fun x7 x8 x9 x10 x11=>lpS (HJ x7 x8 x9 x10 x11 0) (eW x7 x8 x9 x10 x11) (fW x7 x8 x9 x10 x11)
theorem eae (G:Good Tryz.prog tt Fp) {fr:Fr}:∀ x7 x8 x9 x10 x11,lC fr (mC x7 x8 x9 x10 x11) :=
 fun x7 x8 x9 x10 x11=>Oa (fun s:Int=>HJ x7 x8 x9 x10 x11 s) 0 (fun _=>rfl) (fun _=>⟨rfl,rfl,rfl,rfl,rfl⟩) (by kernel_rfl) fun _=>dae G _ _ _ _ _ _
def nC (x3:List LR) (x4 x5:Int) (x6:LP):Tr (LR×Bool×Unit) Unit Empty Empty Empty :=
 .s (mC x3 x4 x5 x6 (aa .lrow x3)) nE (fun _=>.l (.n ())) nE nE
def gW:=fun x3 x4 x5 x6=>(nC x3 x4 x5 x6).val
def iW:=fun x3 x4 x5 x6=>(nC x3 x4 x5 x6).ob
def oC:=fun x3 x4 x5 x6=>da.mk (gW x3 x4 x5 x6) (iW x3 x4 x5 x6) [0,1,1] [(1,.S .lrow x3),(2,.box [(.fr,.i x4),(.fr,.i x5),(.sh,.lst .plan x6)])] GJ (fun _=>[(1,.S .lrow x3),(2,.box [(.fr,.i x4),(.fr,.i x5),(.sh,.lst .plan x6)])]) nE nE nE
theorem fae (G:Good Tryz.prog tt Fp) {fr:Fr}:∀ x3 x4 x5 x6,lC fr (oC x3 x4 x5 x6) :=
 fun x3 x4 x5 x6=>fa G [([0,1,0,1,1],fun e=>⟨mC (gL .lrow e 1 0) (gI e 2 0) (gI e 2 1) (gL .plan e 2 2) (gI e 17 0)⟩)] ⟨fun _=>⟨rfl,eae G _ _ _ _ _⟩,trivial⟩ [(3,[1,2,16,17,18])] [] [] (nC x3 x4 x5 x6) rfl rfl (by kernel_rfl)
def pC (a0:Plan) (a1:List LR):Tr (LR×Bool×Unit) Empty Empty Empty Empty :=
 .w [(Qy (Plan.mk a0.Kind a0.Num a0.Kids))] (.c (cond (!(Py (Plan.mk a0.Kind a0.Num a0.Kids))) true (cmp .neq (aa .lrow a1) 2))
 (.l (.r ([],(false,()))))
 (.s (oC a1 a0.Kind a0.Num a0.Kids) (fun _=>.k (DJ (Plan.mk a0.Kind a0.Num a0.Kids) a1) fun u28=>.w [(FJ (Plan.mk a0.Kind a0.Num a0.Kids) a1)] (.l (.r (u28.1,(u28.2.1,()))))) nE nE nE))
def qC:=fun a0 a1=>(pC a0 a1).val
def rC:=fun a0 a1=>(pC a0 a1).ob
def jW:=fun a0 a1=>da.mk (qC a0 a1) (rC a0 a1) [] [(0,.agg false [.i a0.Kind,.i a0.Num,.lst .plan a0.Kids]),(1,.S .lrow a1)] GJ nE nE nE nE
theorem gae (G:Good Tryz.prog tt Fp) {fr:Fr}:∀ a0 a1,lC fr (jW a0 a1) :=
 fun a0 a1=>fa G [([0,1,1],fun e=>⟨oC (gL .lrow e 1 0) (gI e 2 0) (gI e 2 1) (gL .plan e 2 2)⟩)] ⟨fun _=>⟨rfl,fae G _ _ _ _⟩,trivial⟩ [(0,[1,2]),(1,[1,2,15]),(2,[4,5]),(9,[4,5])] [] [] (pC a0 a1) rfl rfl (by kernel_rfl)
def Ip (a0:Plan) (a1:List LR):LR×Bool×Unit:=ocR (qC a0 a1)
def Jp (a0:Plan) (a1:List LR):Prop:=rC a0 a1
def IJ:Spec:=⟨[(.st .plan),(.lst .lrow)],.tup [(false,(.lst .row)),(true,.bool)],false,fun x=>(Ip x.1 x.2.1,0),fun x=>Jp x.1 x.2.1⟩
theorem iae (G:Good Tryz.prog tt Fp):Con Tryz.prog 14 IJ :=
 Ca (pts:=[(.st .plan),(.lst .lrow)]) (rt:=.tup [(false,(.lst .row)),(true,.bool)]) (o:=fun x=>qC x.1 x.2.1) (ob:=fun x=>rC x.1 x.2.1) G (fn:=Tryz.f14) (c:=ia Tryz.f14) (by kernel_rfl) (by kernel_rfl) (by kernel_rfl) (rs:=[.tmp 4,.tmp 5]) (fz:=F14.fz) (by kernel_rfl) (by kernel_rfl) (fun _=>rfl) rfl (fun x=>jW x.1 x.2.1) (fun _=>⟨rfl,rfl,rfl,rfl,rfl⟩) (fun x _=>gae G x.1 x.2.1)
def Kp:SP:=[]
abbrev F15:Fnn:=⟨[.tmp 4],.one .fr .bool,none,[]⟩
abbrev JJ:Bool→RV:=fun q=>(some (RT.av (.one .fr .bool) q),.dead)
abbrev sC (fr:Fr) {A X Y Z:Type} (S:da Bool A X Y Z):Prop:=ua Tryz.prog tt ⟨Tryz.f15.ntmps,none,[]⟩ fr (ia Tryz.f15) F15 S
def ji (x4 x5:LR) (s9:Int):Tr Bool Int Unit Empty Empty :=
 .c (cmp .lss s9 (aa .row x4))
 (.w [inb s9 (aa .row x4),inb s9 (aa .row x5)] (.c (!(cmp .eql (rd .row x4 s9).Key (rd .row x5 s9).Key&&(cmp .eql (rd .row x4 s9).Val (rd .row x5 s9).Val&&(cmp .eql (rd .row x4 s9).At.A (rd .row x5 s9).At.A&&(cmp .eql (rd .row x4 s9).At.B (rd .row x5 s9).At.B&&(cmp .eql (rd .row x4 s9).Diff (rd .row x5 s9).Diff&&true))))))
 (.l (.r false))
 (.l (.n (ar .add .i64 s9 1)))))
 (.l (.x ()))
def lg:=fun x4 x5 s9=>(ji x4 x5 s9).val
def Xg:=fun x4 x5 s9=>(ji x4 x5 s9).ob
def LJ:=fun x4 x5 s9=>Na (lg x4 x5 s9) (Xg x4 x5 s9) [0,0,1,0,1,1] (fun q=>[(0,.S .row x4),(1,.S .row x5),(5,.I q)]) s9 JJ (fun _=>(0,[])) nE nE
theorem jae (G:Good Tryz.prog tt Kp) {fr:Fr}:∀ x4 x5 s9,sC fr (LJ x4 x5 s9) :=
 fun x4 x5 s9=>fa G [] trivial [(4,[0,1,5,14]),(5,[0,1,5]),(6,[0,1,5,25]),(7,[4])] [] [] (ji x4 x5 s9) rfl rfl (by kernel_rfl)
def kW:=fun x4 x5=>lpV (fun s:Int=>ca (lg x4 x5 s)) 0
def lW:=fun x4 x5=>LpT (fun s:Int=>ca (lg x4 x5 s)) (fun s=>Xg x4 x5 s) 0
def Mp:=fun x4 x5=>lpS (LJ x4 x5 0) (kW x4 x5) (lW x4 x5)
theorem kae (G:Good Tryz.prog tt Kp) {fr:Fr}:∀ x4 x5,sC fr (Mp x4 x5) :=
 fun x4 x5=>Oa (fun s:Int=>LJ x4 x5 s) 0 (fun _=>rfl) (fun _=>⟨rfl,rfl,rfl,rfl,rfl⟩) (by kernel_rfl) fun _=>jae G _ _ _
def Np (x2 x3:LR):Tr Bool Unit Empty Empty Empty :=
 .s (Mp x2 x3) nE (fun _=>.l (.n ())) nE nE
def mW:=fun x2 x3=>(Np x2 x3).val
def nW:=fun x2 x3=>(Np x2 x3).ob
def Pp:=fun x2 x3=>da.mk (mW x2 x3) (nW x2 x3) [0,1,1] [(0,.S .row x2),(1,.S .row x3)] JJ (fun _=>[]) nE nE nE
theorem lae (G:Good Tryz.prog tt Kp) {fr:Fr}:∀ x2 x3,sC fr (Pp x2 x3) :=
 fun x2 x3=>fa G [([0,1,0,1,1],fun e=>⟨Mp (gL .row e 0 0) (gL .row e 1 0)⟩)] ⟨fun _=>⟨rfl,kae G _ _⟩,trivial⟩ [(3,[0,1,5])] [] [] (Np x2 x3) rfl rfl (by kernel_rfl)
def Qp (a0 a1:LR):Tr Bool Empty Empty Empty Empty :=
 .c (cmp .neq (aa .row a0) (aa .row a1))
 (.l (.r false))
 (.s (Pp a0 a1) (fun _=>.l (.r true)) nE nE nE)
def tC:=fun a0 a1=>(Qp a0 a1).val
def uC:=fun a0 a1=>(Qp a0 a1).ob
def oW:=fun a0 a1=>da.mk (tC a0 a1) (uC a0 a1) [] [(0,.S .row a0),(1,.S .row a1)] JJ nE nE nE nE
theorem mae (G:Good Tryz.prog tt Kp) {fr:Fr}:∀ a0 a1,sC fr (oW a0 a1) :=
 fun a0 a1=>fa G [([0,1,1],fun e=>⟨Pp (gL .row e 0 0) (gL .row e 1 0)⟩)] ⟨fun _=>⟨rfl,lae G _ _⟩,trivial⟩ [(0,[0,1]),(1,[0,1,10]),(2,[4]),(8,[4])] [] [] (Qp a0 a1) rfl rfl (by kernel_rfl)
def vC (a0:LR) (a1:LR):Bool:=ocR (tC a0 a1)
def wC (a0:LR) (a1:LR):Prop:=uC a0 a1
def MJ:Spec:=⟨[(.lst .row),(.lst .row)],.one .fr .bool,false,fun x=>(vC x.1 x.2.1,0),fun x=>wC x.1 x.2.1⟩
theorem nae (G:Good Tryz.prog tt Kp):Con Tryz.prog 15 MJ :=
 Ca (pts:=[(.lst .row),(.lst .row)]) (rt:=.one .fr .bool) (o:=fun x=>tC x.1 x.2.1) (ob:=fun x=>uC x.1 x.2.1) G (fn:=Tryz.f15) (c:=ia Tryz.f15) (by kernel_rfl) (by kernel_rfl) (by kernel_rfl) (rs:=[.tmp 4]) (fz:=F15.fz) (by kernel_rfl) (by kernel_rfl) (fun _=>rfl) rfl (fun x=>oW x.1 x.2.1) (fun _=>⟨rfl,rfl,rfl,rfl,rfl⟩) (fun x _=>mae G x.1 x.2.1)
def pW:SP:=[(12,wu),(13,bI),(14,IJ),(15,MJ),(16,zo)]
abbrev F3:Fnn:=⟨[.tmp 2],.one .fr .bool,none,[]⟩
abbrev rv3:Bool→RV:=fun q=>(some (RT.av (.one .fr .bool) q),.dead)
abbrev Ok3 (fr:Fr) {A X Y Z:Type} (S:da Bool A X Y Z):Prop:=ua Tryz.prog tt ⟨Tryz.f3.ntmps,none,[]⟩ fr (ia Tryz.f3) F3 S
def Rp (a0:LB):Tr Bool Empty Empty Empty Empty :=
 .c (cmp .gtr (aa .byte a0) 1048576)
 (.l (.r true))
 (.k (Qg a0) fun u2=>.w [(ij a0)] (.k (ao (Plan.mk u2.1.Kind u2.1.Num u2.1.Kids) u2.2.1) fun u3=>.w [(eo (Plan.mk u2.1.Kind u2.1.Num u2.1.Kids) u2.2.1)] (.k (Ip (Plan.mk u2.1.Kind u2.1.Num u2.1.Kids) u2.2.1) fun u4=>.w [(Jp (Plan.mk u2.1.Kind u2.1.Num u2.1.Kids) u2.2.1)] (.k (vC u4.1 u3.1) fun u5=>.w [(((u4.2.1 == u3.2.1)&&true)=true→(wC u4.1 u3.1)),(((cond (cond (u4.2.1 == u3.2.1) u5 false) (cond u4.2.1 true (cmp .eql (aa .row u4.1) 0)) false)&&true)=true→(Xj u4.1))] (.l (.r (cond (cond (cond (u4.2.1 == u3.2.1) u5 false) (cond u4.2.1 true (cmp .eql (aa .row u4.1) 0)) false) (Wj u4.1) false)))))))
def Sp:=fun a0=>(Rp a0).val
def Tp:=fun a0=>(Rp a0).ob
def qW:=fun a0=>da.mk (Sp a0) (Tp a0) [] [(0,.S .byte a0)] rv3 nE nE nE nE
theorem oae (G:Good Tryz.prog tt pW) {fr:Fr}:∀ a0,Ok3 fr (qW a0) :=
 fun a0=>fa G [] trivial [(0,[0]),(1,[0,11]),(2,[2]),(3,[3,4]),(4,[3,4,5,6]),(5,[5,6,7,8]),(6,[2])] [] [] (Rp a0) rfl rfl (by kernel_rfl)
def xC (a0:LB):Bool:=ocR (Sp a0)
def yC (a0:LB):Prop:=Tp a0
def rW:Spec:=⟨[(.lst .byte)],.one .fr .bool,false,fun x=>(xC x.1,0),fun x=>yC x.1⟩
theorem pae (G:Good Tryz.prog tt pW):Con Tryz.prog 3 rW :=
 Ca (pts:=[(.lst .byte)]) (rt:=.one .fr .bool) (o:=fun x=>Sp x.1) (ob:=fun x=>Tp x.1) G (fn:=Tryz.f3) (c:=ia Tryz.f3) (by kernel_rfl) (by kernel_rfl) (by kernel_rfl) (rs:=[.tmp 2]) (fz:=F3.fz) (by kernel_rfl) (by kernel_rfl) (fun _=>rfl) rfl (fun x=>qW x.1) (fun _=>⟨rfl,rfl,rfl,rfl,rfl⟩) (fun x _=>oae G x.1)
end
end Go.Proofs.YthfkpijcajdnhaaGreat

namespace Go.Proofs.YthfkpijcajdnhaaGreat
namespace Dp
open Go
set_option maxRecDepth 100000
noncomputable def C:Code:=ia Tryz.f12
noncomputable def o5 (i:Nat):Oper:=opN (opsOf (nav C [1,1,1,1,0,1,0])) i
noncomputable def o7 (i:Nat):Oper:=opN (opsOf (nav C [1,1,1,1,1,0,1,0])) i
def E0:AV:=.box [(.fr,.int .i64 0),(.fr,.int .i64 0),(.fr,.nl .plan)]
def RD (b:LB) (p:Int):AV:=.box [(.sh,.lst .byte b),(.fr,.int .i64 p)]
def EP (p:Plan):AV:=.box [(.fr,.int .i64 p.Kind),(.fr,.int .i64 p.Num),(.fr,.lst .plan p.Kids)]
def LL (k:K) (l:List LR):AV:=.v k (.lst .lrow l)
abbrev N0:NP:=⟨30,none,[]⟩
theorem ops5:(o5 0).op=.move (.tmp 6)∧(o5 0).dst=some 19∧(o5 0).guard=none∧(o5 1).op=.slice 26 (.tmp 19) (some (.const (.int .i64 1))) none none∧(o5 1).dst=some 20∧(o5 1).guard=none ∧
  (o5 2).op=.assign (.tmp 20)∧(o5 2).dst=some 6∧(o5 2).guard=none∧List.range (opsOf (nav C [1,1,1,1,0,1,0])).size=[0,1,2] ∧
  (opsOf (nav C [1,1,1,1,0,1,0]))[0]? = some (o5 0)∧(opsOf (nav C [1,1,1,1,0,1,0]))[1]? = some (o5 1)∧(opsOf (nav C [1,1,1,1,0,1,0]))[2]? = some (o5 2) :=
 ⟨by kernel_rfl,by kernel_rfl,by kernel_rfl,by kernel_rfl,by kernel_rfl,by kernel_rfl,by kernel_rfl,by kernel_rfl,by kernel_rfl,by kernel_rfl,by kernel_rfl,by kernel_rfl,by kernel_rfl⟩
theorem ops7:(o7 0).op=.move (.tmp 6)∧(o7 0).dst=some 24∧(o7 0).guard=none∧(o7 1).dst=some 25∧(o7 1).guard=none∧(o7 2).dst=some 26∧(o7 2).guard=none ∧
  (o7 3).op=.indexAddr 26 (.tmp 24) (.const (.int .i64 0))∧(o7 3).dst=some 27∧(o7 3).guard=none∧List.range (opsOf (nav C [1,1,1,1,1,0,1,0])).size=[0,1,2,3,4] ∧
  (opsOf (nav C [1,1,1,1,1,0,1,0]))[0]? = some (o7 0)∧(opsOf (nav C [1,1,1,1,1,0,1,0]))[1]? = some (o7 1)∧(opsOf (nav C [1,1,1,1,1,0,1,0]))[2]? = some (o7 2)∧(opsOf (nav C [1,1,1,1,1,0,1,0]))[3]? = some (o7 3)∧(opsOf (nav C [1,1,1,1,1,0,1,0]))[4]? = some (o7 4) :=
 ⟨by kernel_rfl,by kernel_rfl,by kernel_rfl,by kernel_rfl,by kernel_rfl,by kernel_rfl,by kernel_rfl,by kernel_rfl,by kernel_rfl,by kernel_rfl,by kernel_rfl,by kernel_rfl,by kernel_rfl,by kernel_rfl,by kernel_rfl,by kernel_rfl⟩
section
variable {Q:Exit→Act→World→Prop} {B:Nat} {W0:World} {F0:Fz} {a:Act} {w:World} {p:Plan} {l:List LR}
theorem tail (G:Good Tryz.prog tt GG) (hs:MS N0 B [] W0 F0 [] [(2,E0),(5,EP p),(6,LL .sh l)] a w) (hQ:∀ a w,MS N0 B [] W0 F0 [] [(2,EP p),(3,LL .sh l)] a w→Q .ret a w):(nav C [1,1,1,1,1,1]).wp Tryz.prog Q a w:=by
 refine la (c1:=nav C [1,1,1,1,1,1,0]) (c2:=nav C [1,1,1,1,1,1,1]) (by kernel_rfl) ?_
 refine MS.regC G (keep:=[2,3]) (e':=[(2,EP p),(3,LL .sh l)]) (ps:=[]) (by kernel_rfl) trivial hs (fun a w hs=>?_)
 exact Bh (by kernel_rfl) (hQ a w hs)
abbrev U (b c:Nat):Value:=.slice (some ⟨b,0,none⟩) 2 c
abbrev V (b c:Nat):Value:=.slice (some ⟨b,1,none⟩) 1 (c - 1)
abbrev N5 (b c:Nat):NP:=⟨30,none,[(6,V b c),(20,V b c),(19,U b c)]⟩
theorem szL (w:World):(sizeOf 29).run Tryz.prog w=.ok 1 w:=by rfl
theorem oX {x y:LR} {r:LB} {q:Int} (hs:MS N0 B [] W0 F0 [] [(2,E0),(4,RD r q),(5,EP p),(6,LL (.own false) [x,y])] a w)
  (hQ:∀ b c a w,2≤c→MS (N5 b c) B [] W0 F0 [] [(19,LL (.own false) [x,y]),(2,E0),(4,RD r q),(5,EP p)] a w→Q .normal a w):(nav C [1,1,1,1,0,1,0]).wp Tryz.prog Q a w:=by
 obtain ⟨p0,d0,g0,p1,d1,g1,p2,d2,g2,hsz,a0,a1,a2⟩:=ops5
 obtain ⟨b,c,hv,hc⟩:=hs.ownv (s:=6) (f:=false) (t:=.lrow) (x:=x) (xs:=[y]) rfl
 have hv:a.tmps.getD 6 undef=U b c:=hv
 have hc:2≤c:=hc
 refine Mc (by kernel_rfl) hsz ?_
 rw[wpOps_cons]
 refine xa a0 g0 ?_
 refine Ka (Vd p0) ?_
 rw[d0,wpOps_cons]
 have h1:=hs.ren (s:=6) (d:=19) (by kernel_rfl) (by kernel_rfl) (by decide)
 rw[hv] at h1 ⊢
 refine xa a1 g1 ?_
 refine Ka (rZ p1 (h1.k (s:=19) (v:=U b c) (by simp)) (by omega) (by omega) hc (by omega) (e:=29) (sz:=1) (by kernel_rfl) szL) ?_
 rw[d1,wpOps_cons]
 have h2:=h1.val (d:=20) (by kernel_rfl) (v:=V b c) (av:=.dead) rfl (fun _ _=>trivial)
 refine xa a2 g2 ?_
 refine Ka (ul p2) ?_
 have hk:∀ {a:Act},a.tmps.getD 20 undef=V b c→a.tmps.getD 20 undef=V b c:=fun h=>h
 rw[d2]
 have h20:=h2.k (s:=20) (v:=V b c) (by simp)
 refine Bc _ ?_
 have h3:=h2.val (d:=6) (by kernel_rfl) (v:=V b c) (av:=.dead) rfl (fun _ _=>trivial)
 refine hQ b c _ _ hc ?_
 have h4:MS (N5 b c) B [] W0 F0 [] [(19,LL (.own false) [x,y]),(2,E0),(4,RD r q),(5,EP p)] _ _:=(h3.weak (na.cast (pat:=[(19,.same),(2,.same),(4,.same),(5,.same)]) (by kernel_rfl) (by kernel_rfl))).forget rfl rfl (fun p hp=>hp) (fun p hp=>hp)
 have e:(((a.put (some 19) (U b c)).put (some 20) (V b c)).tmps.getD 20 undef)=V b c:=h20
 exact e▸h4
theorem pX (G:Good Tryz.prog tt GG) {x y:LR} {r:LB} {q:Int} {b c:Nat} (ho:Vh (r,q)) (hs:MS (N5 b c) B [] W0 F0 [] [(19,LL (.own false) [x,y]),(2,E0),(4,RD r q),(5,EP p)] a w)
  (hQ:∀ a w,MS (N5 b c) B [] W0 F0 [] [(19,LL (.own false) [x,(Dd (r,q)).1]),(2,E0),(4,RD r (Dd (r,q)).2),(5,EP p)] a w→Q .normal a w):(nav C [1,1,1,1,1,0,1,0]).wp Tryz.prog Q a w:=by
 obtain ⟨p0,d0,g0,d1,g1,d2,g2,p3,d3,g3,hsz,a0,a1,a2,a3,a4⟩:=ops7
 refine Mc (by kernel_rfl) hsz ?_
 rw[wpOps_cons]
 refine xa a0 g0 ?_
 refine Ka (Vd p0) ?_
 have h6:=hs.k (s:=6) (v:=V b c) (by simp)
 rw[d0,wpOps_cons,h6]
 have h1:=hs.val (d:=24) (by kernel_rfl) (v:=V b c) (av:=.dead) rfl (fun _ _=>trivial)
 refine xa a1 g1 ?_
 refine h1.stepF G (ops:=opsOf (nav C [1,1,1,1,1,0,1,0])) (e':=[(25,.view 4 none),(24,.dead),(19,LL (.own false) [x,y]),(2,E0),(4,RD r q),(5,EP p)]) (ps:=[]) g1 (by kernel_rfl) trivial (fun d hd=>by rw[d1] at hd;cases hd;rfl) (fun a w h2=>?_)
 rw[wpOps_cons]
 refine xa a2 g2 ?_
 refine h2.stepF G (ops:=opsOf (nav C [1,1,1,1,1,0,1,0])) (e':=[(26,.v (.acc false) (.lst .row (Dd (r,q)).1)),(4,RD r (Dd (r,q)).2),(25,.view 4 none),(24,.dead),(19,LL (.own false) [x,y]),(2,E0),(4,RD r q),(5,EP p)]) (ps:=[Vh (r,q)]) g2 (by kernel_rfl) ⟨ho,trivial⟩ (fun d hd=>by rw[d2] at hd;cases hd;rfl) (fun a w h3=>?_)
 rw[wpOps_cons]
 refine xa a3 g3 ?_
 refine Ka (qZ p3 (h3.k (s:=24) (v:=V b c) (by simp)) (by omega) (by omega) (e:=29) (sz:=1) (by kernel_rfl) szL) ?_
 rw[d3]
 have h4:=h3.oput (d:=27) (s:=19) (f:=false) (t:=.lrow) (xs:=[x,y]) (by kernel_rfl) (by decide) rfl (h3.k (s:=19) (v:=U b c) (by simp)) (i:=1) (by simp)
 have h5:=h4.forget (N':=N5 b c) (obs':=[]) rfl rfl (fun p hp=>List.mem_cons_of_mem _ hp) (fun p hp=>hp)
 exact h5.suf G (ops:=opsOf (nav C [1,1,1,1,1,0,1,0])) (l:=[o7 4]) (i:=4) (keep:=[19,2,4,5]) (e':=[(19,LL (.own false) [x,(Dd (r,q)).1]),(2,E0),(4,RD r (Dd (r,q)).2),(5,EP p)]) (ps:=[inb 1 (aa .lrow [x,y])]) (fun j o hj=>by cases j with | zero=>simp at hj;rw[← hj];exact a4 | succ j=>simp at hj) (by kernel_rfl) (by kernel_rfl) ⟨⟨by omega,by unfold aa;simp⟩,trivial⟩ hQ
theorem mK {x y:LR} {r:LB} {q:Int} {b c:Nat} (hc:2≤c) (hs:MS (N5 b c) B [] W0 F0 [] [(19,LL (.own false) [x,y]),(2,E0),(4,RD r q),(5,EP p)] a w):MS N0 B [] W0 F0 [] [(2,E0),(5,EP p),(6,LL .sh [y])] a w:=by
 have h1:=(hs.freeze 19).weak (na.cast (e':=[(2,E0),(5,EP p),(19,LL (.acc false) [x,y])]) (pat:=[(2,.same),(5,.same),(19,.same)]) (by kernel_rfl) (by kernel_rfl))
 have h2:=h1.say (s:=19) (d:=6) (f:=false) (c:=.lst .lrow [x,y]) (c':=.lst .lrow [y]) (by kernel_rfl) rfl rfl (fun F h=>by
  rw[h1.k (s:=19) (v:=U b c) (by simp)] at h
  rw[h1.k (s:=6) (v:=V b c) (by simp)]
  have h3:=h.part (m:=1) (k:=2) (by omega) (by simp)
  have e:sliced (some ⟨b,0,none⟩) 1 2 c Ty.lrow.size=V b c:=by
   unfold sliced
   rw[if_neg (by omega)]
   rfl
  rw[e] at h3
  exact h3)
 exact (h2.weak (na.cast (pat:=[(2,.same),(5,.same),(6,.same)]) (by kernel_rfl) (by kernel_rfl))).forget rfl rfl (fun p hp=>by cases hp) (fun p hp=>hp)
end
theorem con (G:Good Tryz.prog tt GG):Con Tryz.prog 12 wu:=by
 refine Ai G.htt (fn:=Tryz.f12) (c:=C) (by kernel_rfl) (by kernel_rfl) (by kernel_rfl) (rs:=[.cell 2 25,.tmp 3]) (by kernel_rfl) (by kernel_rfl) (fun _=>rfl) ?_
 intro x hx fr hfB hfL hIO a w hs
 obtain ⟨B,IoB,W0,F0⟩:=fr
 have hIO:IoB=[]:=hIO rfl
 subst hIO
 obtain ⟨a0,u⟩:=x
 obtain ⟨o1,o2,o3,o4,o5,o6,o7⟩:=(show ij a0 from hx)
 have hms:MS N0 B [] W0 F0 [] [(0,.v .sh (.lst .byte a0))] a w:=(MS.of hs hfB).forget (by kernel_rfl) rfl (fun p h=>by cases h) (fun p h=>by cases h)
 have fin:∀ {p:Plan} {l:List LR} {a:Act} {w:World},Qg a0=(p,l,())→MS N0 B [] W0 F0 [] [(2,EP p),(3,LL .sh l)] a w →
   ∃ e,Sim ⟨(Tryz.f12).ntmps,none,[]⟩ B [] W0 F0 e a w∧Pq tt [.cell 2 25,.tmp 3] wu (a0,u) e:=fun {p l a w} hv hs=>by
  refine ⟨[(2,EP p),(3,LL .sh l)],(hs.forget (N':=⟨(Tryz.f12).ntmps,none,[]⟩) (obs':=[]) (by kernel_rfl) rfl (fun p h=>by cases h) (fun p h=>by cases h)).to,?_,trivial⟩
  show _=some (RT.av (.tup [(false,.st .plan),(false,.lst .lrow)]) (Qg a0))
  rw[hv]
  rfl
 refine la (c1:=nav C [0]) (c2:=nav C [1]) (by kernel_rfl) ?_
 refine MS.regC G (keep:=[0,2]) (e':=[(0,.v .sh (.lst .byte a0)),(2,E0)]) (ps:=[]) (by kernel_rfl) trivial hms (fun a w hs=>?_)
 show (nav C [1]).wp _ _ a w
 refine la (c1:=nav C [1,0]) (c2:=nav C [1,1]) (by kernel_rfl) ?_
 generalize hr:Kg a0=r at o2 o3 o4 o5 o6 o7
 have hv0:Qg a0=(let r:=r;let p:=Ue (r.1,r.2);let a:=Gc (r.1,p.2) 5;let b:=Gc (r.1,a.2) 5;let c:=va (r.1,b.2) 30
  let i:=cond (cmp .eql c.1 0) [b.1] [a.1,b.1];let d:=va (r.1,c.2) 30;let y:=Dd (r.1,d.2);(p.1,cond (cmp .eql d.1 0) (y.1::i.tail) i,())):=by rw[← hr];rfl
 refine MS.regC G (keep:=[2,4]) (e':=[(2,E0),(4,RD (Kg a0).1 (Kg a0).2)]) (ps:=[Yl a0]) (by kernel_rfl) ⟨o1,trivial⟩ hs (fun a w hs=>?_)
 rw[hr] at hs
 show (nav C [1,1]).wp _ _ a w
 refine la (c1:=nav C [1,1,0]) (c2:=nav C [1,1,1]) (by kernel_rfl) ?_
 refine MS.regC G (keep:=[2,4,5]) (e':=[(2,E0),(4,RD r.1 (Ue (r.1,r.2)).2),(5,EP (Ue (r.1,r.2)).1)]) (ps:=[bm (r.1,r.2)]) (by kernel_rfl) ⟨o2,trivial⟩ hs (fun a w hs=>?_)
 show (nav C [1,1,1]).wp _ _ a w
 refine la (c1:=nav C [1,1,1,0]) (c2:=nav C [1,1,1,1]) (by kernel_rfl) ?_
 simp only[] at hv0
 generalize Ue (r.1,r.2)=p at hs o3 o4 o5 o6 o7 hv0
 refine MS.regC G (keep:=[2,4,5,6]) (e':=[(2,E0),(4,RD r.1 (Gc (r.1,(Gc (r.1,p.2) 5).2) 5).2),(5,EP p.1),(6,LL (.acc false) [(Gc (r.1,p.2) 5).1,(Gc (r.1,(Gc (r.1,p.2) 5).2) 5).1])]) (ps:=[Uh (r.1,p.2) 5,Uh (r.1,(Gc (r.1,p.2) 5).2) 5]) (by kernel_rfl) ⟨o3,o4,trivial⟩ hs (fun a w hs=>?_)
 show (nav C [1,1,1,1]).wp _ _ a w
 generalize Gc (r.1,p.2) 5=x at hs o4 o5 o6 o7 hv0
 generalize Gc (r.1,x.2) 5=y at hs o5 o6 o7 hv0
 refine la (c1:=nav C [1,1,1,1,0]) (c2:=nav C [1,1,1,1,1]) (by kernel_rfl) ?_
 refine la (c1:=nav C [1,1,1,1,0,0]) (c2:=nav C [1,1,1,1,0,1]) (by kernel_rfl) ?_
 have hs1:=hs.weak ((pZ 6 (e':=[(6,LL (.own false) [x.1,y.1]),(2,E0),(4,RD r.1 y.2),(5,EP p.1),(6,LL (.acc false) [x.1,y.1])]) (by kernel_rfl)).trans (na.cast (e':=[(2,E0),(4,RD r.1 y.2),(5,EP p.1),(6,LL (.own false) [x.1,y.1])]) (pat:=[(2,.same),(4,.same),(5,.same),(6,.same)]) (by kernel_rfl) (by kernel_rfl)))
 generalize hk:va (r.1,y.2) 30=k at o5 o6 o7 hv0
 refine MS.regC G (keep:=[2,4,5,6,18]) (e':=[(2,E0),(4,RD r.1 (va (r.1,y.2) 30).2),(5,EP p.1),(6,LL (.own false) [x.1,y.1]),(18,.v .fr (.bool (cmp .eql (va (r.1,y.2) 30).1 0)))]) (ps:=[Fb (r.1,y.2) 30]) (by kernel_rfl) ⟨o5,trivial⟩ hs1 (fun a w hs=>?_)
 rw[hk] at hs
 show (nav C [1,1,1,1,0,1]).wp _ _ a w
 refine Ac (o:=.tmp 18) (c1:=nav C [1,1,1,1,0,1,0]) (c2:=nav C [1,1,1,1,0,1,1]) (by kernel_rfl) (hs.bool (k:=.fr) rfl) (fun ht=>?_) (fun hf=>Sc (by kernel_rfl) ?_)
 ·have hs2:=hs.weak (na.cast (e':=[(2,E0),(4,RD r.1 k.2),(5,EP p.1),(6,LL (.own false) [x.1,y.1])]) (pat:=[(2,.same),(4,.same),(5,.same),(6,.same)]) (by kernel_rfl) (by kernel_rfl))
  refine oX hs2 (fun b c a w hc hs=>?_)
  show (nav C [1,1,1,1,1]).wp _ _ a w
  refine la (c1:=nav C [1,1,1,1,1,0]) (c2:=nav C [1,1,1,1,1,1]) (by kernel_rfl) ?_
  refine la (c1:=nav C [1,1,1,1,1,0,0]) (c2:=nav C [1,1,1,1,1,0,1]) (by kernel_rfl) ?_
  generalize hk2:va (r.1,k.2) 30=m at o6 o7 hv0
  refine MS.regC G (keep:=[19,2,4,5,23]) (e':=[(19,LL (.own false) [x.1,y.1]),(2,E0),(4,RD r.1 (va (r.1,k.2) 30).2),(5,EP p.1),(23,.v .fr (.bool (cmp .eql (va (r.1,k.2) 30).1 0)))]) (ps:=[Fb (r.1,k.2) 30]) (by kernel_rfl) ⟨o6,trivial⟩ hs (fun a w hs=>?_)
  rw[hk2] at hs
  show (nav C [1,1,1,1,1,0,1]).wp _ _ a w
  refine Ac (o:=.tmp 23) (c1:=nav C [1,1,1,1,1,0,1,0]) (c2:=nav C [1,1,1,1,1,0,1,1]) (by kernel_rfl) (hs.bool (k:=.fr) rfl) (fun ht2=>?_) (fun hf2=>Sc (by kernel_rfl) ?_)
  ·have hs3:=hs.weak (na.cast (e':=[(19,LL (.own false) [x.1,y.1]),(2,E0),(4,RD r.1 m.2),(5,EP p.1)]) (pat:=[(19,.same),(2,.same),(4,.same),(5,.same)]) (by kernel_rfl) (by kernel_rfl))
   refine pX G (o7 ht2) hs3 (fun a w hs=>?_)
   show (nav C [1,1,1,1,1,1]).wp _ _ a w
   refine tail G (mK hc hs) (fun a w hs=>fin ?_ hs)
   rw[hv0,ht,ht2]
   rfl
  ·have hs3:=hs.weak (na.cast (e':=[(19,LL (.own false) [x.1,y.1]),(2,E0),(4,RD r.1 m.2),(5,EP p.1)]) (pat:=[(19,.same),(2,.same),(4,.same),(5,.same)]) (by kernel_rfl) (by kernel_rfl))
   show (nav C [1,1,1,1,1,1]).wp _ _ a w
   refine tail G (mK hc hs3) (fun a w hs=>fin ?_ hs)
   rw[hv0,ht,hf2]
   rfl
 ·show (nav C [1,1,1,1,1]).wp _ _ a w
  refine la (c1:=nav C [1,1,1,1,1,0]) (c2:=nav C [1,1,1,1,1,1]) (by kernel_rfl) ?_
  refine la (c1:=nav C [1,1,1,1,1,0,0]) (c2:=nav C [1,1,1,1,1,0,1]) (by kernel_rfl) ?_
  generalize hk2:va (r.1,k.2) 30=m at o6 o7 hv0
  refine MS.regC G (keep:=[2,4,5,6,23]) (e':=[(2,E0),(4,RD r.1 (va (r.1,k.2) 30).2),(5,EP p.1),(6,LL (.own false) [x.1,y.1]),(23,.v .fr (.bool (cmp .eql (va (r.1,k.2) 30).1 0)))]) (ps:=[Fb (r.1,k.2) 30]) (by kernel_rfl) ⟨o6,trivial⟩ hs (fun a w hs=>?_)
  rw[hk2] at hs
  show (nav C [1,1,1,1,1,0,1]).wp _ _ a w
  refine Ac (o:=.tmp 23) (c1:=nav C [1,1,1,1,1,0,1,0]) (c2:=nav C [1,1,1,1,1,0,1,1]) (by kernel_rfl) (hs.bool (k:=.fr) rfl) (fun ht2=>?_) (fun hf2=>Sc (by kernel_rfl) ?_)
  ·refine MS.regC G (keep:=[2,5,6]) (e':=[(2,E0),(5,EP p.1),(6,LL (.own false) [(Dd (r.1,m.2)).1,y.1])]) (ps:=[Vh (r.1,m.2),inb 0 (aa .lrow [x.1,y.1]),inb 0 (aa .lrow [x.1,y.1])]) (by kernel_rfl) ⟨o7 ht2,⟨by omega,by unfold aa;simp⟩,⟨by omega,by unfold aa;simp⟩,trivial⟩ hs (fun a w hs=>?_)
   show (nav C [1,1,1,1,1,1]).wp _ _ a w
   refine tail G ((hs.freeze 6).weak (na.cast (e':=[(2,E0),(5,EP p.1),(6,LL .sh [(Dd (r.1,m.2)).1,y.1])]) (pat:=[(2,.same),(5,.same),(6,.sh)]) (by kernel_rfl) (by kernel_rfl))) (fun a w hs=>fin ?_ hs)
   rw[hv0,hf,ht2]
   rfl
  ·show (nav C [1,1,1,1,1,1]).wp _ _ a w
   refine tail G ((hs.freeze 6).weak (na.cast (e':=[(2,E0),(5,EP p.1),(6,LL .sh [x.1,y.1])]) (pat:=[(2,.same),(5,.same),(6,.sh)]) (by kernel_rfl) (by kernel_rfl))) (fun a w hs=>fin ?_ hs)
   rw[hv0,hf,hf2]
   rfl
end Dp
end Go.Proofs.YthfkpijcajdnhaaGreat
