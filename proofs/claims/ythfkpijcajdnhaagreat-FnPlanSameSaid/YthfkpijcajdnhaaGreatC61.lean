/-
  Printed by a program: what functions compute, and their contracts (part 2). 'DrawPlanFlow' by hand: a list of lists that is cut and written. What is drawn for laws of loops: bounds. Sums over changes, and what is left of them when they are put in order. Sums but for multiples of 2 to the power of 64: what is left of changes put in order depends on these alone. Maps from structs of numbers to 'true': sets; how the machine's operations on them run. What plans make of batches: a model of the operators. Rows, batches, and what they come to at a time: what the program's functions and the reference's compute. What operators make of changes sums up, at each time, to what they make of the sums. What an aggregate makes of changes sums up, at each time, to what it makes of the sums. Batches aggregated: the program's function and the reference's. What a plan makes of batches sums up, at each time, to what it makes of the sums. No statement is proved here.
-/
import Derived.Test.YthfkpijcajdnhaaGreatB2
import Derived.IntWalk

namespace Go.Proofs.YthfkpijcajdnhaaGreat
open Go
noncomputable section
set_option maxRecDepth 100000
def Wal:SP:=[(45,xo),(49,po),(50,iJ)]
abbrev F20:Fnn:=⟨[.tmp 4],.one .fr (.lst .item),none,[]⟩
abbrev rao:LI→RV:=fun q=>(some (RT.av (.one .fr (.lst .item)) q),.dead)
abbrev sao (fr:Fr) {A X Y Z:Type} (S:da LI A X Y Z):Prop:=ua Tryz.prog tt ⟨Tryz.f20.ntmps,none,[]⟩ fr (ia Tryz.f20) F20 S
def Hai (a0:LR) (a1:Time):Tr LI Empty Empty Empty Empty :=
 .w [(wo a0),(((!(!(vo a0)))&&true)=true→(mo a1))] (.c (cond (!(vo a0)) true (!(fi a1)))
 (.l (.r []))
 (.w [(To a0 a1)] (.l (.r (So a0 a1)))))
def Iai:=fun a0 a1=>(Hai a0 a1).val
def Jai:=fun a0 a1=>(Hai a0 a1).ob
def Xal:=fun a0 a1=>da.mk (Iai a0 a1) (Jai a0 a1) [] [(0,.S .row a0),(1,.agg true [.i a1.A,.i a1.B])] rao nE nE nE nE
theorem tao (G:Good Tryz.prog tt Wal) {fr:Fr}:∀ a0 a1,sao fr (Xal a0 a1) :=
 fun a0 a1=>fa G [] trivial [(0,[0,3]),(1,[0,3,12]),(2,[4]),(3,[4])] [] [] (Hai a0 a1) rfl rfl (by kernel_rfl)
def Tah (a0:LR) (a1:Time):LI:=ocR (Iai a0 a1)
def Uah (a0:LR) (a1:Time):Prop:=Jai a0 a1
def Kai:Spec:=⟨[(.lst .row),(.st .time)],.one .fr (.lst .item),false,fun x=>(Tah x.1 x.2.1,0),fun x=>Uah x.1 x.2.1⟩
theorem uao (G:Good Tryz.prog tt Wal):Con Tryz.prog 20 Kai :=
 Ca (pts:=[(.lst .row),(.st .time)]) (rt:=.one .fr (.lst .item)) (o:=fun x=>Iai x.1 x.2.1) (ob:=fun x=>Jai x.1 x.2.1) G (fn:=Tryz.f20) (c:=ia Tryz.f20) (by kernel_rfl) (by kernel_rfl) (by kernel_rfl) (rs:=[.tmp 4]) (fz:=F20.fz) (by kernel_rfl) (by kernel_rfl) (fun _=>rfl) rfl (fun x=>Xal x.1 x.2.1) (fun _=>⟨rfl,rfl,rfl,rfl,rfl⟩) (fun x _=>tao G x.1 x.2.1)
def Vah:SP:=[]
abbrev F21:Fnn:=⟨[.tmp 4],.one .fr .bool,none,[]⟩
abbrev Nak:Bool→RV:=fun q=>(some (RT.av (.one .fr .bool) q),.dead)
abbrev Lai (fr:Fr) {A X Y Z:Type} (S:da Bool A X Y Z):Prop:=ua Tryz.prog tt ⟨Tryz.f21.ntmps,none,[]⟩ fr (ia Tryz.f21) F21 S
def vah (x4 x5:LI) (s9:Int):Tr Bool Int Unit Empty Empty :=
 .c (cmp .lss s9 (aa .item x4))
 (.w [inb s9 (aa .item x4),inb s9 (aa .item x5)] (.c (!(cmp .eql (rd .item x4 s9).Key (rd .item x5 s9).Key&&(cmp .eql (rd .item x4 s9).Val (rd .item x5 s9).Val&&(cmp .eql (rd .item x4 s9).Count (rd .item x5 s9).Count&&true))))
 (.l (.r false))
 (.l (.n (ar .add .i64 s9 1)))))
 (.l (.x ()))
def mah:=fun x4 x5 s9=>(vah x4 x5 s9).val
def Wah:=fun x4 x5 s9=>(vah x4 x5 s9).ob
def Oak:=fun x4 x5 s9=>Na (mah x4 x5 s9) (Wah x4 x5 s9) [0,0,1,0,1,1] (fun q=>[(0,.S .item x4),(1,.S .item x5),(5,.I q)]) s9 Nak (fun _=>(0,[])) nE nE
theorem vao (G:Good Tryz.prog tt Vah) {fr:Fr}:∀ x4 x5 s9,Lai fr (Oak x4 x5 s9) :=
 fun x4 x5 s9=>fa G [] trivial [(4,[0,1,5,14]),(5,[0,1,5]),(6,[0,1,5,25]),(7,[4])] [] [] (vah x4 x5 s9) rfl rfl (by kernel_rfl)
def Pak:=fun x4 x5=>lpV (fun s:Int=>ca (mah x4 x5 s)) 0
def Yal:=fun x4 x5=>LpT (fun s:Int=>ca (mah x4 x5 s)) (fun s=>Wah x4 x5 s) 0
def Xah:=fun x4 x5=>lpS (Oak x4 x5 0) (Pak x4 x5) (Yal x4 x5)
theorem wao (G:Good Tryz.prog tt Vah) {fr:Fr}:∀ x4 x5,Lai fr (Xah x4 x5) :=
 fun x4 x5=>Oa (fun s:Int=>Oak x4 x5 s) 0 (fun _=>rfl) (fun _=>⟨rfl,rfl,rfl,rfl,rfl⟩) (by kernel_rfl) fun _=>vao G _ _ _
def Yah (x2 x3:LI):Tr Bool Unit Empty Empty Empty :=
 .s (Xah x2 x3) nE (fun _=>.l (.n ())) nE nE
def Qak:=fun x2 x3=>(Yah x2 x3).val
def Rak:=fun x2 x3=>(Yah x2 x3).ob
def wah:=fun x2 x3=>da.mk (Qak x2 x3) (Rak x2 x3) [0,1,1] [(0,.S .item x2),(1,.S .item x3)] Nak (fun _=>[]) nE nE nE
theorem xao (G:Good Tryz.prog tt Vah) {fr:Fr}:∀ x2 x3,Lai fr (wah x2 x3) :=
 fun x2 x3=>fa G [([0,1,0,1,1],fun e=>⟨Xah (gL .item e 0 0) (gL .item e 1 0)⟩)] ⟨fun _=>⟨rfl,wao G _ _⟩,trivial⟩ [(3,[0,1,5])] [] [] (Yah x2 x3) rfl rfl (by kernel_rfl)
def xah (a0 a1:LI):Tr Bool Empty Empty Empty Empty :=
 .c (cmp .neq (aa .item a0) (aa .item a1))
 (.l (.r false))
 (.s (wah a0 a1) (fun _=>.l (.r true)) nE nE nE)
def yah:=fun a0 a1=>(xah a0 a1).val
def zah:=fun a0 a1=>(xah a0 a1).ob
def Zal:=fun a0 a1=>da.mk (yah a0 a1) (zah a0 a1) [] [(0,.S .item a0),(1,.S .item a1)] Nak nE nE nE nE
theorem yao (G:Good Tryz.prog tt Vah) {fr:Fr}:∀ a0 a1,Lai fr (Zal a0 a1) :=
 fun a0 a1=>fa G [([0,1,1],fun e=>⟨wah (gL .item e 0 0) (gL .item e 1 0)⟩)] ⟨fun _=>⟨rfl,xao G _ _⟩,trivial⟩ [(0,[0,1]),(1,[0,1,10]),(2,[4]),(8,[4])] [] [] (xah a0 a1) rfl rfl (by kernel_rfl)
def Aah (a0:LI) (a1:LI):Bool:=ocR (yah a0 a1)
def Bah (a0:LI) (a1:LI):Prop:=zah a0 a1
def Sak:Spec:=⟨[(.lst .item),(.lst .item)],.one .fr .bool,false,fun x=>(Aah x.1 x.2.1,0),fun x=>Bah x.1 x.2.1⟩
theorem zao (G:Good Tryz.prog tt Vah):Con Tryz.prog 21 Sak :=
 Ca (pts:=[(.lst .item),(.lst .item)]) (rt:=.one .fr .bool) (o:=fun x=>yah x.1 x.2.1) (ob:=fun x=>zah x.1 x.2.1) G (fn:=Tryz.f21) (c:=ia Tryz.f21) (by kernel_rfl) (by kernel_rfl) (by kernel_rfl) (rs:=[.tmp 4]) (fz:=F21.fz) (by kernel_rfl) (by kernel_rfl) (fun _=>rfl) rfl (fun x=>Zal x.1 x.2.1) (fun _=>⟨rfl,rfl,rfl,rfl,rfl⟩) (fun x _=>yao G x.1 x.2.1)
def tay:SP:=[(12,wu),(13,bI),(14,IJ),(15,MJ),(20,Kai),(21,Sak)]
abbrev F8:Fnn:=⟨[.tmp 2],.one .fr .bool,none,[]⟩
abbrev rv8:Bool→RV:=fun q=>(some (RT.av (.one .fr .bool) q),.dead)
abbrev Ok8 (fr:Fr) {A X Y Z:Type} (S:da Bool A X Y Z):Prop:=ua Tryz.prog tt ⟨Tryz.f8.ntmps,none,[]⟩ fr (ia Tryz.f8) F8 S
def yay (_x82 _x83:Int) (_x84:LP) (_x85:List LR) (_x86:LR) (_x87:List LR) (_x88:Int) (x89:LI) (s93:LR) (s94:Int):Tr Bool (LR×Int) LR Empty Empty :=
 .c (cmp .lss s94 (aa .item x89))
 (.w [inb s94 (aa .item x89),inb s94 (aa .item x89),inb s94 (aa .item x89),lim (aa .row s93) (aa .row [(Row.mk (rd .item x89 s94).Key (rd .item x89 s94).Val (Time.mk 0 0) (rd .item x89 s94).Count)])] (.l (.n ((s93++[(Row.mk (rd .item x89 s94).Key (rd .item x89 s94).Val (Time.mk 0 0) (rd .item x89 s94).Count)]),(ar .add .i64 s94 1)))))
 (.l (.x s93))
def uay:=fun x82 x83 x84 x85 x86 x87 x88 x89 s93 s94=>(yay x82 x83 x84 x85 x86 x87 x88 x89 s93 s94).val
def zay:=fun x82 x83 x84 x85 x86 x87 x88 x89 s93 s94=>(yay x82 x83 x84 x85 x86 x87 x88 x89 s93 s94).ob
def Uay:=fun x82 x83 x84 x85 x86 x87 x88 x89 s93 s94=>Na (uay x82 x83 x84 x85 x86 x87 x88 x89 s93 s94) (zay x82 x83 x84 x85 x86 x87 x88 x89 s93 s94) [0,0,1,0,1,1,0,0,1,0,0,1,0,1,1,1,1,1,1,1,1] (fun q=>[(3,.box [(.fr,.i x82),(.fr,.i x83),(.sh,.lst .plan x84)]),(4,.S .lrow x85),(7,.S .row x86),(9,.box [(.fr,.i 7),(.fr,.i 7)]),(10,.A .lrow x87),(11,.I x88),(12,.A .row q.1),(13,.v .fr (.lst .item x89)),(14,.I q.2)]) (s93,s94) rv8 (fun q=>(2,[(3,.box [(.fr,.i x82),(.fr,.i x83),(.sh,.lst .plan x84)]),(4,.S .lrow x85),(7,.S .row x86),(9,.box [(.fr,.i 7),(.fr,.i 7)]),(10,.A .lrow x87),(11,.I x88),(12,.A .row q)])) nE nE
theorem saz (G:Good Tryz.prog tt tay) {fr:Fr}:∀ x82 x83 x84 x85 x86 x87 x88 x89 s93 s94,Ok8 fr (Uay x82 x83 x84 x85 x86 x87 x88 x89 s93 s94) :=
 fun x82 x83 x84 x85 x86 x87 x88 x89 s93 s94=>fa G [] trivial [(16,[3,4,7,9,10,11,12,13,14,77]),(17,[3,4,7,9,10,11,12,13,14]),(18,[3,4,7,9,10,11,12,13,14])] [] [] (yay x82 x83 x84 x85 x86 x87 x88 x89 s93 s94) rfl rfl (by kernel_rfl)
def aaz:=fun x82 x83 x84 x85 x86 x87 x88 x89=>lpV (fun s:LR×Int=>ca (uay x82 x83 x84 x85 x86 x87 x88 x89 s.1 s.2)) ([],0)
def baz:=fun x82 x83 x84 x85 x86 x87 x88 x89=>LpT (fun s:LR×Int=>ca (uay x82 x83 x84 x85 x86 x87 x88 x89 s.1 s.2)) (fun s=>zay x82 x83 x84 x85 x86 x87 x88 x89 s.1 s.2) ([],0)
def Hay:=fun x82 x83 x84 x85 x86 x87 x88 x89=>lpS (Uay x82 x83 x84 x85 x86 x87 x88 x89 [] 0) (aaz x82 x83 x84 x85 x86 x87 x88 x89) (baz x82 x83 x84 x85 x86 x87 x88 x89)
theorem taz (G:Good Tryz.prog tt tay) {fr:Fr}:∀ x82 x83 x84 x85 x86 x87 x88 x89,Ok8 fr (Hay x82 x83 x84 x85 x86 x87 x88 x89) :=
 fun x82 x83 x84 x85 x86 x87 x88 x89=>Oa (fun s:LR×Int=>Uay x82 x83 x84 x85 x86 x87 x88 x89 s.1 s.2) ([],0) (fun _=>rfl) (fun _=>⟨rfl,rfl,rfl,rfl,rfl⟩) (by kernel_rfl) fun _=>saz G _ _ _ _ _ _ _ _ _ _
def Iay (x74 x75:Int) (x76:LP) (x77:List LR) (x78:LR) (x79:List LR) (x80:Int) (x81:LI):Tr Bool LR Empty Empty Empty :=
 .s (Hay x74 x75 x76 x77 x78 x79 x80 x81) nE (fun q103=>.l (.n q103)) nE nE
def caz:=fun x74 x75 x76 x77 x78 x79 x80 x81=>(Iay x74 x75 x76 x77 x78 x79 x80 x81).val
def daz:=fun x74 x75 x76 x77 x78 x79 x80 x81=>(Iay x74 x75 x76 x77 x78 x79 x80 x81).ob
def Jay:=fun x74 x75 x76 x77 x78 x79 x80 x81=>da.mk (caz x74 x75 x76 x77 x78 x79 x80 x81) (daz x74 x75 x76 x77 x78 x79 x80 x81) [0,1,1,0,0,1,0,0,1,0,1,1,1,1,1,1,1,1] [(3,.box [(.fr,.i x74),(.fr,.i x75),(.sh,.lst .plan x76)]),(4,.S .lrow x77),(7,.S .row x78),(9,.box [(.fr,.i 7),(.fr,.i 7)]),(10,.A .lrow x79),(11,.I x80),(12,.A .row []),(13,.v .fr (.lst .item x81))] rv8 (fun q=>[(3,.box [(.fr,.i x74),(.fr,.i x75),(.sh,.lst .plan x76)]),(4,.S .lrow x77),(7,.S .row x78),(9,.box [(.fr,.i 7),(.fr,.i 7)]),(10,.A .lrow x79),(11,.I x80),(12,.A .row q)]) nE nE nE
theorem uaz (G:Good Tryz.prog tt tay) {fr:Fr}:∀ x74 x75 x76 x77 x78 x79 x80 x81,Ok8 fr (Jay x74 x75 x76 x77 x78 x79 x80 x81) :=
 fun x74 x75 x76 x77 x78 x79 x80 x81=>fa G [([0,1,0,1,1,0,0,1,0,0,1,0,1,1,1,1,1,1,1,1],fun e=>⟨Hay (gI e 3 0) (gI e 3 1) (gL .plan e 3 2) (gL .lrow e 4 0) (gL .row e 7 0) (gL .lrow e 10 0) (gI e 11 0) (gL .item e 13 0)⟩)] ⟨fun _=>⟨rfl,taz G _ _ _ _ _ _ _ _⟩,trivial⟩ [(15,[3,4,7,9,10,11,12,13,14])] [] [] (Iay x74 x75 x76 x77 x78 x79 x80 x81) rfl rfl (by kernel_rfl)
def Kay (x66 x67:Int) (x68:LP) (x69:List LR) (x70:LR) (x71:List LR) (x72:Int):Tr Bool ((List LR)) Empty Empty Empty :=
 .w [inb x72 (aa .lrow x69),(Uah (rd .lrow x69 x72) (Time.mk 7 7))] (.s (Jay x66 x67 x68 x69 x70 x71 x72 (Tah (rd .lrow x69 x72) (Time.mk 7 7))) (fun q106=>.w [lim (aa .lrow x71) (aa .lrow [q106])] (.l (.n (x71++[q106])))) nE nE nE)
def eaz:=fun x66 x67 x68 x69 x70 x71 x72=>(Kay x66 x67 x68 x69 x70 x71 x72).val
def faz:=fun x66 x67 x68 x69 x70 x71 x72=>(Kay x66 x67 x68 x69 x70 x71 x72).ob
def Lay:=fun x66 x67 x68 x69 x70 x71 x72=>da.mk (eaz x66 x67 x68 x69 x70 x71 x72) (faz x66 x67 x68 x69 x70 x71 x72) [0,1,0,0,1,0,1,1,1,1,1,1,1,1] [(3,.box [(.fr,.i x66),(.fr,.i x67),(.sh,.lst .plan x68)]),(4,.S .lrow x69),(7,.S .row x70),(9,.box [(.fr,.i 7),(.fr,.i 7)]),(10,.A .lrow x71),(11,.I x72)] rv8 (fun q=>[(3,.box [(.fr,.i x66),(.fr,.i x67),(.sh,.lst .plan x68)]),(4,.S .lrow x69),(7,.S .row x70),(9,.box [(.fr,.i 7),(.fr,.i 7)]),(10,.A .lrow q),(11,.I x72)]) nE nE nE
theorem vaz (G:Good Tryz.prog tt tay) {fr:Fr}:∀ x66 x67 x68 x69 x70 x71 x72,Ok8 fr (Lay x66 x67 x68 x69 x70 x71 x72) :=
 fun x66 x67 x68 x69 x70 x71 x72=>fa G [([0,1,1,0,0,1,0,0,1,0,1,1,1,1,1,1,1,1],fun e=>⟨Jay (gI e 3 0) (gI e 3 1) (gL .plan e 3 2) (gL .lrow e 4 0) (gL .row e 7 0) (gL .lrow e 10 0) (gI e 11 0) (gL .item e 13 0)⟩)] ⟨fun _=>⟨rfl,uaz G _ _ _ _ _ _ _ _⟩,trivial⟩ [(13,[3,4,7,9,10,11,12]),(14,[3,4,7,9,10,11,12,13]),(19,[3,4,7,9,10,11])] [] [] (Kay x66 x67 x68 x69 x70 x71 x72) rfl rfl (by kernel_rfl)
def Aay (x12 x13:Int) (x14:LP) (x15:List LR) (x16:LR) (s63:List LR) (s64:Int):Tr Bool ((List LR)×Int) ((List LR)) Empty Empty :=
 .c (cmp .lss s64 (aa .lrow x15))
 (.s (Lay x12 x13 x14 x15 x16 s63 s64) (fun q111=>.l (.n (q111,(ar .add .i64 s64 1)))) nE nE nE)
 (.l (.x s63))
def vay:=fun x12 x13 x14 x15 x16 s63 s64=>(Aay x12 x13 x14 x15 x16 s63 s64).val
def Bay:=fun x12 x13 x14 x15 x16 s63 s64=>(Aay x12 x13 x14 x15 x16 s63 s64).ob
def Vay:=fun x12 x13 x14 x15 x16 s63 s64=>Na (vay x12 x13 x14 x15 x16 s63 s64) (Bay x12 x13 x14 x15 x16 s63 s64) [0,0,1,0,1,1,1,1,1,1,1,1] (fun q=>[(3,.box [(.fr,.i x12),(.fr,.i x13),(.sh,.lst .plan x14)]),(4,.S .lrow x15),(7,.S .row x16),(9,.box [(.fr,.i 7),(.fr,.i 7)]),(10,.A .lrow q.1),(11,.I q.2)]) (s63,s64) rv8 (fun q=>(0,[(3,.box [(.fr,.i x12),(.fr,.i x13),(.sh,.lst .plan x14)]),(7,.S .row x16),(9,.box [(.fr,.i 7),(.fr,.i 7)]),(10,.A .lrow q)])) nE nE
theorem waz (G:Good Tryz.prog tt tay) {fr:Fr}:∀ x12 x13 x14 x15 x16 s63 s64,Ok8 fr (Vay x12 x13 x14 x15 x16 s63 s64) :=
 fun x12 x13 x14 x15 x16 s63 s64=>fa G [([0,1,0,0,1,0,1,1,1,1,1,1,1,1],fun e=>⟨Lay (gI e 3 0) (gI e 3 1) (gL .plan e 3 2) (gL .lrow e 4 0) (gL .row e 7 0) (gL .lrow e 10 0) (gI e 11 0)⟩)] ⟨fun _=>⟨rfl,vaz G _ _ _ _ _ _ _⟩,trivial⟩ [(11,[3,4,7,9,10,11,64]),(12,[3,4,7,9,10,11])] [] [] (Aay x12 x13 x14 x15 x16 s63 s64) rfl rfl (by kernel_rfl)
def gaz:=fun x12 x13 x14 x15 x16=>lpV (fun s:(List LR)×Int=>ca (vay x12 x13 x14 x15 x16 s.1 s.2)) ([],0)
def haz:=fun x12 x13 x14 x15 x16=>LpT (fun s:(List LR)×Int=>ca (vay x12 x13 x14 x15 x16 s.1 s.2)) (fun s=>Bay x12 x13 x14 x15 x16 s.1 s.2) ([],0)
def May:=fun x12 x13 x14 x15 x16=>lpS (Vay x12 x13 x14 x15 x16 [] 0) (gaz x12 x13 x14 x15 x16) (haz x12 x13 x14 x15 x16)
theorem xaz (G:Good Tryz.prog tt tay) {fr:Fr}:∀ x12 x13 x14 x15 x16,Ok8 fr (May x12 x13 x14 x15 x16) :=
 fun x12 x13 x14 x15 x16=>Oa (fun s:(List LR)×Int=>Vay x12 x13 x14 x15 x16 s.1 s.2) ([],0) (fun _=>rfl) (fun _=>⟨rfl,rfl,rfl,rfl,rfl⟩) (by kernel_rfl) fun _=>waz G _ _ _ _ _ _ _
def Nay (x7 x8:Int) (x9:LP) (x10:List LR) (x11:LR):Tr Bool ((List LR)) Empty Empty Empty :=
 .s (May x7 x8 x9 x10 x11) nE (fun q122=>.l (.n q122)) nE nE
def iaz:=fun x7 x8 x9 x10 x11=>(Nay x7 x8 x9 x10 x11).val
def jaz:=fun x7 x8 x9 x10 x11=>(Nay x7 x8 x9 x10 x11).ob
def Oay:=fun x7 x8 x9 x10 x11=>da.mk (iaz x7 x8 x9 x10 x11) (jaz x7 x8 x9 x10 x11) [0,1,1,1,1,1,1,1,1] [(3,.box [(.fr,.i x7),(.fr,.i x8),(.sh,.lst .plan x9)]),(4,.S .lrow x10),(7,.S .row x11),(9,.box [(.fr,.i 7),(.fr,.i 7)]),(10,.A .lrow [])] rv8 (fun q=>[(3,.box [(.fr,.i x7),(.fr,.i x8),(.sh,.lst .plan x9)]),(7,.S .row x11),(9,.box [(.fr,.i 7),(.fr,.i 7)]),(10,.A .lrow q)]) nE nE nE
theorem yaz (G:Good Tryz.prog tt tay) {fr:Fr}:∀ x7 x8 x9 x10 x11,Ok8 fr (Oay x7 x8 x9 x10 x11) :=
 fun x7 x8 x9 x10 x11=>fa G [([0,1,0,1,1,1,1,1,1,1,1],fun e=>⟨May (gI e 3 0) (gI e 3 1) (gL .plan e 3 2) (gL .lrow e 4 0) (gL .row e 7 0)⟩)] ⟨fun _=>⟨rfl,xaz G _ _ _ _ _⟩,trivial⟩ [(10,[3,4,7,9,10,11])] [] [] (Nay x7 x8 x9 x10 x11) rfl rfl (by kernel_rfl)
def Cay (_x131 x132:LR) (_x133:Bool) (s137:Int):Tr Bool Int Unit Empty Empty :=
 .c (cmp .lss s137 (aa .row x132))
 (.w [inb s137 (aa .row x132)] (.c (!(cmp .eql (rd .row x132 s137).At.A 0&&(cmp .eql (rd .row x132 s137).At.B 0&&true)))
 (.l (.r false))
 (.l (.n (ar .add .i64 s137 1)))))
 (.l (.x ()))
def xay:=fun x131 x132 x133 s137=>(Cay x131 x132 x133 s137).val
def Day:=fun x131 x132 x133 s137=>(Cay x131 x132 x133 s137).ob
def Way:=fun x131 x132 x133 s137=>Na (xay x131 x132 x133 s137) (Day x131 x132 x133 s137) [0,0,1,0,1,1,1,1,1,1,1,1,1,1] (fun q=>[(7,.S .row x131),(9,.box [(.fr,.i 7),(.fr,.i 7)]),(15,.S .row x132),(16,.O x133),(17,.I q)]) s137 rv8 (fun _=>(4,[(7,.S .row x131),(9,.box [(.fr,.i 7),(.fr,.i 7)]),(15,.S .row x132),(16,.O x133)])) nE nE
theorem zaz (G:Good Tryz.prog tt tay) {fr:Fr}:∀ x131 x132 x133 s137,Ok8 fr (Way x131 x132 x133 s137) :=
 fun x131 x132 x133 s137=>fa G [] trivial [(22,[7,9,15,16,17,112]),(23,[7,9,15,16,17]),(24,[7,9,15,16,17,121]),(25,[2])] [] [] (Cay x131 x132 x133 s137) rfl rfl (by kernel_rfl)
def Xay:=fun x131 x132 x133=>lpV (fun s:Int=>ca (xay x131 x132 x133 s)) 0
def Yay:=fun x131 x132 x133=>LpT (fun s:Int=>ca (xay x131 x132 x133 s)) (fun s=>Day x131 x132 x133 s) 0
def Pay:=fun x131 x132 x133=>lpS (Way x131 x132 x133 0) (Xay x131 x132 x133) (Yay x131 x132 x133)
theorem Aaz (G:Good Tryz.prog tt tay) {fr:Fr}:∀ x131 x132 x133,Ok8 fr (Pay x131 x132 x133) :=
 fun x131 x132 x133=>Oa (fun s:Int=>Way x131 x132 x133 s) 0 (fun _=>rfl) (fun _=>⟨rfl,rfl,rfl,rfl,rfl⟩) (by kernel_rfl) fun _=>zaz G _ _ _ _
def Qay (x128 x129:LR) (x130:Bool):Tr Bool Unit Empty Empty Empty :=
 .s (Pay x128 x129 x130) nE (fun _=>.l (.n ())) nE nE
def kaz:=fun x128 x129 x130=>(Qay x128 x129 x130).val
def laz:=fun x128 x129 x130=>(Qay x128 x129 x130).ob
def Ray:=fun x128 x129 x130=>da.mk (kaz x128 x129 x130) (laz x128 x129 x130) [0,1,1,1,1,1,1,1,1,1,1] [(7,.S .row x128),(9,.box [(.fr,.i 7),(.fr,.i 7)]),(15,.S .row x129),(16,.O x130)] rv8 (fun _=>[(7,.S .row x128),(9,.box [(.fr,.i 7),(.fr,.i 7)]),(15,.S .row x129),(16,.O x130)]) nE nE nE
theorem Baz (G:Good Tryz.prog tt tay) {fr:Fr}:∀ x128 x129 x130,Ok8 fr (Ray x128 x129 x130) :=
 fun x128 x129 x130=>fa G [([0,1,0,1,1,1,1,1,1,1,1,1,1],fun e=>⟨Pay (gL .row e 7 0) (gL .row e 15 0) (gB e 16 0)⟩)] ⟨fun _=>⟨rfl,Aaz G _ _ _⟩,trivial⟩ [(21,[7,9,15,16,17])] [] [] (Qay x128 x129 x130) rfl rfl (by kernel_rfl)
def Eay (a0:LB):Tr Bool Empty Empty Empty Empty :=
 .c (cmp .gtr (aa .byte a0) 1048576)
 (.l (.r true))
 (.k (Qg a0) fun u2=>.w [(ij a0)] (.k (ao (Plan.mk u2.1.Kind u2.1.Num u2.1.Kids) u2.2.1) fun u3=>.w [(eo (Plan.mk u2.1.Kind u2.1.Num u2.1.Kids) u2.2.1)] (.k (Ip (Plan.mk u2.1.Kind u2.1.Num u2.1.Kids) u2.2.1) fun u4=>.w [(Jp (Plan.mk u2.1.Kind u2.1.Num u2.1.Kids) u2.2.1)] (.k (vC u4.1 u3.1) fun u5=>.w [(((!(!(u4.2.1 == u3.2.1)))&&true)=true→(wC u4.1 u3.1))] (.c (cond (cond (!(u4.2.1 == u3.2.1)) true (!u5)) true (!u4.2.1))
 (.w [(((u4.2.1 == u3.2.1)&&true)=true→(wC u4.1 u3.1))] (.l (.r (cond (u4.2.1 == u3.2.1) u5 false))))
 (.s (Oay u2.1.Kind u2.1.Num u2.1.Kids u2.2.1 u4.1) (fun q125=>.k (Ip (Plan.mk u2.1.Kind u2.1.Num u2.1.Kids) q125) fun u127=>.w [(Jp (Plan.mk u2.1.Kind u2.1.Num u2.1.Kids) q125)] (.s (Ray u4.1 u127.1 u127.2.1) (fun _=>.k (Tah u127.1 (Time.mk 0 0)) fun u148=>.k (Tah u4.1 (Time.mk 7 7)) fun u149=>.w [(((!(!u127.2.1))&&true)=true→(Uah u127.1 (Time.mk 0 0))),(((!(!u127.2.1))&&true)=true→(Uah u4.1 (Time.mk 7 7))),(((!(!u127.2.1))&&true)=true→(Bah u148 u149))] (.l (.r (cond (!u127.2.1) true (Aah u148 u149))))) nE nE nE)) nE nE nE))))))
def Fay:=fun a0=>(Eay a0).val
def Gay:=fun a0=>(Eay a0).ob
def maz:=fun a0=>da.mk (Fay a0) (Gay a0) [] [(0,.S .byte a0)] rv8 nE nE nE nE
theorem Caz (G:Good Tryz.prog tt tay) {fr:Fr}:∀ a0,Ok8 fr (maz a0) :=
 fun a0=>fa G [([0,1,1,1,1,1,1,1,1],fun e=>⟨Oay (gI e 3 0) (gI e 3 1) (gL .plan e 3 2) (gL .lrow e 4 0) (gL .row e 7 0)⟩),([0,1,1,1,1,1,1,1,1,1,1],fun e=>⟨Ray (gL .row e 7 0) (gL .row e 15 0) (gB e 16 0)⟩)] ⟨fun _=>⟨rfl,yaz G _ _ _ _ _⟩,fun _=>⟨rfl,Baz G _ _ _⟩,trivial⟩ [(0,[0]),(1,[0,20]),(2,[2]),(3,[3,4]),(4,[3,4,5,6]),(5,[3,4,5,6,7,8]),(6,[3,4,5,6,7,8,50]),(7,[2]),(8,[3,4,7,9]),(9,[3,4,7,9,10]),(20,[7,9,15,16]),(26,[2])] [] [] (Eay a0) rfl rfl (by kernel_rfl)
def Say (a0:LB):Bool:=ocR (Fay a0)
def Tay (a0:LB):Prop:=Gay a0
def naz:Spec:=⟨[(.lst .byte)],.one .fr .bool,false,fun x=>(Say x.1,0),fun x=>Tay x.1⟩
theorem Daz (G:Good Tryz.prog tt tay):Con Tryz.prog 8 naz :=
 Ca (pts:=[(.lst .byte)]) (rt:=.one .fr .bool) (o:=fun x=>Fay x.1) (ob:=fun x=>Gay x.1) G (fn:=Tryz.f8) (c:=ia Tryz.f8) (by kernel_rfl) (by kernel_rfl) (by kernel_rfl) (rs:=[.tmp 2]) (fz:=F8.fz) (by kernel_rfl) (by kernel_rfl) (fun _=>rfl) rfl (fun x=>maz x.1) (fun _=>⟨rfl,rfl,rfl,rfl,rfl⟩) (fun x _=>Caz G x.1)
end
end Go.Proofs.YthfkpijcajdnhaaGreat

namespace Go.Proofs.YthfkpijcajdnhaaGreat
namespace Dp
open Go
set_option maxRecDepth 100000
section
variable {Q:Exit→Act→World→Prop} {B:Nat} {W0:World} {F0:Fz} {a:Act} {w:World} {p:Plan} {l:List LR}
end
end Dp
end Go.Proofs.YthfkpijcajdnhaaGreat

namespace Go.Proofs.YthfkpijcajdnhaaGreat
open Go
theorem Aal:∀ l,0≤Ll l
 | []=>Int.le_refl _
 | q::r=>by have:=Aal r;simp only[Ll];split<;>omega
theorem Bal:∀ l k,sumT l k≤Ll l∧-Ll l≤sumT l k
 | [],k=>by simp[sumT,Ll]
 | q::r,k=>by
   have:=Bal r k
   simp only[Ll,sumT]
   split<;>split<;>omega
theorem uan {l:List (List Int×Int)} (h:Ll l≤1000000000000000) (k:List Int):Je l k=sumT l k:=by
 suffices ∀ (l:List (List Int×Int)) (s B:Int),B+Ll l≤1000000000000000→s≤B∧-B≤s→l.foldl (fun s q=>if q.1=k then ar .add .i64 s q.2 else s) s=s+sumT l k by
  have:=this l 0 0 (by omega) (by omega)
  unfold Je
  rw[this,Int.zero_add]
 intro l
 induction l with
 | nil=>intro s B _ _;simp[sumT]
 | cons q r ih =>
   intro s B h1 h2
   have hn:=Aal r
   simp only[Ll] at h1
   rw[List.foldl_cons]
   have key:∀ t:Int,(if q.1=k then ar .add .i64 s q.2 else s)=t→(t=s+(if q.1=k then q.2 else 0))→(r.foldl (fun s q=>if q.1=k then ar .add .i64 s q.2 else s) (if q.1=k then ar .add .i64 s q.2 else s))=s+sumT (q::r) k:=by
    intro t h3 h4
    rw[h3,ih t (B+(if 0≤q.2 then q.2 else -q.2)) (by split at h1<;>split<;>omega) (by split at h4<;>split<;>omega),h4]
    simp only[sumT]
    omega
   refine key _ rfl ?_
   by_cases hq:q.1=k
   ·rw[if_pos hq,if_pos hq,sc]
    split at h1<;>omega
   ·rw[if_neg hq,if_neg hq,Int.add_zero]
theorem Cal {c:Int}:∀ {xs:List Item},yF c xs→Ll (chI xs)≤(xs.length:Int)*c
 | [],_=>by simp[chI,Ll]
 | x::r,h=>by
   have h1:=Cal (xs:=r) (fun y hy=>h y (by simp[hy]))
   have h2:=h x (by simp)
   show (if 0≤x.Count then x.Count else -x.Count)+Ll (chI r)≤_
   rw[List.length_cons,Int.natCast_add,Int.add_mul]
   split<;>omega
theorem van {c:Int} {xs:List Item} (h:yF c xs) (hb:(xs.length:Int)*c≤1000000000000):yF ((xs.length:Int)*c) (gathI xs):=by
 intro y hy
 obtain ⟨p,hp,rfl⟩:=List.mem_map.1 hy
 obtain ⟨x,_,e⟩:=xF hp
 obtain ⟨h1,_⟩:=ue.1 hp
 have h2:=Cal h
 have hc:(mkI p).Count=p.2:=by
  obtain ⟨k,d⟩:=p
  have e:k=kI x:=e
  subst e;rfl
 rw[hc,h1,uan (by omega)]
 have:=Bal (chI xs) p.1
 omega
theorem wan {xs:List Item} (h:∀ x∈xs,InR x.Count):(gathI xs).length≤xs.length:=by
 rw[← PZ,List.length_map]
 have:=vF (xs:=xs.map itR) (fun y hy=>by obtain ⟨x,hx,rfl⟩:=List.mem_map.1 hy;exact h x hx)
 simpa using this
end Go.Proofs.YthfkpijcajdnhaaGreat

namespace Go.Proofs.YthfkpijcajdnhaaGreat
open Go
theorem Cak (φ:List Int→Bool) (k:List Int):∀ l:List (List Int×Int),sumT (l.filter fun q=>φ q.1) k=if φ k=true then sumT l k else 0
 | []=>by simp[sumT]
 | q::r=>by
   have ih:=Cak φ k r
   by_cases h:φ q.1=true
   ·rw[List.filter_cons_of_pos (by exact h)]
    simp only[sumT,ih]
    by_cases e:q.1=k
    ·rw[e] at h;simp[h,e]
    ·simp[e]
   ·rw[List.filter_cons_of_neg (by exact h)]
    simp only[sumT,ih]
    by_cases e:q.1=k
    ·rw[e] at h;simp[h]
    ·simp[e]
theorem xal (xs:List Row):chR (Za xs)=mc (chR xs):=by
 unfold Za
 have:∀ m:MP,(∀ p∈m,∃ x∈xs,p.1=rK x)→chR (m.map mkR)=m:=by
  intro m
  induction m with
  | nil=>exact fun _=>rfl
  | cons p m ih =>
    intro h
    obtain ⟨x,_,e⟩:=h p (by simp)
    show (rK (mkR p),(mkR p).Diff)::chR (m.map mkR)=_
    rw[ih fun q hq=>h q (by simp[hq])]
    obtain ⟨k,d⟩:=p
    have e:k=rK x:=e
    subst e;rfl
 exact this _ fun p hp=>yZ hp
def φT (k:List Int) (t:Time):List Int→Bool
 | [a,b,x,y]=>decide ([a,b,0]=k)&&(decide (x≤t.A)&&decide (y≤t.B))
 | _=>false
theorem Dak (k:List Int) (t:Time):∀ L:List Row,sumT (chI (Va L t)) k=sumF (φT k t) (chR L)
 | []=>rfl
 | r::L=>by
   have ih:=Dak k t L
   show _=(if φT k t (rK r)=true then r.Diff else 0)+sumF (φT k t) (chR L)
   rw[← ih]
   unfold Va
   by_cases h:yf r.At t=true
   ·rw[List.filter_cons_of_pos (by exact h)]
    show (if kI (rIt r)=k then r.Diff else 0)+_=_
    have h2:(decide (r.At.A≤t.A)&&decide (r.At.B≤t.B))=true:=h
    have:φT k t (rK r)=decide (kI (rIt r)=k):=by
     show (decide ([r.Key,r.Val,0]=k)&&(decide (r.At.A≤t.A)&&decide (r.At.B≤t.B)))=_
     rw[h2,Bool.and_true];rfl
    rw[this]
    simp only[decide_eq_true_eq]
    rfl
   ·rw[List.filter_cons_of_neg (by exact h)]
    have h2:(decide (r.At.A≤t.A)&&decide (r.At.B≤t.B))=false:=by simpa [yf] using h
    have:φT k t (rK r)=false:=by
     show (decide ([r.Key,r.Val,0]=k)&&(decide (r.At.A≤t.A)&&decide (r.At.B≤t.B)))=_
     rw[h2,Bool.and_false]
    rw[this]
    simp
theorem pan {xs:List Row} {z:Row}:z∈Za xs↔z.Diff=Je (chR xs) (rK z)∧z.Diff≠0:=by
 have h:z∈Za xs↔(rK z,z.Diff)∈chR (Za xs):=by
  refine ⟨fun h=>List.mem_map.2 ⟨z,h,rfl⟩,fun h=>?_⟩
  obtain ⟨y,hy,e⟩:=List.mem_map.1 h
  have:y=z:=by
   obtain ⟨a,b,⟨c,d⟩,f⟩:=y
   obtain ⟨a',b',⟨c',d'⟩,f'⟩:=z
   simp[rK] at e
   obtain ⟨⟨rfl,rfl,rfl,rfl⟩,rfl⟩:=e
   rfl
  exact this▸hy
 rw[h,xal,ue]
theorem qan {xs:List Row} {z:Row} (h:z∈Za xs):∃ x∈xs,rK x=rK z:=by
 obtain ⟨h1,h2⟩:=pan.1 h
 obtain ⟨q,hq,e⟩:=El (h1▸h2)
 obtain ⟨x,hx,rfl⟩:=List.mem_map.1 hq
 exact ⟨x,hx,e⟩
end Go.Proofs.YthfkpijcajdnhaaGreat

namespace Go.Proofs.YthfkpijcajdnhaaGreat
open Go
theorem ran {a:List Row} (h:∀ x∈a,InR x.Diff):∀ q∈chR a,InR q.2:=fun q hq=>by
 obtain ⟨x,hx,rfl⟩:=List.mem_map.1 hq
 exact h x hx
def sumW (w:List Int→Int):List (List Int×Int)→Int
 | []=>0
 | q::r=>w q.1*q.2+sumW w r
theorem yal (w:List Int→Int):∀ m:MP,sumW w (m.filter fun p=>p.2 != 0)=sumW w m
 | []=>rfl
 | p::m=>by
   have h1:=yal w m
   by_cases h:p.2=0
   ·simp[h,sumW,h1]
   ·simp[h,sumW,h1]
theorem zal (w:List Int→Int) (q:List Int×Int):∀ m:MP,Eqm (sumW w (gc q m)) (w q.1*q.2+sumW w m)
 | []=>Eqm.refl _
 | p::m=>by
   unfold gc
   split
   ·exact Eqm.refl _
   ·split
    ·rename_i h1 h2
     simp only[sumW,h2]
     have ha:Eqm (w q.1*ar .add .i64 q.2 p.2) (w q.1*(q.2+p.2)):=Eqm.mul _ (Gl _)
     rw[Int.mul_add] at ha
     exact (ha.add (Eqm.refl _)).trans (Eqm.of (by omega))
    ·simp only[sumW]
     exact ((Eqm.refl _).add (zal w q m)).trans (Eqm.of (by omega))
theorem san (w:List Int→Int) (l:List (List Int×Int)):Eqm (sumW w (Pe l)) (sumW w l):=by
 suffices ∀ (l:List (List Int×Int)) (m:MP),Eqm (sumW w (l.foldl (fun m q=>gc q m) m)) (sumW w m+sumW w l) by
  have:=this l []
  simpa [Pe,sumW] using this
 intro l
 induction l with
 | nil=>intro m;exact Eqm.of (by simp[sumW])
 | cons q r ih =>
   intro m
   rw[List.foldl_cons]
   simp only[sumW]
   exact (ih (gc q m)).trans (((zal w q m).add (Eqm.refl _)).trans (Eqm.of (by omega)))
theorem tan {n:Nat} {l:List (List Int×Int)} (hk:xb n l) (hr:∀ q∈l,InR q.2) (w:List Int→Int):Eqm (sumW w (mc l)) (sumW w l):=by
 rw[← GM hk fun q hq=>qF (hr q hq),yal w (Pe l)]
 exact san w l
theorem Eak {a:List Item} (h:∀ x∈a,InR x.Count) (w:List Int→Int):Eqm (sumW w (chI (gathI a))) (sumW w (chI a)):=by
 rw[Fl]
 exact tan (Kl a) (fun q hq=>by
  obtain ⟨x,hx,rfl⟩:=List.mem_map.1 hq
  exact h x hx) w
theorem Sah {L:List Row} (h:∀ x∈L,InR x.Diff) (t:Time):xd (Za L) t=xd L t :=
 BZ fun k=>by
  rw[Dak,Dak,xal]
  exact DZ (tF L) (ran h) _
end Go.Proofs.YthfkpijcajdnhaaGreat

namespace Go.Proofs.YthfkpijcajdnhaaGreat
open Go
section
variable {P:Program} {K n:Nat}
variable {T E:Nat} (M:WW P T K E n) {w:World} {r:Nat} {S:wa} (hr:w.heap[r]? = some (Ha S)) (hm:Xb n S) {ks:List Int} (hk:ks.length=n)
include M hr hm hk
end
end Go.Proofs.YthfkpijcajdnhaaGreat

namespace Go.Proofs.YthfkpijcajdnhaaGreat
open Go Tg
theorem xan (L:List Row) (t:Time):(Va L t).map Ib=Va (L.map Gh) t:=by
 unfold Va
 rw[List.filter_map,List.map_map,List.map_map]
 rfl
end Go.Proofs.YthfkpijcajdnhaaGreat

namespace Go.Proofs.YthfkpijcajdnhaaGreat
open Go
theorem Dal (xs:List Row) (t:Time) (hl:xs.length<10000000):Uah xs t∧Tah xs t=if Hb xs=true∧Ea t=true then xd xs t else []:=by
 obtain ⟨r1,r2⟩:=jN xs (by omega)
 obtain ⟨q1,q2⟩:=lN xs t (by omega)
 simp only[Uah,Tah,Jai,Iai,Hai,Tr.val,Tr.ob,ga,r2,eN,q2]
 cases h1:Hb xs<;>cases h2:Ea t<;>simp[r1,fN,q1,ocR]
end Go.Proofs.YthfkpijcajdnhaaGreat

namespace Go.Proofs.YthfkpijcajdnhaaGreat
open Go Tg
theorem Dan (s:List Item):(chI s).map mkI=s:=by
 unfold chI
 rw[List.map_map]
 have:(mkI ∘ fun x:Item=>(kI x,x.Count))=id:=by funext x;cases x;rfl
 rw[this,List.map_id]
theorem Canon.gath {s:List Item} (h:Canon s):gathI s=s:=by
 have h1:mc (chI s)=chI s:=j4 (n:=3) (List.pairwise_map.2 h.1) (Kl s) fun p hp=>by
  obtain ⟨x,hx,rfl⟩:=List.mem_map.1 hp
  exact h.2 x hx
 unfold gathI
 rw[h1,Dan]
def hah (h:Int) (x:Item):List Item:=if (ac h x.Key x.Val).2.2=true then [⟨(ac h x.Key x.Val).1,(ac h x.Key x.Val).2.1,x.Count⟩] else []
def dah (h:Int) (s:List Item):List Item:=s.flatMap (hah h)
theorem Fal (h:Int) (t:Time):∀ a:List Row,Va (tc h a) t=dah h (Va a t)
 | []=>rfl
 | x::l=>by
   have ih:=Fal h t l
   unfold tc dah at *
   rw[List.flatMap_cons,pF,ih,B4,List.flatMap_append]
   congr 1
   unfold Sf
   by_cases hk:(ac h x.Key x.Val).2.2=true
   ·rw[if_pos hk,B4,C4,List.append_nil]
    by_cases hb:yf x.At t=true
    ·rw[if_pos hb,if_pos hb]
     simp[hah,rIt,hk]
    ·rw[if_neg hb,if_neg hb]
     rfl
   ·rw[if_neg hk,C4]
    by_cases hb:yf x.At t=true
    ·rw[if_pos hb]
     simp[hah,rIt,hk]
    ·rw[if_neg hb]
     rfl
def wE (h:Int) (k:List Int):List Int→Int
 | [a,b,_]=>if (ac h a b).2.2=true∧[(ac h a b).1,(ac h a b).2.1,0]=k then 1 else 0
 | _=>0
theorem Fak (h:Int) (k:List Int):∀ s:List Item,sumT (chI (dah h s)) k=sumW (wE h k) (chI s)
 | []=>rfl
 | x::s=>by
   have ih:=Fak h k s
   show _=wE h k (kI x)*x.Count+sumW (wE h k) (chI s)
   unfold dah at *
   rw[List.flatMap_cons,MM,ih]
   congr 1
   show _=(if (ac h x.Key x.Val).2.2=true∧[(ac h x.Key x.Val).1,(ac h x.Key x.Val).2.1,0]=k then 1 else 0)*x.Count
   unfold hah
   by_cases hk:(ac h x.Key x.Val).2.2=true
   ·rw[if_pos hk]
    show (if [(ac h x.Key x.Val).1,(ac h x.Key x.Val).2.1,0]=k then x.Count else 0)+0=_
    by_cases e : [(ac h x.Key x.Val).1,(ac h x.Key x.Val).2.1,0]=k
    ·rw[if_pos e,if_pos ⟨hk,e⟩];omega
    ·rw[if_neg e,if_neg fun hh=>e hh.2];omega
   ·rw[if_neg hk,if_neg fun hh=>hk hh.1]
    simp[chI,sumT]
theorem Ean (h:Int) {s:List Item} (hs:∀ x∈s,InR x.Count):gathI (dah h (gathI s))=gathI (dah h s) :=
 BZ fun k=>by rw[Fak,Fak];exact Eak hs _
theorem kah {xs:List Row} (h:∀ x∈xs,InR x.Diff) (t:Time):∀ x∈Va xs t,InR x.Count:=fun x hx=>by
 obtain ⟨r,hr,rfl⟩:=List.mem_map.1 hx
 exact h r ((List.mem_filter.1 hr).1)
theorem Fan {h:Int} {a:List Row} (ha:∀ x∈a,InR x.Diff) (t:Time):xd (Za (tc h a)) t=gathI (dah h (xd a t)):=by
 rw[Sah (LF ha)]
 unfold xd
 rw[Fal,Ean h (kah ha t)]
theorem Gan {a b:List Row} (ha:∀ x∈a,InR x.Diff) (hb:∀ x∈b,InR x.Diff) (t:Time):xd (Za (a++b)) t=gathI (xd a t++xd b t):=by
 rw[Sah fun x hx=>(List.mem_append.1 hx).elim (ha x) (hb x)]
 refine BZ fun k=>?_
 rw[pF,MM,MM]
 exact (GZ (kah ha t) k).symm.add (GZ (kah hb t) k).symm
theorem Han {a:List Row} (ha:∀ x∈a,InR x.Diff) (t:Time) (hm:∀ x∈xd a t,x.Count≠-9223372036854775808):xd (Za (gb a)) t=(xd a t).map Ib:=by
 rw[Sah (cO a)]
 have h1:=((A4 (Va a t)).neg hm).gath
 rw[← show xd a t=gathI (Va a t) from rfl] at h1
 rw[← h1]
 refine BZ fun k=>?_
 unfold gb
 rw[← xan]
 exact (BF _ k).trans (((GZ (kah ha t) k).neg.symm).trans (BF _ k).symm)
def eah (x y:Item):List Item:=if x.Key=y.Key then [⟨x.Key,Ol x.Val y.Val,x.Count*y.Count⟩] else []
def bah (s u:List Item):List Item:=s.flatMap fun x=>u.flatMap (eah x)
theorem Gal (s t u:Time):yf (ab s t) u=(yf s u&&yf t u):=by
 unfold yf ab
 simp only[mi]
 rw[Bool.eq_iff_iff]
 simp only[Bool.and_eq_true,decide_eq_true_eq]
 split<;>split<;>omega
theorem Hal (t:Time) (x:Row):∀ b:List Row,Va (b.flatMap (ic x)) t=if yf x.At t=true then (Va b t).flatMap (eah (rIt x)) else []
 | []=>by split<;>rfl
 | y::b=>by
   have ih:=Hal t x b
   rw[List.flatMap_cons,pF,ih,B4,List.flatMap_append]
   by_cases hx:yf x.At t=true
   ·rw[if_pos hx,if_pos hx]
    congr 1
    unfold ic
    by_cases hk:x.Key=y.Key
    ·rw[if_pos hk,B4,C4,List.append_nil,show (Row.At ⟨x.Key,Ol x.Val y.Val,ab x.At y.At,x.Diff*y.Diff⟩)=ab x.At y.At from rfl,Gal,hx,Bool.true_and]
     by_cases hy:yf y.At t=true
     ·rw[if_pos hy,if_pos hy]
      simp[eah,rIt,hk]
     ·rw[if_neg hy,if_neg hy]
      rfl
    ·rw[if_neg hk,C4]
     by_cases hy:yf y.At t=true
     ·rw[if_pos hy]
      simp[eah,rIt,hk]
     ·rw[if_neg hy]
      rfl
   ·rw[if_neg hx,if_neg hx,List.append_nil]
    unfold ic
    by_cases hk:x.Key=y.Key
    ·rw[if_pos hk,B4,C4,List.append_nil,show (Row.At ⟨x.Key,Ol x.Val y.Val,ab x.At y.At,x.Diff*y.Diff⟩)=ab x.At y.At from rfl,Gal]
     rw[if_neg (by simp[hx])]
    ·rw[if_neg hk,C4]
theorem Ial (t:Time) (b:List Row):∀ a:List Row,Va (bc a b) t=bah (Va a t) (Va b t)
 | []=>rfl
 | x::a=>by
   have ih:=Ial t b a
   unfold bc bah at *
   rw[List.flatMap_cons,pF,ih,B4,List.flatMap_append,Hal]
   congr 1
   by_cases hx:yf x.At t=true
   ·rw[if_pos hx,if_pos hx]
    simp
   ·rw[if_neg hx,if_neg hx]
    rfl
def wJ2 (a b:Int) (k:List Int):List Int→Int
 | [c,d,_]=>if a=c∧[a,Ol b d,0]=k then 1 else 0
 | _=>0
def wJ (u:List Item) (k:List Int):List Int→Int
 | [a,b,_]=>sumW (wJ2 a b k) (chI u)
 | _=>0
theorem Jal (x:Item) (k:List Int):∀ u:List Item,sumT (chI (u.flatMap (eah x))) k=sumW (wJ2 x.Key x.Val k) (chI u)*x.Count
 | []=>by simp[chI,sumT,sumW]
 | y::u=>by
   have ih:=Jal x k u
   rw[List.flatMap_cons,MM,ih]
   show _=(wJ2 x.Key x.Val k (kI y)*y.Count+sumW (wJ2 x.Key x.Val k) (chI u))*x.Count
   rw[Int.add_mul]
   congr 1
   show _=(if x.Key=y.Key∧[x.Key,Ol x.Val y.Val,0]=k then 1 else 0)*y.Count*x.Count
   unfold eah
   by_cases hk:x.Key=y.Key
   ·rw[if_pos hk]
    show (if [x.Key,Ol x.Val y.Val,0]=k then x.Count*y.Count else 0)+0=_
    by_cases e : [x.Key,Ol x.Val y.Val,0]=k
    ·rw[if_pos e,if_pos ⟨hk,e⟩,Int.one_mul,Int.add_zero,Int.mul_comm]
    ·rw[if_neg e,if_neg fun hh=>e hh.2];simp
   ·rw[if_neg hk,if_neg fun hh=>hk hh.1]
    simp[chI,sumT]
theorem Gak (u:List Item) (k:List Int):∀ s:List Item,sumT (chI (bah s u)) k=sumW (wJ u k) (chI s)
 | []=>rfl
 | x::s=>by
   have ih:=Gak u k s
   unfold bah at *
   rw[List.flatMap_cons,MM,ih,Jal]
   rfl
theorem Kal {w w':List Int→Int} (h:∀ k,Eqm (w k) (w' k)):∀ l,Eqm (sumW w l) (sumW w' l)
 | []=>Eqm.refl _
 | q::r=>by
   simp only[sumW]
   have h1:=Eqm.mul q.2 (h q.1)
   rw[Int.mul_comm,Int.mul_comm q.2] at h1
   exact h1.add (Kal h r)
theorem Ian {s u:List Item} (hs:∀ x∈s,InR x.Count) (hu:∀ x∈u,InR x.Count):gathI (bah (gathI s) (gathI u))=gathI (bah s u) :=
 BZ fun k=>by
  rw[Gak,Gak]
  refine (Eak hs _).trans (Kal (fun key=>?_) _)
  match key with
  | [a,b,_]=>exact Eak hu _
  | []=>exact Eqm.refl _
  | [_]=>exact Eqm.refl _
  | [_,_]=>exact Eqm.refl _
  | _::_::_::_::_=>exact Eqm.refl _
theorem Jan {a b:List Row} (ha:∀ x∈a,InR x.Diff) (hb:∀ x∈b,InR x.Diff) (hj:∀ x∈bc a b,InR x.Diff) (t:Time):xd (Za (bc a b)) t=gathI (bah (xd a t) (xd b t)):=by
 rw[Sah hj]
 unfold xd
 rw[Ial,Ian (kah ha t) (kah hb t)]
end Go.Proofs.YthfkpijcajdnhaaGreat

namespace Go.Proofs.YthfkpijcajdnhaaGreat
open Go Tg
def φK (k:Int):List Int→Bool
 | [a,_,_]=>decide (a=k)
 | _=>false
theorem Lal (k:Int) (s:List Item):chI (s.filter fun x=>decide (x.Key=k))=(chI s).filter fun q=>φK k q.1:=by
 unfold chI
 rw[List.filter_map]
 rfl
theorem Kan (k:Int) {s:List Item} (hs:∀ x∈s,InR x.Count):gathI (s.filter fun x=>decide (x.Key=k))=(gathI s).filter fun x=>decide (x.Key=k):=by
 rw[← ((A4 s).filter _).gath]
 refine BZ fun key=>?_
 rw[Lal,Lal,Cak,Cak]
 split
 ·exact (GZ hs key).symm
 ·exact Eqm.refl _
theorem Mal (k:Int) (t:Time):∀ a:List Row,Va (oa k a) t=(Va a t).filter fun x=>decide (x.Key=k)
 | []=>rfl
 | x::a=>by
   have ih:=Mal k t a
   rw[B4,List.filter_append,← ih]
   unfold oa
   by_cases hk:x.Key=k
   ·rw[List.filter_cons_of_pos (by simpa using hk),B4]
    congr 1
    by_cases hb:yf x.At t=true
    ·rw[if_pos hb];simp[rIt,hk]
    ·rw[if_neg hb];rfl
   ·rw[List.filter_cons_of_neg (by simpa using hk)]
    by_cases hb:yf x.At t=true
    ·rw[if_pos hb];simp[rIt,hk]
    ·rw[if_neg hb];rfl
theorem Lan {k:Int} {a:List Row} (ha:∀ x∈a,InR x.Diff) (t:Time):xd (oa k a) t=(xd a t).filter fun x=>decide (x.Key=k):=by
 unfold xd
 rw[Mal,Kan k (kah ha t)]
theorem Man (p:Time→Bool) (i:Int) (n:Nat):(rowP p i n).Pairwise fun x y=>yf y x=false:=by
 unfold rowP
 rw[List.pairwise_map]
 refine (List.Pairwise.sublist List.filter_sublist List.pairwise_lt_range).imp fun {a b} h=>?_
 simp[yf]
 omega
theorem Nal (p:Time→Bool):∀ n,(oc p n).Pairwise fun x y=>yf y x=false
 | 0=>.nil
 | n+1=>by
   simp only[oc]
   rw[List.pairwise_append]
   refine ⟨Nal p n,Man p n 8,fun x hx y hy=>?_⟩
   have h1:=DC.1 hx
   have h2:=xaf.1 hy
   unfold yf
   rw[h2.2.1]
   simp
   omega
theorem Hak {kind k:Int} {own:List Row}:∀ (ts:List Time) (m:List Row),∃ e,ts.foldl (Re kind k own) m=m++e∧∀ x∈e,x.At∈ts
 | [],m=>⟨[],by simp,by simp⟩
 | t::r,m=>by
   obtain ⟨e,h1,h2⟩:=Hak r (Re kind k own m t)
   refine ⟨(Hh kind k own m t).map (rowT t)++e,?_,fun x hx=>?_⟩
   ·rw[List.foldl_cons,h1]
    unfold Re
    rw[List.append_assoc]
   ·rcases List.mem_append.1 hx with hx | hx
    ·obtain ⟨y,_,rfl⟩:=List.mem_map.1 hx
     simp[rowT]
    ·simp[h2 x hx]
theorem Iak {l:List Row} {t:Time} (h:∀ x∈l,yf x.At t=false):Va l t=[]:=by
 unfold Va
 rw[List.filter_eq_nil_iff.2 fun x hx=>by rw[h x hx];simp]
 rfl
theorem Nan (l:List Item) (t:Time):Va (l.map (rowT t)) t=l:=by
 unfold Va
 rw[List.filter_eq_self.2 fun x hx=>by
  obtain ⟨y,_,rfl⟩:=List.mem_map.1 hx
  simp[yf,rowT],List.map_map]
 have:(rIt ∘ rowT t)=id:=by funext x;cases x;rfl
 rw[this,List.map_id]
theorem Oal {l:List Row} {s t:Time} (h:∀ x∈l,yf x.At s=yf x.At t):Va l s=Va l t:=by
 unfold Va
 rw[List.filter_congr fun x hx=>h x hx]
theorem Oan {kind k:Int} {own:List Row} (ho:uc k own) {ts:List Time} (hp:ts.Pairwise fun x y=>yf y x=false) (hok:∀ t∈ts,Ea t=true) {s:Time} (hs:s∈ts) (key:List Int) :
  Eqm (sumT (chI (Va (Ab kind k own ts) s)) key) (sumT (chI (Wa kind k (xd own s))) key):=by
 obtain ⟨l1,l2,rfl⟩:=List.append_of_mem hs
 have h1:Ab kind k own (l1++s::l2)=l2.foldl (Re kind k own) (Re kind k own (Ab kind k own l1) s):=by
  unfold Ab
  rw[List.foldl_append,List.foldl_cons]
 obtain ⟨e,h2,h3⟩:=Hak (kind:=kind) (k:=k) (own:=own) l2 (Re kind k own (Ab kind k own l1) s)
 have hM:=(Rl (kind:=kind) ho l1 fun t ht=>hok t (by simp[ht])).1
 generalize Ab kind k own l1=M at *
 have h9:Va e s=[]:=Iak fun x hx=>by
  have:=(List.pairwise_append.1 hp).2.1
  exact (List.pairwise_cons.1 this).1 x.At (h3 x hx)
 rw[h1,h2]
 unfold Re
 rw[pF,pF,Nan,h9,List.append_nil,MM]
 ·unfold Hh
  have hd:=UZ (kind:=kind) (t:=s) ho hM
  refine ((Eqm.refl _).add (GZ (fun x hx=>(hd x hx).2.2.2) key)).trans ?_
  rw[MM]
  have h4:=BF (xd M s) key
  have h5:=GZ (fun x hx=>(hM.items s x hx).2.2.2) key
  have h5:Eqm (sumT (chI (xd M s)) key) (sumT (chI (Va M s)) key):=h5
  exact ((Eqm.refl _).add ((Eqm.refl _).add (h4.trans h5.neg))).trans (Eqm.of (by omega))
theorem Jak (f:Row→Int):∀ l:List Row,l≠[]→∃ x∈l,∀ y∈l,f y≤f x
 | [],h=>absurd rfl h
 | [x],_=>⟨x,by simp,by simp⟩
 | x::y::r,_=>by
   obtain ⟨z,h1,h2⟩:=Jak f (y::r) (by simp)
   by_cases h:f z≤f x
   ·exact ⟨x,by simp,fun w hw=>by
     rcases List.mem_cons.1 hw with rfl | hw
     ·exact Int.le_refl _
     ·exact Int.le_trans (h2 w hw) h⟩
   ·exact ⟨z,by simp only[List.mem_cons] at h1 ⊢;exact .inr h1,fun w hw=>by
     rcases List.mem_cons.1 hw with rfl | hw
     ·omega
     ·exact h2 w hw⟩
theorem Pan {kind k:Int} {a:List Row} (hr:Hb a=true) {t:Time} (key:List Int) :
  Eqm (sumT (chI (Va (Ab kind k (oa k a) (Xa a k)) t)) key) (sumT (chI (Wa kind k (xd (oa k a) t))) key):=by
 have hrow:=(Bb hr).2
 have ho:=Ih (k:=k) hrow
 have hts:Xa a k=oc (jT a k) 8:=by unfold Xa;rw[if_pos hr]
 have hok:=(Sl (a:=a) (k:=k)).1
 rw[hts] at hok ⊢
 obtain ⟨e,he1,he2⟩:=Hak (kind:=kind) (k:=k) (own:=oa k a) (oc (jT a k) 8) []
 have hmade:Ab kind k (oa k a) (oc (jT a k) 8)=e:=by unfold Ab;rw[he1];rfl
 have hJ:∀ j∈oc (jT a k) 8,(∃ x∈oa k a,x.At.A=j.A∧x.At.B≤j.B)∧∃ x∈oa k a,x.At.B=j.B∧x.At.A≤j.A:=fun j hj=>by
  obtain ⟨⟨x,m1,k1,a1,b1⟩,y,n1,l1,c1,d1⟩:=Vp.1 (DC.1 hj).1
  exact ⟨⟨x,List.mem_filter.2 ⟨m1,by simpa using k1⟩,a1,b1⟩,y,List.mem_filter.2 ⟨n1,by simpa using l1⟩,c1,d1⟩
 by_cases hn:(oa k a).filter (fun x=>yf x.At t)=[]
 ·have h0:∀ x∈oa k a,yf x.At t=false:=fun x hx=>by
   have:=List.filter_eq_nil_iff.1 hn x hx
   simpa using this
  have h1:xd (oa k a) t=[]:=by unfold xd;rw[Iak h0];rfl
  rw[h1,D4,hmade,Iak fun x hx=>?_]
  ·exact Eqm.refl _
  ·obtain ⟨⟨y,m1,a1,b1⟩,_⟩:=hJ _ (he2 x hx)
   have h2:=h0 y m1
   cases hb:yf x.At t with
   | false=>rfl
   | true =>
     simp only[yf,Bool.and_eq_true,decide_eq_true_eq] at hb
     have:yf y.At t=true:=by simp only[yf,Bool.and_eq_true,decide_eq_true_eq];omega
     rw[h2] at this;cases this
 ·obtain ⟨x,hx1,hx2⟩:=Jak (fun r=>r.At.A) _ hn
  obtain ⟨y,hy1,hy2⟩:=Jak (fun r=>r.At.B) _ hn
  obtain ⟨mx1,bx⟩:=List.mem_filter.1 hx1
  obtain ⟨my1,bY⟩:=List.mem_filter.1 hy1
  have mx2:=List.mem_filter.1 mx1
  have my2:=List.mem_filter.1 my1
  simp only[yf,Bool.and_eq_true,decide_eq_true_eq] at bx bY
  have ox:=Jg (hrow x mx2.1)
  have oy:=Jg (hrow y my2.1)
  simp only[Ea,decide_eq_true_eq] at ox oy
  have exy:y.At.A≤x.At.A:=hx2 y hy1
  have eyx:x.At.B≤y.At.B:=hy2 x hx1
  have hs:(⟨x.At.A,y.At.B⟩ : Time)∈oc (jT a k) 8:=by
   refine DC.2 ⟨Vp.2 ⟨⟨x,mx2.1,by simpa using mx2.2,rfl,eyx⟩,y,my2.1,by simpa using my2.2,rfl,exy⟩,?_⟩
   show 0≤x.At.A∧x.At.A<8∧0≤y.At.B∧y.At.B<8
   omega
  have hrows:∀ r∈oa k a,yf r.At t=yf r.At ⟨x.At.A,y.At.B⟩:=fun r hr=>by
   rw[Bool.eq_iff_iff]
   constructor
   ·intro h
    have hm:r∈(oa k a).filter (fun x=>yf x.At t):=List.mem_filter.2 ⟨hr,h⟩
    have h1:r.At.A≤x.At.A:=hx2 r hm
    have h2:r.At.B≤y.At.B:=hy2 r hm
    simp only[yf,Bool.and_eq_true,decide_eq_true_eq]
    exact ⟨h1,h2⟩
   ·intro h
    simp only[yf,Bool.and_eq_true,decide_eq_true_eq] at h ⊢
    omega
  have h1:xd (oa k a) t=xd (oa k a) ⟨x.At.A,y.At.B⟩:=by unfold xd;rw[Oal hrows]
  have h2:Va e t=Va e ⟨x.At.A,y.At.B⟩:=Oal fun z hz=>by
   obtain ⟨⟨r1,m1,a1,b1⟩,r2,m2,a2,b2⟩:=hJ _ (he2 z hz)
   have q1:=hrows r1 m1
   have q2:=hrows r2 m2
   rw[Bool.eq_iff_iff] at q1 q2 ⊢
   simp only[yf,Bool.and_eq_true,decide_eq_true_eq] at q1 q2 ⊢
   constructor
   ·intro h
    have c1:=q1.1 (by omega)
    have c2:=q2.1 (by omega)
    omega
   ·intro h
    omega
  have h3:=Oan (kind:=kind) ho (Nal (jT a k) 8) hok hs key
  rw[hmade] at h3 ⊢
  rw[h1,h2]
  exact h3
theorem Qan {k:Int} {s:List Item} (hs:Canon s) (hk:∀ x∈s,x.Key=k):Canon (Dc k s):=by
 refine ⟨?_,fun x hx=>?_⟩
 ·unfold Dc
  rw[List.pairwise_map]
  refine List.Pairwise.imp_of_mem (fun {x y} hx hy h=>?_) (hs.1.sublist List.filter_sublist)
  have h1:=hk x (List.mem_filter.1 hx).1
  have h2:=hk y (List.mem_filter.1 hy).1
  unfold kI at h ⊢
  rw[h1,h2] at h
  exact h
 ·obtain ⟨y,_,rfl⟩:=List.mem_map.1 hx
  exact ⟨by simp,by unfold InR;simp⟩
theorem Ran {kind k:Int} {s:List Item} (hs:Canon s) (hk:∀ x∈s,x.Key=k):Canon (Wa kind k s):=by
 have h:=Qan hs hk
 unfold Wa
 split
 ·split
  ·exact ⟨.nil,by simp⟩
  ·exact ⟨by simp,by simp[InR]⟩
 ·split
  ·exact h
  ·exact ⟨h.1.sublist (List.take_sublist _ _),fun x hx=>h.2 x (List.mem_of_mem_take hx)⟩
theorem San {kind k:Int} {s:List Item} {x:Item} (hx:x∈Wa kind k s):x.Key=k:=by
 have honce:∀ x∈Dc k s,x.Key=k:=fun x hx=>by
  obtain ⟨y,hy,rfl⟩:=List.mem_map.1 hx
  rfl
 unfold Wa at hx
 split at hx
 ·split at hx
  ·cases hx
  ·simp at hx
   subst hx
   rfl
 ·split at hx
  ·exact honce x hx
  ·exact honce x (List.mem_of_mem_take hx)
theorem Tan {kind:Int} {s:List Item} (hs:Canon s):Canon (Yf kind s):=by
 have h:∀ k:Nat,Canon (Wa kind k (s.filter fun x=>decide (x.Key=k))):=fun k=>Ran (hs.filter _) fun x hx=>by simpa using (List.mem_filter.1 hx).2
 have hk:∀ (k:Nat) x,x∈Wa kind k (s.filter fun x=>decide (x.Key=k))→x.Key=k:=fun k x hx=>San hx
 unfold Yf
 rw[Jh,List.append_nil]
 refine (h 0).append ((h 1).append ((h 2).append (h 3) fun x hx y hy=>?_) fun x hx y hy=>?_) fun x hx y hy=>?_
 ·rw[hk 2 x hx,hk 3 y hy];decide
 ·rw[hk 1 x hx]
  rcases List.mem_append.1 hy with hy | hy
  ·rw[hk 2 y hy];decide
  ·rw[hk 3 y hy];decide
 ·rw[hk 0 x hx]
  rcases List.mem_append.1 hy with hy | hy
  ·rw[hk 1 y hy];decide
  ·rcases List.mem_append.1 hy with hy | hy
   ·rw[hk 2 y hy];decide
   ·rw[hk 3 y hy];decide
theorem Uan (f:Nat→List Row) (t:Time):Va ((List.range 4).flatMap f) t=(List.range 4).flatMap fun k=>Va (f k) t:=by
 show Va (f 0++(f 1++(f 2++(f 3++[])))) t=Va (f 0) t++(Va (f 1) t++(Va (f 2) t++(Va (f 3) t++[])))
 rw[pF,pF,pF,pF]
 rfl
theorem Van {kind:Int} {a:List Row} (hr:Hb a=true) (t:Time):xd (Za (xe kind a)) t=Yf kind (xd a t):=by
 have hrow:=(Bb hr).2
 have hin:∀ x∈a,InR x.Diff:=fun x hx=>Uf (hrow x hx)
 rw[Sah fun x hx=>((EF (kind:=kind) hrow).1 x hx).1]
 rw[← (Tan (kind:=kind) (s:=xd a t) (A4 _)).gath]
 refine BZ fun key=>?_
 have h:∀ k:Nat,Eqm (sumT (chI (Va (Ab kind k (oa k a) (Xa a k)) t)) key) (sumT (chI (Wa kind k ((xd a t).filter fun x=>decide (x.Key=k)))) key):=fun k=>by
  rw[← Lan hin]
  exact Pan hr key
 unfold xe Yf
 rw[Uan,Jh,Jh]
 simp only[MM]
 exact (h 0).add ((h 1).add ((h 2).add ((h 3).add (Eqm.refl _))))
end Go.Proofs.YthfkpijcajdnhaaGreat

namespace Go.Proofs.YthfkpijcajdnhaaGreat
open Go Tg
section
variable {a:List Row} (hr:Hb a=true) {kind:Int} (hkind:1≤kind∧kind≤3)
include hr hkind
end
end Go.Proofs.YthfkpijcajdnhaaGreat

namespace Go.Proofs.YthfkpijcajdnhaaGreat
open Go Tg
def opS (kind num:Int) (ks ins:List (List Item)):List Item :=
 if kind=1 then ins.getD num.toNat [] else if kind=2 then gathI (dah num (ks.getD 0 [])) else if kind=3 then gathI (ks.getD 0 []++ks.getD 1 []) else
 if kind=4 then (ks.getD 0 []).map Ib else if kind=5 then gathI (bah (ks.getD 0 []) (ks.getD 1 [])) else Yf num (ks.getD 0 [])
def oar:Nat→List (List Item)→Plan→List Item
 | 0,_,_=>[]
 | d+1,ins,p=>opS p.Kind p.Num (p.Kids.map (oar d ins)) ins
theorem Eal {a:List Row} (h:Hb a=true) (t:Time):∀ x∈xd a t,-39999600≤x.Count∧x.Count≤39999600:=by
 obtain ⟨h1,h2⟩:=Bb h
 have hs:yF 99999 (Va a t):=fun x hx=>by
  obtain ⟨r,hr,rfl⟩:=List.mem_map.1 hx
  have:=h2 r (List.mem_filter.1 hr).1
  simp only[ub,decide_eq_true_eq] at this
  exact ⟨this.2.2.2.2.2.1,this.2.2.2.2.2.2⟩
 have hl:(Va a t).length≤400:=by
  unfold Va
  rw[List.length_map]
  exact Nat.le_trans (List.length_filter_le _ _) h1
 have h3:=van hs (by omega)
 intro x hx
 have:=h3 x hx
 omega
theorem Aan {P:List Row→Prop} (h0:P []) {ks:List (List Row)} (h:∀ x∈ks,P x) (n:Nat):P (ks.getD n []):=by
 rw[List.getD_eq_getElem?_getD]
 cases hn:ks[n]? with
 | none=>exact h0
 | some x=>exact h x (List.mem_of_getElem? hn)
theorem Ban (ks:List (List Row)) (t:Time) (n:Nat):(ks.map fun x=>xd x t).getD n []=xd (ks.getD n []) t:=by
 rw[List.getD_eq_getElem?_getD,List.getD_eq_getElem?_getD,List.getElem?_map]
 cases ks[n]?<;>rfl
theorem Can {kind num:Int} {ks ins:List (List Row)} (hk:∀ x∈ks,Qa x=true) (t:Time):xd (opR kind num ks ins) t=opS kind num (ks.map fun x=>xd x t) (ins.map fun x=>xd x t):=by
 have hr:∀ n,Hb (ks.getD n [])=true:=Aan (P:=fun x=>Hb x=true) rfl fun x hx=>Vf (hk x hx)
 have hm:=fun n=>(Bb (hr n)).2
 have hi:∀ n,∀ x∈ks.getD n [],InR x.Diff:=fun n x hx=>Uf (hm n x hx)
 unfold opR opS
 simp only[Ban]
 split
 ·rfl
 ·split
  ·exact Fan (hi 0) t
  ·split
   ·exact Gan (hi 0) (hi 1) t
   ·split
    ·exact Han (hi 0) t fun x hx=>by have:=Eal (hr 0) t x hx;omega
    ·split
     ·exact Jan (hi 0) (hi 1) (fun x hx=>(Dr (hm 0) (hm 1) x hx).1) t
     ·exact Van (hr 0) t
theorem Gar {f:Plan→Option (List Row)} {g:Plan→List Item} {t:Time}:∀ {l:List Plan} {ks:List (List Row)},(∀ p∈l,∀ x,f p=some x→xd x t=g p)→Nb f l=some ks→(ks.map fun x=>xd x t)=l.map g
 | [],ks,_,h=>by simp[Nb] at h;subst h;rfl
 | p::l,ks,hg,h=>by
   simp only[Nb] at h
   split at h
   ·cases h
   ·rename_i y hy
    split at h
    ·cases h
    ·rename_i zs hz
     cases h
     simp only[List.map_cons]
     rw[hg p (by simp) y hy,Gar (fun q hq=>hg q (by simp[hq])) hz]
theorem par {ins:List (List Row)} (t:Time):∀ (d:Nat) (p:Plan) (x:List Row),Ob d ins p=some x→xd x t=oar d (ins.map fun x=>xd x t) p
 | 0,p,x,h=>by cases h
 | d+1,p,x,h=>by
   simp only[Ob] at h
   split at h
   ·cases h
   ·rename_i ks hks
    split at h
    ·cases h
     have hk:∀ x∈ks,Qa x=true:=fun x hx=>by
      obtain ⟨q,_,hq⟩:=zF hks x hx
      exact AF hq
     rw[Can hk t,Gar (g:=oar d (ins.map fun x=>xd x t)) (fun q _ y hy=>par t d q y hy) hks]
     rfl
    ·cases h
end Go.Proofs.YthfkpijcajdnhaaGreat

namespace Go.Proofs.YthfkpijcajdnhaaGreat
open Go Tg
theorem Wan {x y:Item} (h1:x.Key=y.Key) (h2:x.Val=y.Val) (h3:x.Count=y.Count):x=y:=by
 obtain ⟨a,b,c⟩:=x
 obtain ⟨a',b',c'⟩:=y
 simp at h1 h2 h3
 subst h1 h2 h3;rfl
theorem Pal (x y:Item):(cmp .eql x.Key y.Key&&(cmp .eql x.Val y.Val&&(cmp .eql x.Count y.Count&&true)))=true↔x=y:=by
 rw[Eb,Eb,Eb]
 simp only[Bool.and_eq_true,decide_eq_true_eq,and_true]
 constructor
 ·rintro ⟨h1,h2,h3⟩;exact Wan h1 h2 h3
 ·rintro rfl;exact ⟨rfl,rfl,rfl⟩
theorem Xan (a b:List Item) (hl:a.length<1000000000):Bah a b∧(Aah a b=true↔a=b):=by
 by_cases hlen:a.length=b.length
 ·have hz:(a.zip b).length=a.length:=by rw[List.length_zip];omega
  have key:∃ q,ja (fun s=>ca ((fun (s:Int)=>mah a b s) s)) (fun s=>Wah a b s) 0 q∧((q=.x ()∧a=b)∨(q=.r false∧a≠b)):=by
   refine ja.list (a.zip b) (fun i (_:Unit)=>(i:Int)) (fun l _=>a.take l.length=b.take l.length) (b0:=()) rfl rfl ?_ ?_
   ·rintro l ⟨u,v⟩ r ⟨⟩ hx hI
    have hll:l.length<a.length:=by rw[← hz,hx];simp
    have hg:(a.zip b)[l.length]? = some (u,v):=by rw[hx];simp
    rw[List.getElem?_zip_eq_some] at hg
    have hu:rd .item a (l.length:Int)=u:=by
     show a.getD (Int.toNat l.length) _=u
     rw[Int.toNat_natCast,List.getD_eq_getElem?_getD,hg.1];rfl
    have hv:rd .item b (l.length:Int)=v:=by
     show b.getD (Int.toNat l.length) _=v
     rw[Int.toNat_natCast,List.getD_eq_getElem?_getD,hg.2];rfl
    have hla:aa .item a=(a.length:Int):=rfl
    have hlb:aa .item b=(b.length:Int):=rfl
    have hlss:cmp .lss (l.length:Int) (aa .item a)=true:=by rw[fc,hla];simp;omega
    have hi1:inb (l.length:Int) (aa .item a):=⟨by omega,by omega⟩
    have hi2:inb (l.length:Int) (aa .item b):=⟨by omega,by omega⟩
    refine ⟨by simp[Wah,hlss,hi1,hi2,vah,Tr.ob,ga],?_⟩
    show (∃ b',ca (mah a b (l.length:Int))=_∧_)∨∃ q,ca (mah a b (l.length:Int))=_∧_
    simp only[mah,hlss,hu,hv,Ua (l:=l) (by omega),vah,Tr.val]
    by_cases he:u=v
    ·left
     subst he
     rw[(Pal u u).2 rfl]
     refine ⟨(),rfl,?_⟩
     rw[List.length_append,List.length_singleton,List.take_add_one,List.take_add_one,hI,hg.1,hg.2]
    ·right
     have hne:(cmp .eql u.Key v.Key&&(cmp .eql u.Val v.Val&&(cmp .eql u.Count v.Count&&true)))=false:=by
      rw[← Bool.not_eq_true,Pal];exact he
     rw[hne]
     refine ⟨.r false,rfl,.inr ⟨rfl,fun hab=>he ?_⟩⟩
     have:=hg.1
     rw[hab,hg.2] at this
     exact (Option.some.inj this).symm
   ·rintro ⟨⟩ hI
    have hend:cmp .lss ((a.zip b).length:Int) (aa .item a)=false:=by rw[fc,hz];simp[aa]
    rw[hz,List.take_length,hlen,List.take_length] at hI
    simp only[Wah,mah,hend,vah,Tr.val,Tr.ob,ga]
    exact ⟨by simp,_,rfl,.inl ⟨rfl,hI⟩⟩
  obtain ⟨q,h1,h2⟩:=key
  have b2:Yal a b:=h1.t
  have hn:cmp .neq (aa .item a) (aa .item b)=false:=by
   show cmp .neq (a.length:Int) (b.length:Int)=false
   rw[ve,hlen];simp
  rcases h2 with ⟨rfl,h2⟩ | ⟨rfl,h2⟩
  ·have a2:Pak a b=.x ():=h1.v
   simp only[Bah,Aah,zah,yah,Rak,Qak,hn,a2,ocR,xah,wah,Yah,Xah,lpS,Tr.val,Tr.ob]
   exact ⟨by simp[b2],fun _=>h2,fun _=>trivial⟩
  ·have a2:Pak a b=.r false:=h1.v
   simp only[Bah,Aah,zah,yah,Rak,Qak,hn,a2,ocR,xah,wah,Yah,Xah,lpS,Tr.val,Tr.ob]
   exact ⟨by simp[b2],(fun h=>by cases h),fun h=>absurd h h2⟩
 ·have hn:cmp .neq (aa .item a) (aa .item b)=true:=by
   show cmp .neq (a.length:Int) (b.length:Int)=true
   rw[ve];simp;omega
  simp only[Bah,Aah,zah,yah,hn,ocR,xah,wah,Tr.val,Tr.ob]
  exact ⟨by simp,(fun h=>by cases h),fun h=>absurd (by rw[h]) hlen⟩
def atT (t:Time) (a:List Row):Prop:=∀ x∈a,x.At=t
theorem atT.gath {t:Time} {a:List Row} (h:atT t a):atT t (Za a):=fun x hx=>by
 obtain ⟨y,hy,e⟩:=qan hx
 have e : [y.Key,y.Val,y.At.A,y.At.B]=[x.Key,x.Val,x.At.A,x.At.B]:=e
 have hy:=h y hy
 simp only[List.cons.injEq,and_true] at e
 rcases hx:x.At with ⟨A,B⟩
 rw[hx,hy] at e
 rw[← hy,hy]
 simp only at e
 rw[← e.2.2.1,← e.2.2.2]
theorem oaz {kind num:Int} {ks ins:List (List Row)} (hk:∀ a∈ks,atT ⟨0,0⟩ a) (hi:∀ a∈ins,atT ⟨0,0⟩ a):atT ⟨0,0⟩ (opR kind num ks ins):=by
 have hg:∀ {l:List (List Row)},(∀ a∈l,atT ⟨0,0⟩ a)→∀ n,atT ⟨0,0⟩ (l.getD n []):=fun h n=>Aan (P:=atT ⟨0,0⟩) (fun x hx=>by cases hx) h n
 unfold opR
 split
 ·exact hg hi _
 ·split
  ·refine atT.gath fun x hx=>?_
   obtain ⟨y,hy,hx⟩:=List.mem_flatMap.1 hx
   unfold Sf at hx
   split at hx
   ·simp at hx;subst hx;exact hg hk 0 y hy
   ·cases hx
  ·split
   ·refine atT.gath fun x hx=>?_
    exact (List.mem_append.1 hx).elim (hg hk 0 x) (hg hk 1 x)
   ·split
    ·refine atT.gath fun x hx=>?_
     obtain ⟨y,hy,rfl⟩:=List.mem_map.1 hx
     exact hg hk 0 y hy
    ·split
     ·refine atT.gath fun x hx=>?_
      obtain ⟨y,hy,hx⟩:=List.mem_flatMap.1 hx
      obtain ⟨z,hz,hx⟩:=List.mem_flatMap.1 hx
      unfold ic at hx
      split at hx
      ·simp at hx;subst hx
       show ab y.At z.At=_
       rw[hg hk 0 y hy,hg hk 1 z hz];rfl
      ·cases hx
     ·refine atT.gath fun x hx=>?_
      obtain ⟨k,_,hx⟩:=List.mem_flatMap.1 hx
      unfold Ab at hx
      obtain ⟨e,h1,h2⟩:=Hak (kind:=num) (k:=(k:Int)) (own:=oa k (ks.getD 0 [])) (Xa (ks.getD 0 []) k) []
      rw[h1,List.nil_append] at hx
      have ht:=h2 x hx
      unfold Xa at ht
      split at ht
      ·obtain ⟨hj,_⟩:=DC.1 ht
       simp only[jT,Bool.and_eq_true,List.any_eq_true,decide_eq_true_eq] at hj
       obtain ⟨⟨u,hu,_,e1,_⟩,v,hv,_,e2,_⟩:=hj
       rw[hg hk 0 u hu] at e1
       rw[hg hk 0 v hv] at e2
       rcases hxa:x.At with ⟨A,B⟩
       rw[hxa] at e1 e2
       simp at e1 e2
       rw[← e1,← e2]
      ·cases ht
theorem Zay {ins:List (List Row)} (hi:∀ a∈ins,atT ⟨0,0⟩ a):∀ (d:Nat) (p:Plan) (x:List Row),Ob d ins p=some x→atT ⟨0,0⟩ x
 | 0,p,x,h=>by cases h
 | d+1,p,x,h=>by
   simp only[Ob] at h
   split at h
   ·cases h
   ·rename_i ks hks
    split at h
    ·cases h
     exact oaz (fun y hy=>by
      obtain ⟨q,_,hq⟩:=zF hks y hy
      exact Zay hi d q y hq) hi
    ·cases h
def ray (a:List Row):List Row:=(xd a ⟨7,7⟩).map (rowT ⟨0,0⟩)
theorem paz (a:List Row) (t:Time):gathI (xd a t)=xd a t:=(A4 _).gath
theorem qaz (a:List Row):xd (ray a) ⟨0,0⟩=xd a ⟨7,7⟩:=by
 show gathI (Va (ray a) ⟨0,0⟩)=_
 unfold ray
 rw[Nan]
 exact paz a _
theorem Qal {a:List Row} (h:Hb a=true) (t:Time):(xd a t).length≤400:=by
 obtain ⟨h1,h2⟩:=Bb h
 have hs:∀ x∈Va a t,InR x.Count:=kah (fun x hx=>Uf (h2 x hx)) t
 have hl:(Va a t).length≤400:=by
  unfold Va
  rw[List.length_map]
  exact Nat.le_trans (List.length_filter_le _ _) h1
 exact Nat.le_trans (wan hs) hl
theorem raz (c:List Int) (hc:∀ x∈c,0≤x∧x≤255):Tay c∧Say c=true:=by
 by_cases hbig:cmp .gtr (aa .byte c) 1048576=true
 ·simp only[Tay,Say,Gay,Fay,hbig,ocR,Eay,Tr.val,Tr.ob,ga]
  exact ⟨by simp,trivial⟩
 ·have hbig:cmp .gtr (aa .byte c) 1048576=false:=by simpa using hbig
  obtain ⟨p,ins,h⟩:=R3 hc
  simp only[Tay,Say,Gay,Fay,Eay,Tr.val,Tr.ob,ga,hbig,h.d2,Xf,h.s2,h.i2]
  cases hF:Te p ins with
  | none =>
    have l1:=nN [] [] (by simp)
    have l2:=oN [] (by simp)
    simp only[xc,l2,ocR]
    exact ⟨by simp[h.d1,h.s1,h.i1,l1],by simp⟩
  | some x =>
    have f:=T3 hF
    have hs:=f.short
    have l1:=nN x x (by omega)
    have l2:=oN x (by omega)
    have hlen:=h.len
    have hro:∀ a∈ins,Hb a=true:=fun a ha=>Vf (f.every a ha)
    have k5:∀ (A:List LR) (B:Int) (s:List Item),s.length≤400→ja (fun q:LR×Int=>ca (uay p.Kind p.Num p.Kids ins x A B s q.1 q.2)) (fun q=>zay p.Kind p.Num p.Kids ins x A B s q.1 q.2) ([],0) (.x (s.map (rowT ⟨0,0⟩))):=fun A B s hsl=>by
     refine ja.fold s (fun i (b:LR)=>(b,(i:Int))) (fun l=>l.map (rowT ⟨0,0⟩)) rfl (fun l y r hx=>?_) ?_
     ·have hrd:rd .item s (l.length:Int)=y:=by rw[hx];exact Ya
      have hin:inb (l.length:Int) (aa .item s):=by rw[hx];exact Ta (t:=.item)
      have hlss:cmp .lss (l.length:Int) (aa .item s)=true:=by rw[hx];exact db
      have hlen2:s.length=l.length+(r.length+1):=by rw[hx];simp
      have hlim:∀ z,lim (aa .row (l.map (rowT ⟨0,0⟩))) (aa .row [z]):=fun z=>Vb (t:=.row) (show (l.map (rowT ⟨0,0⟩)).length<1099511627776 by rw[List.length_map];omega)
      simp only[zay,uay,yay,Tr.val,Tr.ob,ga,hlss,hrd,Ua (l:=l) (by omega)]
      exact ⟨by simp[hin,hlim],by rw[List.map_append];rfl⟩
     ·have hend:cmp .lss (s.length:Int) (aa .item s)=false:=fb (t:=.item)
      simp only[zay,uay,yay,Tr.val,Tr.ob,ga,hend]
      exact ⟨by simp,rfl⟩
    have k2:ja (fun q:List LR×Int=>ca (vay p.Kind p.Num p.Kids ins x q.1 q.2)) (fun q=>Bay p.Kind p.Num p.Kids ins x q.1 q.2) ([],0) (.x (ins.map ray)):=by
     refine ja.fold ins (fun i (b:List LR)=>(b,(i:Int))) (fun l=>l.map ray) rfl (fun l y r hx=>?_) ?_
     ·have hrd:rd .lrow ins (l.length:Int)=y:=by rw[hx];exact Ya
      have hin:inb (l.length:Int) (aa .lrow ins):=by rw[hx];exact Ta (t:=.lrow)
      have hlss:cmp .lss (l.length:Int) (aa .lrow ins)=true:=by rw[hx];exact db
      have hlen2:ins.length=l.length+(r.length+1):=by rw[hx];simp
      have hry:=hro y (by rw[hx];simp)
      have hyl:=(Bb hry).1
      obtain ⟨b1,b2⟩:=Dal y ⟨7,7⟩ (by omega)
      have hot:Ea ⟨7,7⟩=true:=rfl
      rw[if_pos ⟨hry,hot⟩] at b2
      have a5:∀ A B,aaz p.Kind p.Num p.Kids ins x A B (xd y ⟨7,7⟩)=.x (ray y):=fun A B=>(k5 A B (xd y ⟨7,7⟩) (Qal hry _)).v
      have o5:∀ A B,baz p.Kind p.Num p.Kids ins x A B (xd y ⟨7,7⟩):=fun A B=>(k5 A B (xd y ⟨7,7⟩) (Qal hry _)).t
      have hlim:∀ z,lim (aa .lrow (l.map ray)) (aa .lrow [z]):=fun z=>Vb (t:=.lrow) (show (l.map ray).length<1099511627776 by rw[List.length_map];omega)
      simp only[Bay,vay,Aay,Lay,faz,eaz,Kay,Jay,daz,caz,Iay,Hay,lpS,Tr.val,Tr.ob,ga,hlss,hrd,b2,a5,Ua (l:=l) (by omega)]
      exact ⟨by simp[hin,b1,o5,hlim],by rw[List.map_append];rfl⟩
     ·have hend:cmp .lss (ins.length:Int) (aa .lrow ins)=false:=fb (t:=.lrow)
      simp only[Bay,vay,Aay,Tr.val,Tr.ob,hend]
      exact ⟨by simp,rfl⟩
    have a2:gaz p.Kind p.Num p.Kids ins x=.x (ins.map ray):=k2.v
    have o2:haz p.Kind p.Num p.Kids ins x:=k2.t
    obtain ⟨g1,g2⟩:=J3 p (ins.map ray) (by rw[List.length_map];omega) (fun a ha=>by
     obtain ⟨y,hy,rfl⟩:=List.mem_map.1 ha
     have:=Qal (hro y hy) ⟨7,7⟩
     unfold ray
     rw[List.length_map]
     omega)
    have k7:∀ (y:List Row) (b:Bool),y.length≤400→atT ⟨0,0⟩ y→ja (fun q:Int=>ca (xay x y b q)) (fun q=>Day x y b q) 0 (.x ()):=fun y b hyl hat=>by
     refine ja.fold y (fun i (_:Unit)=>(i:Int)) (fun _=>()) rfl (fun l z r hx=>?_) ?_
     ·have hrd:rd .row y (l.length:Int)=z:=by rw[hx];exact Ya
      have hin:inb (l.length:Int) (aa .row y):=by rw[hx];exact Ta (t:=.row)
      have hlss:cmp .lss (l.length:Int) (aa .row y)=true:=by rw[hx];exact db
      have hlen2:y.length=l.length+(r.length+1):=by rw[hx];simp
      have hz:z.At=⟨0,0⟩:=hat z (by rw[hx];simp)
      simp only[Day,xay,Cay,Tr.val,Tr.ob,ga,hlss,hrd,hz,Eb,decide_true,Bool.and_true,Bool.not_true,Ua (l:=l) (by omega)]
      exact ⟨by simp[hin],rfl⟩
     ·have hend:cmp .lss (y.length:Int) (aa .row y)=false:=fb (t:=.row)
      simp only[Day,xay,Cay,Tr.val,Tr.ob,ga,hend]
      exact ⟨by simp,rfl⟩
    have hat:∀ a∈ins.map ray,atT ⟨0,0⟩ a:=fun a ha z hz=>by
     obtain ⟨y,_,rfl⟩:=List.mem_map.1 ha
     obtain ⟨w,_,rfl⟩:=List.mem_map.1 hz
     rfl
    simp only[Oay,jaz,iaz,Nay,May,Ray,laz,kaz,Qay,Pay,lpS,Tr.val,Tr.ob,xc,l2,a2,g2]
    cases hG:Te p (ins.map ray) with
    | none =>
      have a7:Xay x [] false=.x ():=(k7 [] false (by simp) (fun z hz=>by cases hz)).v
      have o7:Yay x [] false:=(k7 [] false (by simp) (fun z hz=>by cases hz)).t
      simp only[a7,ocR]
      exact ⟨by simp[h.d1,h.s1,h.i1,l1,o2,g1,g2,hG,xc,o7,a7],by simp⟩
    | some y =>
      have f2:=T3 hG
      have hyat:=Zay hat 4 p y f2.flow
      have a7:Xay x y true=.x ():=(k7 y true f2.short hyat).v
      have o7:Yay x y true:=(k7 y true f2.short hyat).t
      have hry:=Vf f2.batch
      have hrx:=Vf f.batch
      have hys:=f2.short
      obtain ⟨u1,u2⟩:=Dal y ⟨0,0⟩ (by omega)
      rw[if_pos ⟨hry,rfl⟩] at u2
      obtain ⟨w1,w2⟩:=Dal x ⟨7,7⟩ (by omega)
      rw[if_pos ⟨hrx,rfl⟩] at w2
      have hsame:xd y ⟨0,0⟩=xd x ⟨7,7⟩:=by
       rw[par ⟨0,0⟩ 4 p y f2.flow,par ⟨7,7⟩ 4 p x f.flow,List.map_map]
       congr 1
       exact List.map_congr_left fun a _=>qaz a
      obtain ⟨i1,i2⟩:=Xan (xd x ⟨7,7⟩) (xd x ⟨7,7⟩) (by have:=Qal hrx ⟨7,7⟩;omega)
      simp only[a7,u2,w2,hsame,i2.2 rfl,ocR]
      exact ⟨by simp[h.d1,h.s1,h.i1,l1,o2,g1,g2,hG,xc,o7,a7,u1,w1,u2,hsame,i1],by simp⟩
end Go.Proofs.YthfkpijcajdnhaaGreat

namespace Go.Proofs.YthfkpijcajdnhaaGreat
open Go
theorem nan:Con Tryz.prog 20 Kai:=uao (.cons Xae (.cons EW (.cons haf (.nil ya za))))
theorem Nap:Con Tryz.prog 21 Sak:=zao (.nil ya za)
theorem Eaz:Con Tryz.prog 8 naz:=Daz (.cons Aae (.cons Rae (.cons naf (.cons oaf (.cons nan (.cons Nap (.nil ya za)))))))
end Go.Proofs.YthfkpijcajdnhaaGreat
