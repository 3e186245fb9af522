/-
  Printed by a program: what functions compute, and their contracts (part 2). 'DrawPlanFlow' by hand: a list of lists that is cut and written. Maps from structs of numbers to 'true': sets; how the machine's operations on them run. Batches aggregated: the program's function and the reference's. Laws of plans over batches: that they make batches; that what is taken away twice is there, and a plan and its taking away make nothing; that a plan makes of its parts what they make. Laws of plans over batches: that a plan makes of its parts what they make, and that it does not change with what it does not ask for. Printed by a program: the contracts, with those of the callees. No statement is proved here.
-/
import Derived.Test.YthfkpijcajdnhaaGreatB2
import Derived.IntWalk

namespace Go.Proofs.YthfkpijcajdnhaaGreat
open Go
noncomputable section
set_option maxRecDepth 100000
def zav:SP:=[(12,wu),(13,bI),(14,IJ),(15,MJ)]
abbrev F5:Fnn:=⟨[.tmp 2],.one .fr .bool,none,[]⟩
abbrev rv5:Bool→RV:=fun q=>(some (RT.av (.one .fr .bool) q),.dead)
abbrev Ok5 (fr:Fr) {A X Y Z:Type} (S:da Bool A X Y Z):Prop:=ua Tryz.prog tt ⟨Tryz.f5.ntmps,none,[]⟩ fr (ia Tryz.f5) F5 S
def Dav (_x12 _x13:Int) (x14:LP) (x15:List LR) (_x16:LR) (s23:List LR) (s24:LP) (s25:Int):Tr Bool ((List LR)×LP×Int) ((List LR)×LP) Empty Empty :=
 .c (cmp .lss s25 (aa .plan x14))
 (.k (Ip (Plan.mk (rd .plan x14 s25).Kind (rd .plan x14 s25).Num (rd .plan x14 s25).Kids) x15) fun u27=>.w [inb s25 (aa .plan x14),(Jp (Plan.mk (rd .plan x14 s25).Kind (rd .plan x14 s25).Num (rd .plan x14 s25).Kids) x15)] (.c (!u27.2.1)
 (.l (.r false))
 (.w [lim (aa .lrow s23) (aa .lrow [u27.1])] (.w [lim (aa .plan s24) (aa .plan [(Plan.mk 1 s25 [])])] (.l (.n ((s23++[u27.1]),(s24++[(Plan.mk 1 s25 [])]),(ar .add .i64 s25 1))))))))
 (.l (.x (s23,s24)))
def Cav:=fun x12 x13 x14 x15 x16 s23 s24 s25=>(Dav x12 x13 x14 x15 x16 s23 s24 s25).val
def Eav:=fun x12 x13 x14 x15 x16 s23 s24 s25=>(Dav x12 x13 x14 x15 x16 s23 s24 s25).ob
def Rav:=fun x12 x13 x14 x15 x16 s23 s24 s25=>Na (Cav x12 x13 x14 x15 x16 s23 s24 s25) (Eav x12 x13 x14 x15 x16 s23 s24 s25) [0,0,1,0,1,1,1,1,1,1,1,1] (fun q=>[(3,.box [(.fr,.i x12),(.fr,.i x13),(.sh,.lst .plan x14)]),(4,.S .lrow x15),(7,.S .row x16),(9,.v (.acc false) (.lst .lrow q.1)),(10,.box [(.fr,.i x12),(.fr,.i x13),((.acc true),.lst .plan q.2.1)]),(11,.I q.2.2)]) (s23,s24,s25) rv5 (fun q=>(0,[(7,.S .row x16),(9,.v (.acc false) (.lst .lrow q.1)),(10,.box [(.fr,.i x12),(.fr,.i x13),((.acc true),.lst .plan q.2)])])) nE nE
theorem jaw (G:Good Tryz.prog tt zav) {fr:Fr}:∀ x12 x13 x14 x15 x16 s23 s24 s25,Ok5 fr (Rav x12 x13 x14 x15 x16 s23 s24 s25) :=
 fun x12 x13 x14 x15 x16 s23 s24 s25=>fa G [] trivial [(11,[3,4,7,9,10,11,73]),(12,[3,4,7,9,10,11]),(13,[3,4,7,9,10,11,12,13]),(14,[3,4,7,9,10,11,12,87]),(15,[2]),(16,[3,4,7,9,10,11]),(17,[3,4,7,9,10,11])] [] [] (Dav x12 x13 x14 x15 x16 s23 s24 s25) rfl rfl (by kernel_rfl)
def Vav:=fun x12 x13 x14 x15 x16=>lpV (fun s:(List LR)×LP×Int=>ca (Cav x12 x13 x14 x15 x16 s.1 s.2.1 s.2.2)) ([],[],0)
def Wav:=fun x12 x13 x14 x15 x16=>LpT (fun s:(List LR)×LP×Int=>ca (Cav x12 x13 x14 x15 x16 s.1 s.2.1 s.2.2)) (fun s=>Eav x12 x13 x14 x15 x16 s.1 s.2.1 s.2.2) ([],[],0)
def Jav:=fun x12 x13 x14 x15 x16=>lpS (Rav x12 x13 x14 x15 x16 [] [] 0) (Vav x12 x13 x14 x15 x16) (Wav x12 x13 x14 x15 x16)
theorem kaw (G:Good Tryz.prog tt zav) {fr:Fr}:∀ x12 x13 x14 x15 x16,Ok5 fr (Jav x12 x13 x14 x15 x16) :=
 fun x12 x13 x14 x15 x16=>Oa (fun s:(List LR)×LP×Int=>Rav x12 x13 x14 x15 x16 s.1 s.2.1 s.2.2) ([],[],0) (fun _=>rfl) (fun _=>⟨rfl,rfl,rfl,rfl,rfl⟩) (by kernel_rfl) fun _=>jaw G _ _ _ _ _ _ _ _
def Kav (x7 x8:Int) (x9:LP) (x10:List LR) (x11:LR):Tr Bool ((List LR)×LP) Empty Empty Empty :=
 .s (Jav x7 x8 x9 x10 x11) nE (fun q39=>.l (.n (q39.1,q39.2))) nE nE
def Xav:=fun x7 x8 x9 x10 x11=>(Kav x7 x8 x9 x10 x11).val
def Yav:=fun x7 x8 x9 x10 x11=>(Kav x7 x8 x9 x10 x11).ob
def Lav:=fun x7 x8 x9 x10 x11=>da.mk (Xav x7 x8 x9 x10 x11) (Yav x7 x8 x9 x10 x11) [0,1,1,1,1,1,1,1,1] [(3,.box [(.fr,.i x7),(.fr,.i x8),(.sh,.lst .plan x9)]),(4,.S .lrow x10),(7,.S .row x11),(9,.A .lrow []),(10,.box [(.fr,.i x7),(.fr,.i x8),(.fr,.nl .plan)])] rv5 (fun q=>[(7,.S .row x11),(9,.v (.acc false) (.lst .lrow q.1)),(10,.box [(.fr,.i x7),(.fr,.i x8),((.acc true),.lst .plan q.2)])]) nE nE nE
theorem maw (G:Good Tryz.prog tt zav) {fr:Fr}:∀ x7 x8 x9 x10 x11,Ok5 fr (Lav x7 x8 x9 x10 x11) :=
 fun x7 x8 x9 x10 x11=>fa G [([0,1,0,1,1,1,1,1,1,1,1],fun e=>⟨Jav (gI e 3 0) (gI e 3 1) (gL .plan e 3 2) (gL .lrow e 4 0) (gL .row e 7 0)⟩)] ⟨fun _=>⟨rfl,kaw G _ _ _ _ _⟩,trivial⟩ [(10,[3,4,7,9,10,11])] [] [] (Kav x7 x8 x9 x10 x11) rfl rfl (by kernel_rfl)
def Fav (_x50:LR) (_x51:List LR) (_x52 _x53:Int) (_x54:LP) (s57:List LR):Tr Bool ((List LR)) ((List LR)) Empty Empty :=
 .c (cmp .lss (aa .lrow s57) 2)
 (.w [lim (aa .lrow s57) (aa .lrow [[]])] (.l (.n (s57++[[]]))))
 (.l (.x s57))
def Aav:=fun x50 x51 x52 x53 x54 s57=>(Fav x50 x51 x52 x53 x54 s57).val
def Bav:=fun x50 x51 x52 x53 x54 s57=>(Fav x50 x51 x52 x53 x54 s57).ob
def Sav:=fun x50 x51 x52 x53 x54 s57=>Na (Aav x50 x51 x52 x53 x54 s57) (Bav x50 x51 x52 x53 x54 s57) [0,0,0,1,1,1,1,1,1,1,1,1] (fun q=>[(7,.S .row x50),(9,.v (.acc false) (.lst .lrow q)),(10,.box [(.fr,.i x52),(.fr,.i x53),((.acc true),.lst .plan x54)])]) s57 rv5 (fun q=>(2,[(7,.S .row x50),(9,.v (.acc false) (.lst .lrow q)),(10,.box [(.fr,.i x52),(.fr,.i x53),((.acc true),.lst .plan x54)])])) nE nE
theorem naw (G:Good Tryz.prog tt zav) {fr:Fr}:∀ x50 x51 x52 x53 x54 s57,Ok5 fr (Sav x50 x51 x52 x53 x54 s57) :=
 fun x50 x51 x52 x53 x54 s57=>fa G [] trivial [(18,[7,9,10,101]),(19,[7,9,10])] [] [] (Fav x50 x51 x52 x53 x54 s57) rfl rfl (by kernel_rfl)
def Zav:=fun x50 x51 x52 x53 x54=>lpV (fun s:(List LR)=>ca (Aav x50 x51 x52 x53 x54 s)) x51
def aaw:=fun x50 x51 x52 x53 x54=>LpT (fun s:(List LR)=>ca (Aav x50 x51 x52 x53 x54 s)) (fun s=>Bav x50 x51 x52 x53 x54 s) x51
def Mav:=fun x50 x51 x52 x53 x54=>lpS (Sav x50 x51 x52 x53 x54 x51) (Zav x50 x51 x52 x53 x54) (aaw x50 x51 x52 x53 x54)
theorem oaw (G:Good Tryz.prog tt zav) {fr:Fr}:∀ x50 x51 x52 x53 x54,Ok5 fr (Mav x50 x51 x52 x53 x54) :=
 fun x50 x51 x52 x53 x54=>Oa (fun s:(List LR)=>Sav x50 x51 x52 x53 x54 s) x51 (fun _=>rfl) (fun _=>⟨rfl,rfl,rfl,rfl,rfl⟩) (by kernel_rfl) fun _=>naw G _ _ _ _ _ _
def Nav (x45:LR) (x46:List LR) (x47 x48:Int) (x49:LP):Tr Bool ((List LR)) Empty Empty Empty :=
 .s (Mav x45 x46 x47 x48 x49) nE (fun q64=>.l (.n q64)) nE nE
def baw:=fun x45 x46 x47 x48 x49=>(Nav x45 x46 x47 x48 x49).val
def caw:=fun x45 x46 x47 x48 x49=>(Nav x45 x46 x47 x48 x49).ob
def Oav:=fun x45 x46 x47 x48 x49=>da.mk (baw x45 x46 x47 x48 x49) (caw x45 x46 x47 x48 x49) [0,1,1,1,1,1,1,1,1,1] [(7,.S .row x45),(9,.v (.acc false) (.lst .lrow x46)),(10,.box [(.fr,.i x47),(.fr,.i x48),((.acc true),.lst .plan x49)])] rv5 (fun q=>[(7,.S .row x45),(9,.v (.acc false) (.lst .lrow q)),(10,.box [(.fr,.i x47),(.fr,.i x48),((.acc true),.lst .plan x49)])]) nE nE nE
theorem paw (G:Good Tryz.prog tt zav) {fr:Fr}:∀ x45 x46 x47 x48 x49,Ok5 fr (Oav x45 x46 x47 x48 x49) :=
 fun x45 x46 x47 x48 x49=>fa G [([0,0,1,1,1,1,1,1,1,1,1],fun e=>⟨Mav (gL .row e 7 0) (gL .lrow e 9 0) (gI e 10 0) (gI e 10 1) (gL .plan e 10 2)⟩)] ⟨fun _=>⟨rfl,oaw G _ _ _ _ _⟩,trivial⟩ [] [] [] (Nav x45 x46 x47 x48 x49) rfl rfl (by kernel_rfl)
def Gav (a0:LB):Tr Bool Empty Empty Empty Empty :=
 .c (cmp .gtr (aa .byte a0) 1048576)
 (.l (.r true))
 (.k (Qg a0) fun u2=>.w [(ij a0)] (.k (ao (Plan.mk u2.1.Kind u2.1.Num u2.1.Kids) u2.2.1) fun u3=>.w [(eo (Plan.mk u2.1.Kind u2.1.Num u2.1.Kids) u2.2.1)] (.k (Ip (Plan.mk u2.1.Kind u2.1.Num u2.1.Kids) u2.2.1) fun u4=>.w [(Jp (Plan.mk u2.1.Kind u2.1.Num u2.1.Kids) u2.2.1)] (.k (vC u4.1 u3.1) fun u5=>.w [(((!(!(u4.2.1 == u3.2.1)))&&true)=true→(wC u4.1 u3.1))] (.c (cond (cond (cond (!(u4.2.1 == u3.2.1)) true (!u5)) true (!u4.2.1)) true (cmp .eql (aa .plan u2.1.Kids) 0))
 (.w [(((u4.2.1 == u3.2.1)&&true)=true→(wC u4.1 u3.1))] (.l (.r (cond (u4.2.1 == u3.2.1) u5 false))))
 (.s (Lav u2.1.Kind u2.1.Num u2.1.Kids u2.2.1 u4.1) (fun q43=>.s (Oav u4.1 q43.1 u2.1.Kind u2.1.Num q43.2) (fun q67=>.k (Ip (Plan.mk u2.1.Kind u2.1.Num q43.2) q67) fun u69=>.w [(Jp (Plan.mk u2.1.Kind u2.1.Num q43.2) q67)] (.w [((u69.2.1&&true)=true→(wC u69.1 u4.1))] (.l (.r (cond u69.2.1 (vC u69.1 u4.1) false))))) nE nE nE) nE nE nE))))))
def Hav:=fun a0=>(Gav a0).val
def Iav:=fun a0=>(Gav a0).ob
def daw:=fun a0=>da.mk (Hav a0) (Iav a0) [] [(0,.S .byte a0)] rv5 nE nE nE nE
theorem qaw (G:Good Tryz.prog tt zav) {fr:Fr}:∀ a0,Ok5 fr (daw a0) :=
 fun a0=>fa G [([0,1,1,1,1,1,1,1,1],fun e=>⟨Lav (gI e 3 0) (gI e 3 1) (gL .plan e 3 2) (gL .lrow e 4 0) (gL .row e 7 0)⟩),([0,1,1,1,1,1,1,1,1,1],fun e=>⟨Oav (gL .row e 7 0) (gL .lrow e 9 0) (gI e 10 0) (gI e 10 1) (gL .plan e 10 2)⟩)] ⟨fun _=>⟨rfl,maw G _ _ _ _ _⟩,fun _=>⟨rfl,paw G _ _ _ _ _⟩,trivial⟩ [(0,[0]),(1,[0,18]),(2,[2]),(3,[3,4]),(4,[3,4,5,6]),(5,[3,4,5,6,7,8]),(6,[3,4,5,6,7,8,54]),(7,[2]),(8,[3,4,7,9]),(9,[3,4,7,9,10]),(20,[7,14,15]),(21,[2])] [] [] (Gav a0) rfl rfl (by kernel_rfl)
def Pav (a0:LB):Bool:=ocR (Hav a0)
def Qav (a0:LB):Prop:=Iav a0
def eaw:Spec:=⟨[(.lst .byte)],.one .fr .bool,false,fun x=>(Pav x.1,0),fun x=>Qav x.1⟩
theorem taw (G:Good Tryz.prog tt zav):Con Tryz.prog 5 eaw :=
 Ca (pts:=[(.lst .byte)]) (rt:=.one .fr .bool) (o:=fun x=>Hav x.1) (ob:=fun x=>Iav x.1) G (fn:=Tryz.f5) (c:=ia Tryz.f5) (by kernel_rfl) (by kernel_rfl) (by kernel_rfl) (rs:=[.tmp 2]) (fz:=F5.fz) (by kernel_rfl) (by kernel_rfl) (fun _=>rfl) rfl (fun x=>daw x.1) (fun _=>⟨rfl,rfl,rfl,rfl,rfl⟩) (fun x _=>qaw G x.1)
end
end Go.Proofs.YthfkpijcajdnhaaGreat

namespace Go.Proofs.YthfkpijcajdnhaaGreat
namespace Dp
open Go
set_option maxRecDepth 100000
section
variable {Q:Exit→Act→World→Prop} {B:Nat} {W0:World} {F0:Fz} {a:Act} {w:World} {p:Plan} {l:List LR}
end
end Dp
end Go.Proofs.YthfkpijcajdnhaaGreat

namespace Go.Proofs.YthfkpijcajdnhaaGreat
open Go
section
variable {P:Program} {K n:Nat}
variable {T E:Nat} (M:WW P T K E n) {w:World} {r:Nat} {S:wa} (hr:w.heap[r]? = some (Ha S)) (hm:Xb n S) {ks:List Int} (hk:ks.length=n)
include M hr hm hk
end
end Go.Proofs.YthfkpijcajdnhaaGreat

namespace Go.Proofs.YthfkpijcajdnhaaGreat
open Go Tg
section
variable {a:List Row} (hr:Hb a=true) {kind:Int} (hkind:1≤kind∧kind≤3)
include hr hkind
end
end Go.Proofs.YthfkpijcajdnhaaGreat

namespace Go.Proofs.YthfkpijcajdnhaaGreat
open Go
theorem Gat {α β:Type} {f g:α→Option β}:∀ {l:List α},(∀ x∈l,f x=g x)→Nb f l=Nb g l
 | [],_=>rfl
 | x::l,h=>by
   simp only[Nb,h x (by simp),Gat (l:=l) fun y hy=>h y (by simp[hy])]
theorem Fat {ins:List (List Row)}:∀ (d e:Nat),d≤e→∀ p:Plan,okM d p=true→Ob e ins p=Ob d ins p
 | 0,_,_,p,h=>by cases h
 | d+1,e,he,p,h=>by
   obtain ⟨e,rfl⟩ : ∃ m,e=m+1:=⟨e - 1,by omega⟩
   have hk:=(bO h).2
   simp only[Ob]
   rw[Gat (f:=Ob e ins) (g:=Ob d ins) fun x hx=>Fat d e (by omega) x (hk x hx)]
theorem Tav:∀ (d e:Nat),d≤e→∀ p:Plan,okM d p=true→okM e p=true
 | 0,_,_,p,h=>by cases h
 | d+1,e,he,p,h=>by
   obtain ⟨e,rfl⟩ : ∃ m,e=m+1:=⟨e - 1,by omega⟩
   simp only[okM,Bool.and_eq_true,List.all_eq_true] at h ⊢
   exact ⟨h.1,fun x hx=>Tav d e (by omega) x (h.2 x hx)⟩
end Go.Proofs.YthfkpijcajdnhaaGreat

namespace Go.Proofs.YthfkpijcajdnhaaGreat
open Go
theorem faw {p:Plan} (h:Ld p=true) (hk:p.Kind=1):p.Kids=[]:=by
 simp only[Ld,decide_eq_true_eq,hk,kd] at h
 cases hl:p.Kids with
 | nil=>rfl
 | cons x r=>rw[hl] at h;simp at h;omega
theorem yan {d:Nat} {p:Plan} (h:okM (d+1) p=true):Ld p=true:=by
 simp only[okM,Bool.and_eq_true] at h;exact h.1
theorem gaw {kind num:Int} {ks i j:List (List Row)} (h:kind≠1):opR kind num ks i=opR kind num ks j:=by
 unfold opR
 rw[if_neg h,if_neg h]
theorem zan (d:Nat) (ins:List (List Row)) (p:Plan):Ob (d+1) ins p=match Nb (Ob d ins) p.Kids with
 | none=>none
 | some ks=>if Qa (opR p.Kind p.Num ks ins)=true then some (opR p.Kind p.Num ks ins) else none:=rfl
def yav (n:Nat):List Plan:=(List.range n).map fun i:Nat=>Plan.mk 1 (i:Int) []
theorem Uav (n:Nat):yav (n+1)=yav n++[⟨1,(n:Int),[]⟩]:=by
 unfold yav
 rw[List.range_succ,List.map_append]
 rfl
def xav (ks:List (List Row)):List (List Row):=ks++List.replicate (2 - ks.length) []
theorem haw {p:Plan} {ins ks:List (List Row)} {x:List Row} (f:YN p ins x) (hk:Nb (Ob 3 ins) p.Kids=some ks) (h0:p.Kids.length≠0):Te ⟨p.Kind,p.Num,yav ks.length⟩ (xav ks)=some x:=by
 have hkn:=Ql hk
 have hlen:=(bO f.ok).1
 have hkb:∀ y∈ks,Qa y=true:=fun y hy=>by
  obtain ⟨q,_,hq⟩:=zF hk y hy
  exact AF hq
 have h1:p.Kind≠1:=fun h=>h0 (by rw[faw (yan f.ok) h];rfl)
 have hfl:=(zan 3 ins p).symm.trans f.flow
 rw[hk] at hfl
 have hpl:(xav ks).length=2:=by simp[xav];omega
 have hpb:∀ y∈xav ks,Qa y=true:=fun y hy=>by
  unfold xav at hy
  rcases List.mem_append.1 hy with h | h
  ·exact hkb y h
  ·rw[List.eq_of_mem_replicate h];rfl
 have hleaf:∀ i,i<ks.length→okM 3 ⟨1,(i:Int),[]⟩=true:=fun i hi=>by
  simp only[okM,Ld,kd,Bool.and_eq_true,decide_eq_true_eq]
  refine ⟨?_,by simp⟩
  simp
  omega
 have hall:∀ n,n≤ks.length→Nb (Ob 3 (xav ks)) (yav n)=some (ks.take n):=by
  intro n
  induction n with
  | zero=>intro _;rfl
  | succ n ih =>
    intro hn
    have e:Ob 3 (xav ks) ⟨1,(n:Int),[]⟩=some ks[n]:=by
     have hg:(xav ks).getD n []=ks[n]:=by
      unfold xav
      rw[List.getD_eq_getElem?_getD,List.getElem?_append_left (by omega),List.getElem?_eq_getElem (by omega)];rfl
     refine (zan 2 _ _).trans ?_
     simp only[Nb,RN,Int.toNat_natCast,hg,hkb ks[n] (List.getElem_mem _),if_true]
    rw[Uav,Pl,ih (by omega)]
    simp only[Nb,e,List.take_succ_eq_append_getElem (show n<ks.length by omega)]
 refine YN.of ?_ hpl hpb ?_
 ·have hr:=yan f.ok
  simp only[okM,Bool.and_eq_true,List.all_eq_true]
  refine ⟨?_,fun q hq=>?_⟩
  ·simp only[Ld,decide_eq_true_eq] at hr ⊢
   simp only[yav,List.length_map,List.length_range]
   rw[hkn]
   exact hr
  ·obtain ⟨i,hi,rfl⟩:=List.mem_map.1 hq
   have:=hleaf i (List.mem_range.1 hi)
   simp only[okM,Bool.and_eq_true,List.all_eq_true] at this ⊢
   exact this
 ·have ha:=hall ks.length (Nat.le_refl _)
  rw[List.take_length] at ha
  refine (zan 3 _ _).trans ?_
  simp only[ha,gaw (i:=xav ks) (j:=ins) h1]
  exact hfl
theorem iaw (c:List Int) (hc:∀ x∈c,0≤x∧x≤255):Qav c∧Pav c=true:=by
 by_cases hbig:cmp .gtr (aa .byte c) 1048576=true
 ·simp only[Qav,Pav,Iav,Hav,hbig,ocR,Gav,Tr.val,Tr.ob,ga]
  exact ⟨by simp,trivial⟩
 ·have hbig:cmp .gtr (aa .byte c) 1048576=false:=by simpa using hbig
  obtain ⟨p,ins,h⟩:=R3 hc
  simp only[Qav,Pav,Iav,Hav,Gav,Tr.val,Tr.ob,ga,hbig,h.d2,Xf,h.s2,h.i2]
  cases hF:Te p ins with
  | none =>
    have l1:=nN [] [] (by simp)
    have l2:=oN [] (by simp)
    simp only[xc,l2,ocR]
    exact ⟨by simp[h.d1,h.s1,h.i1,l1],by simp⟩
  | some x =>
    have f:=T3 hF
    have hs:=f.short
    have l1:=nN x x (by omega)
    have l2:=oN x (by omega)
    obtain ⟨hkl,hk⟩:=bO f.ok
    simp only[xc,l2]
    by_cases h0:p.Kids.length=0
    ·have e:cmp .eql (aa .plan p.Kids) 0=true:=by rw[Eb];unfold aa;simp[h0]
     simp[h.d1,h.s1,h.i1,l1,e,ocR]
    ·have e:cmp .eql (aa .plan p.Kids) 0=false:=by rw[Eb];unfold aa;simpa using h0
     have hfl:=(zan 3 ins p).symm.trans f.flow
     obtain ⟨ks,hks⟩ : ∃ ks,Nb (Ob 3 ins) p.Kids=some ks:=by
      cases hA:Nb (Ob 3 ins) p.Kids with
      | none=>rw[hA] at hfl;cases hfl
      | some ks=>exact ⟨ks,rfl⟩
     have hkn:=Ql hks
     have key:∃ q,ja (fun s:List LR×LP×Int=>ca (Cav p.Kind p.Num p.Kids ins x s.1 s.2.1 s.2.2)) (fun s=>Eav p.Kind p.Num p.Kids ins x s.1 s.2.1 s.2.2) ([],[],0) q∧q=.x (ks,yav ks.length):=by
      refine ja.list p.Kids (fun i (b:List LR×LP)=>(b.1,b.2,(i:Int))) (fun l b=>Nb (Ob 3 ins) l=some b.1∧b.2=yav l.length) (b0:=([],[])) rfl ⟨rfl,rfl⟩ (fun l y r b hx hI=>?_) (fun b hI=>?_)
      ·obtain ⟨hI1,hI2⟩:=hI
       have hrd:rd .plan p.Kids (l.length:Int)=y:=by rw[hx];exact Ya
       have hin:inb (l.length:Int) (aa .plan p.Kids):=by rw[hx];exact Ta (t:=.plan)
       have hlss:cmp .lss (l.length:Int) (aa .plan p.Kids)=true:=by rw[hx];exact db
       have hlen2:p.Kids.length=l.length+(r.length+1):=by rw[hx];simp
       have hoy:=hk y (by rw[hx];simp)
       obtain ⟨g1,g2⟩:=J3 y ins (by have:=h.len;omega) (fun a ha=>by have:=h.each a ha;omega)
       have hall:=Pl (Ob 3 ins) l (y::r)
       have hall1:=Pl (Ob 3 ins) l [y]
       rw[← hx,hks,hI1] at hall
       rw[hI1] at hall1
       have hbl:=Ql hI1
       cases hf:Ob 3 ins y with
       | none=>simp[Nb,hf] at hall
       | some z =>
         have hy:Te y ins=some z:=YN.of (Tav 3 4 (by omega) y hoy) f.len f.every (by rw[Fat 3 4 (by omega) y hoy];exact hf)
         rw[hy] at g2
         simp only[Nb,hf] at hall1
         have hlim:lim (aa .lrow b.1) (aa .lrow [z]):=Vb (t:=.lrow) (show b.1.length<1099511627776 by omega)
         have hlim2:lim (aa .plan b.2) (aa .plan [(Plan.mk 1 (l.length:Int) [])]):=Vb (t:=.plan) (show b.2.length<1099511627776 by rw[hI2];simp[yav];omega)
         simp only[Eav,Cav,Dav,Tr.val,Tr.ob,ga,hlss,hrd,Xf,g2,xc,Ua (l:=l) (by omega)]
         exact ⟨by simp[hin,g1,hlim,hlim2],.inl ⟨(b.1++[z],b.2++[⟨1,(l.length:Int),[]⟩]),rfl,hall1,by rw[hI2,List.length_append];exact (Uav _).symm⟩⟩
      ·have hend:cmp .lss (p.Kids.length:Int) (aa .plan p.Kids)=false:=fb (t:=.plan)
       obtain ⟨hI1,hI2⟩:=hI
       rw[hks] at hI1
       cases hI1
       simp only[Eav,Cav,Dav,Tr.val,Tr.ob,ga,hend]
       exact ⟨by simp,_,rfl,by rw[hI2,hkn]⟩
     obtain ⟨q,k1,rfl⟩:=key
     have a2:Vav p.Kind p.Num p.Kids ins x=.x (ks,yav ks.length):=k1.v
     have b2:Wav p.Kind p.Num p.Kids ins x:=k1.t
     have k4:ja (fun s:List LR=>ca (Aav x ks p.Kind p.Num (yav ks.length) s)) (fun s=>Bav x ks p.Kind p.Num (yav ks.length) s) ks (.x (xav ks)):=by
      have go1:∀ s:List LR,s.length=1→Bav x ks p.Kind p.Num (yav ks.length) s∧ca (Aav x ks p.Kind p.Num (yav ks.length) s)=.go (s++[[]]):=fun s hs=>by
       have e:cmp .lss (aa .lrow s) 2=true:=by rw[fc];unfold aa;simp[hs]
       have hlim:lim (aa .lrow s) (aa .lrow [[]]):=Vb (t:=.lrow) (show s.length<1099511627776 by omega)
       simp only[Bav,Aav,Fav,Tr.val,Tr.ob,ga,e]
       exact ⟨by simp[hlim],rfl⟩
      have out2:∀ s:List LR,s.length=2→Bav x ks p.Kind p.Num (yav ks.length) s∧ca (Aav x ks p.Kind p.Num (yav ks.length) s)=.out (.x s):=fun s hs=>by
       have e:cmp .lss (aa .lrow s) 2=false:=by rw[fc];unfold aa;simp[hs]
       simp only[Bav,Aav,Fav,Tr.val,Tr.ob,ga,e]
       exact ⟨by simp,rfl⟩
      rcases (show ks.length=1∨ks.length=2 by omega) with hk1 | hk2
      ·have hp:xav ks=ks++[[]]:=by unfold xav;rw[hk1];rfl
       rw[hp]
       obtain ⟨u1,u2⟩:=go1 ks hk1
       obtain ⟨w1,w2⟩:=out2 (ks++[[]]) (by simp[hk1])
       exact .go u1 u2 (.out w1 w2)
      ·have hp:xav ks=ks:=by unfold xav;rw[hk2];simp
       rw[hp]
       obtain ⟨w1,w2⟩:=out2 ks hk2
       exact .out w1 w2
     have a4:Zav x ks p.Kind p.Num (yav ks.length)=.x (xav ks):=k4.v
     have b4:aaw x ks p.Kind p.Num (yav ks.length):=k4.t
     have hpl:(xav ks).length=2:=by simp[xav];omega
     have hps:∀ a∈xav ks,a.length<1000000000:=fun a ha=>by
      unfold xav at ha
      rcases List.mem_append.1 ha with h | h
      ·obtain ⟨q,_,hq⟩:=zF hks a h
       have:=(Bb (Vf (AF hq))).1
       omega
      ·rw[List.eq_of_mem_replicate h];simp
     obtain ⟨g1,g2⟩:=J3 ⟨p.Kind,p.Num,yav ks.length⟩ (xav ks) (by omega) hps
     rw[haw f hks h0] at g2
     simp only[Lav,Yav,Xav,Kav,Jav,Oav,caw,baw,Nav,Mav,lpS,Tr.val,Tr.ob,a2,a4,g2,xc,l2,e]
     exact ⟨by simp[h.d1,h.s1,h.i1,l1,b2,b4,g1,a4,g2,xc],rfl⟩
end Go.Proofs.YthfkpijcajdnhaaGreat

namespace Go.Proofs.YthfkpijcajdnhaaGreat
open Go
theorem uaw:Con Tryz.prog 5 eaw:=taw (.cons Aae (.cons Rae (.cons naf (.cons oaf (.nil ya za)))))
end Go.Proofs.YthfkpijcajdnhaaGreat
