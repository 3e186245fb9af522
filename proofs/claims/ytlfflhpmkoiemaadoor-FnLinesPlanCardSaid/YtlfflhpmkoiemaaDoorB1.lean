/-
  Calls into the library: strings.Split at a separator of one byte, strconv.Itoa of numbers below 100. Printed by a program: what functions compute, and their contracts (part 1). Rules for loops over lists, and for the order that a fold sets up. What the drawing functions give: bounds. Plans: when they are valid. Plans that are the same; what is drawn for a plan. Strings as lists of bytes: what is cut, joined, split. The text of a plan: its words, and that both sides write it so. Numbers in decimals: written and read. A plan read from words; a text of a plan read. A plan read by the reference; texts of plans: both sides read them alike. Plans that are drawn: how far the reader goes, and that they are valid. No statement is proved here.
-/
import Derived.Test.YtlfflhpmkoiemaaDoorAR
import Derived.Test.YtlfflhpmkoiemaaDoorProg
import Derived.Shelf.Strings.Split
import Derived.Shelf.Strconv.Itoa3
import Derived.Tactics2
import Derived.IntWalk
namespace Go.Proofs.YtlfflhpmkoiemaaDoor
open Go
section
open Go Go.Proofs Go.Shelf Go.RowKit Go.Lib Go.Sort
def yr:Go.Shelf.Ren:=⟨fun|146=>23|221=>38|268=>42|138=>43|143=>44|195=>46|197=>47|218=>48|219=>49|260=>51|217=>52|225=>53|224=>54|267=>55|266=>60|314=>61|n=>n,fun|9=>9|31=>39|3=>3|4=>4|0=>0|105=>64|21=>21|5=>5|46=>68|119=>75|139=>78|138=>77|146=>80|51=>79|n=>n,fun|1=>0|3=>1|4=>2|n=>n⟩
theorem jn:Go.Proofs.Lays.n146 Tryd.prog yr:=by constructor<;>(intros;kernel_rfl)
def bz:Go.Shelf.Ren:=⟨fun|171=>40|243=>45|246=>50|283=>56|284=>57|285=>58|286=>59|129=>63|317=>62|318=>64|319=>65|320=>66|337=>67|338=>68|n=>n,fun|3=>3|9=>9|2=>2|4=>4|171=>69|0=>0|53=>70|37=>22|5=>5|173=>73|212=>83|51=>79|20=>20|213=>84|46=>68|232=>88|233=>89|n=>n,fun|17=>3|18=>4|19=>5|n=>n⟩
theorem cz:Go.Proofs.Lays.n171 Tryd.prog bz:=by constructor<;>(intros;kernel_rfl)
theorem zr{P:Program}{f:Nat}{s:Spec}(_hio:ra s.pts 0=none)(hfn:∃fn,P.funcs[f]? = some fn/\(fn.name == "runtime.NumGoroutine")=false/\fn.body.isNone=false)
  (h:∀(x:va s.pts),s.pre x->∀(w:World) (F:Fz) (vs:List Value) (io:Option Nat),Live F w->Mb F w s.pts x vs io->io=none/\Calls P f vs.toArray w λe w'=>∃v F' os,e=.returned v/\w'=grow w os/\(∀b o,F b o->F' b o)/\(∀b o,F' b o->F b o\/w.heap.size<=b)/\Live F' w'/\VR F' w.heap.size w' (λ_=>none) (s.rt.av (s.val x).1) v):Con P f s:=⟨hfn,λx hp w F vs io hl ha=>by
   obtain⟨rfl,hc⟩:=h x hp w F vs io hl ha;refine hc.mono ?_;rintro e w' ⟨v,F',os,rfl,rfl,h1,h2,h3,h4⟩;refine⟨v,F',λ_=>none,rfl,⟨rfl,rfl,rfl,?_,?_,h1,h2,h3⟩,(λi b h=>by cases h),(λi i' b h=>by cases h),h4,λb bs h=>by cases h⟩
   .show w.heap.size<=(w.heap++os).size;simp
   .intro k hk _;show(w.heap++os)[k]? = _;rw[Array.getElem?_append_left hk]⟩
noncomputable def Ec(n:Int):ByteArray:=⟨(Lib.itoa n).toArray⟩
def gh(n:Int):Prop:=0<=n/\n<100
noncomputable def Ar:Spec:=spF [.int .i64] (.one .fr .str) Ec gh
theorem dz:Con Tryd.prog 40 Ar:=by
 refine zr rfl ⟨Tryd.f40,by kernel_rfl,by kernel_rfl,by kernel_rfl⟩ λ⟨n,u⟩ hp w F vs io hl ha=>?_;obtain⟨v,_,rfl,hv,rfl,rfl⟩:=ha;have hv:RC F 0 w (.int .i64 n) v:=hv;cases hv;obtain⟨h0,h1⟩ : 0<=(n:Int)/\(n:Int)<100:=hp;refine⟨rfl,?_⟩;obtain⟨i,rfl⟩ : ∃i:Nat,(n:Int)=i:=⟨(n:Int).toNat,by rw[Int.toNat_of_nonneg h0]⟩;have h1:(i:Int)<100:=h1;refine(Any.strconv_Itoa_small cz i (by omega) w).mono ?_;rintro e w' ⟨rfl,rfl⟩;refine⟨_,F,#[],rfl,?_,λ_ _ h=>h,λ_ _ h=>.inl h,hl,?_⟩
 .cases w';simp[grow]
 .show RC F _ _ (.str (Ec i)) _;rw[show Ec (i:Int)=⟨(Lib.decDigits i).toArray⟩ by unfold Ec Lib.itoa;rw[if_neg (by omega)];rfl];exact .str _
noncomputable def ze(s sep:ByteArray):List ByteArray:=Lib.splitB sep 0 (Lib.countB s sep) s
def ln(s sep:ByteArray):Prop:=sep.size=1/\s.size<4294967281
noncomputable def Br:Spec:=spF [.str,.str] (.one .fr (.lst .str)) ze ln
set_option maxHeartbeats 1000000 in
theorem split_c(s:ByteArray)(c:UInt8)(w:World)(hs:s.size<4294967281) :
  Calls Tryd.prog 23 #[.string s,.string ⟨#[c]⟩] w λe w'=>
   e=.returned (.slice (some ⟨w.heap.size,0,none⟩) (Lib.countB s ⟨#[c]⟩+1) (Lib.countB s ⟨#[c]⟩+1))/\w'=w.alloc (.cells ((Lib.splitB ⟨#[c]⟩ 0 (Lib.countB s ⟨#[c]⟩) s).map Value.string).toArray 9):=by
 have h1:1<=(⟨#[c]⟩ : ByteArray).size:=Nat.le_refl 1;have hh:=Lib.countB_le ⟨#[c]⟩ h1 s.size s (Nat.le_refl _);have hlen:=Lib.splitB_all ⟨#[c]⟩ h1 0 _ s rfl
 have hC:Calls Tryd.prog (yr.f 138) #[.string s,.string ⟨#[c]⟩] w λe w'=>e=.returned (.int .i64 (Lib.countB s ⟨#[c]⟩))/\w'=w:=by
  refine(Any.strings_Count_one { jn with } s c w).mono λe w' ⟨he,hw⟩=>⟨?_,hw⟩;rw[he];show _=Ending.returned (Value.int .i64 ((Lib.count s.data.toList [c]:Nat):Int));rw[Lib.count_one];rfl
 have c1:=Any.strings_genSplit_core (P:=Tryd.prog) { jn with } (by kernel_rfl) s ⟨#[c]⟩ 0 (-1) (Lib.countB s ⟨#[c]⟩+1) w hs h1 (Nat.zero_le _)
  (λx cs _=>(Any.strings_Index_one { jn with } x c _).mono λe w' ⟨he,hw⟩=>⟨by rw[he];show _=Ending.returned (Value.int .i64 (Lib.index x.data.toList [c]));rw[Lib.index_one],hw⟩) hC (by decide) (by decide) (by rw[if_pos (by decide)];omega)
 rw[Nat.add_sub_cancel,hlen]at c1;have e2:Lib.cellsOf (Lib.splitB ⟨#[c]⟩ 0 (Lib.countB s ⟨#[c]⟩) s) (Lib.countB s ⟨#[c]⟩+1)=((Lib.splitB ⟨#[c]⟩ 0 (Lib.countB s ⟨#[c]⟩) s).map Value.string).toArray:=by rw[<-hlen];exact Lib.cellsOf_full _
 rw[e2]at c1;have c1:Calls Tryd.prog 38 #[.string s,.string ⟨#[c]⟩,.int .i64 0,.int .i64 (-1)] w λe w'=>e=.returned (.slice (some ⟨w.heap.size,0,none⟩) (Lib.countB s ⟨#[c]⟩+1) (Lib.countB s ⟨#[c]⟩+1))/\w'=w.alloc (.cells ((Lib.splitB ⟨#[c]⟩ 0 (Lib.countB s ⟨#[c]⟩) s).map Value.string).toArray 9):=c1
 go_enter Tryd.func23,Tryd.ntmps23
 go_wp2_with (go_at_call 38;refine c1.mono ?_;rintro e w' ⟨rfl,hw⟩;rw[hw])
 go_ret
 exact⟨rfl,rfl⟩
theorem ez:Con Tryd.prog 23 Br:=by
 refine zr rfl ⟨Tryd.f23,by kernel_rfl,by kernel_rfl,by kernel_rfl⟩ λx hp w F vs io hl ha=>?_;obtain⟨v1,_,rfl,hk,v2,_,rfl,hm,rfl,rfl⟩:=ha;have hk:RC F 0 w (.str x.1) v1:=hk;have hm:RC F 0 w (.str x.2.1) v2:=hm;cases hk;cases hm;obtain⟨h0,h1⟩ : x.2.1.size=1/\x.1.size<4294967281:=hp;obtain⟨c,hc⟩:=Lib.one_byte _ h0;refine⟨rfl,?_⟩;rw[hc];refine(split_c x.1 c w h1).mono ?_;rintro e w' ⟨rfl,rfl⟩;have hlen:=Lib.splitB_all ⟨#[c]⟩ (Nat.le_refl 1) 0 _ x.1 rfl;generalize hxs:Lib.splitB ⟨#[c]⟩ 0 (Lib.countB x.1 ⟨#[c]⟩) x.1=xs at hlen⊢;rw[<-hlen]
 have hh:∀i,i<xs.length->(w.alloc (.cells (xs.map Value.string).toArray 9)).cell? ⟨w.heap.size,i,none⟩=some (.string (xs.getD i ByteArray.empty)):=λi hi=>by
  rw[World.cell?_alloc_at _ _ _ _ (by simp)];simp[List.getD_eq_getElem?_getD,hi]
 refine⟨_,λb o=>F b o\/b=w.heap.size/\o<xs.length,#[Obj.cells (xs.map Value.string).toArray 9],rfl,?_,λ_ _ h=>.inl h,λ_ _ h=>h.imp id (λh=>by omega),?_,?_⟩
 .show w.alloc (.cells (xs.map Value.string).toArray 9)=_;rw[alloc_eq_grow]
 .rintro b o (h|⟨rfl,h⟩)
  .rw[show(w.alloc (.cells (xs.map Value.string).toArray 9)).cell? ⟨b,o,none⟩=w.cell? ⟨b,o,none⟩ from World.cell?_alloc_old _ _ _ (Nat.ne_of_lt (hl.lt h))];exact hl b o h
  .rw[hh o h];rfl
 .show RC _ _ _ (.lst .str (ze x.1 x.2.1)) _;rw[show ze x.1 x.2.1=xs by rw[hc];exact hxs];refine .lst .str xs w.heap.size 0 xs.length (λi _=>.string (xs.getD i ByteArray.empty)) (Nat.le_refl _) (Nat.le_refl _) (λi j hi hj=>.inr ⟨rfl,?_⟩) (λi j hi hj=>?_) (λi j y cc hy hcc=>?_)
  .have hj:j<1:=hj;show 0+(i*1+j)<xs.length;omega
  .have hj:j<1:=hj;show(w.alloc _).cell? ⟨w.heap.size,0+(i*1+j),none⟩=_;rw[show 0+(i*1+j)=i by omega];exact hh i hi
  .match j,hcc with
   |0,hcc=>
    simp[cells]at hcc;subst hcc;rw[List.getD_eq_getElem?_getD,hy];exact .str _
end
noncomputable section
set_option maxRecDepth 100000
def tt:TT:=[(2,⟨.scalar,1,[.int .i64 0],some .int,false⟩),
 (3,⟨.scalar,1,[.int .i64 0],some .int,false⟩),
 (4,⟨.scalar,1,[.bool false],some .bool,false⟩),
 (5,⟨.scalar,1,[.int .u8 0],some .byte,false⟩),
 (6,⟨.scalar,1,[.int .u8 0],some .byte,false⟩),
 (7,⟨(.struct [(0,1),(1,1),(2,1),(3,1)]),4,[.int .i64 0,.int .i64 0,.bool false,.int .u8 0],none,false⟩),
 (8,⟨(.struct [(0,1),(1,1),(2,1),(3,1)]),4,[.int .i64 0,.int .i64 0,.bool false,.int .u8 0],none,false⟩),
 (9,⟨.scalar,1,[.str ByteArray.empty],some .str,false⟩),
 (10,⟨.scalar,1,[.str ByteArray.empty],some .str,false⟩),
 (11,⟨.scalar,1,[.str ByteArray.empty],some .str,false⟩),
 (12,⟨.scalar,1,[.int .u64 0],none,false⟩),
 (13,⟨(.struct [(0,1),(1,1)]),2,[.str ByteArray.empty,.int .u64 0],none,false⟩),
 (14,⟨(.struct [(0,1),(1,1)]),2,[.str ByteArray.empty,.int .u64 0],none,false⟩),
 (21,⟨.scalar,1,[.int .i32 0],none,false⟩),
 (22,⟨(.slice 5),1,[.nl .byte],none,false⟩),
 (23,⟨(.slice 25),1,[.nl .plan],none,false⟩),
 (24,⟨(.struct [(0,1),(1,1),(2,1)]),3,[.int .i64 0,.int .i64 0,.nl .plan],some .plan,false⟩),
 (25,⟨(.struct [(0,1),(1,1),(2,1)]),3,[.int .i64 0,.int .i64 0,.nl .plan],some .plan,false⟩),
 (39,⟨(.slice 9),1,[.nl .str],none,false⟩),
 (52,⟨(.struct [(0,1),(1,1)]),2,[.nl .byte,.int .i64 0],none,false⟩),
 (53,⟨(.struct [(0,1),(1,1)]),2,[.nl .byte,.int .i64 0],none,false⟩),
 (68,⟨.scalar,1,[.int .u64 0],none,false⟩),
 (70,⟨.scalar,1,[.int .u64 0],none,false⟩),
 (76,⟨(.struct [(0,1),(1,1)]),2,[.int .u8 0,.int .u8 0],none,false⟩),
 (77,⟨(.struct [(0,1),(1,1)]),2,[.int .u8 0,.int .u8 0],none,false⟩),
 (79,⟨.scalar,1,[.int .u32 0],none,false⟩),
 (97,⟨.scalar,1,[.int .u8 0],some .byte,false⟩),
 (98,⟨.scalar,1,[.int .u8 0],some .byte,false⟩),
 (101,⟨.scalar,1,[.int .i32 0],none,false⟩),
 (102,⟨.scalar,1,[.int .i32 0],none,false⟩)]
abbrev Gd(s:SP):=Good Tryd.prog tt s
abbrev CP(f:Nat)(s:Spec):Prop:=Con Tryd.prog f s
abbrev OkP(fn:Func)(F:Fnn){R:Type}(fr:Fr){A X Y Z:Type}(S:Sa R A X Y Z):Prop:=OkF Tryd.prog tt fn F R fr S
def um:SP:=[]
abbrev F18:Fnn:=⟨[.tmp 2],.rdr,none,[]⟩
abbrev yp:=@OkP Tryd.f18 F18
def zp(x:LB):TA ((LB×Int)) LB:=.c (cmp .gtr (da .byte x) 2000) (.w [le3 0 2000 (da .byte x)] (.l (.n (List.drop (Int.toNat 0) (List.take (Int.toNat 2000) x)))))
 (.l (.n x))
def Ai:=λx=>pcT (zp x) [0,1] [(0,.S .byte x)] (rvF F18) (λq=>[(0,.S .byte q)])
theorem gv(G:Gd um){fr x}:yp fr (Ai x):=Ea G
def Bi(x:LB):TN ((LB×Int)):=.sn (Ai x) (λy=>.l (.r (y,0)))
def iv:=λx=>pcT (Bi x) [] [(0,.S .byte x)] (rvF F18)
theorem jv(G:Gd um){fr x}:yp fr (iv x):=Ja G (λe=>⟨Ai (gL .byte e 0 0)⟩) λ_=>gv G
def mg(x:LB):(LB×Int):=ocR (Bi x).val
def ng(x:LB):Prop:=(Bi x).ob
def Ci:Spec:=spF [(.lst .byte)] .rdr mg ng
theorem lv(G:Gd um):CP 18 Ci:=Oa (pts:=[(.lst .byte)]) (F:=F18) G λ_ _=>jv G
def Ap:SP:=[]
abbrev F25:Fnn:=⟨[.tmp 4],.one .fr (.int .i64),some 0,[]⟩
abbrev nv:=@OkP Tryd.f25 F25
def Di(x:(LB×Int))(y:Int):TN (Int×Int):=.c (cond (cmp .lss y 1) true (cmp .eql (da .byte x.1) 0)) (.l (.r (0,(ar .add .i64 x.2 1))))
 (.c (cmp .lss (ar .sub .i64 (ar .add .i64 x.2 1) 1) (da .byte x.1)) (.w [inb (ar .sub .i64 (ar .add .i64 x.2 1) 1) (da .byte x.1),(y:Int)≠0] (.l (.r ((ar .rem .i64 (IntKind.wrap .i64 (rd .byte x.1 (ar .sub .i64 (ar .add .i64 x.2 1) 1))) y),(ar .add .i64 x.2 1)))))
 (.w [((da .byte x.1):Int)≠0,inb (ar .rem .i64 (ar .sub .i64 (ar .add .i64 x.2 1) 1) (da .byte x.1)) (da .byte x.1),((da .byte x.1):Int)≠0,inb (ar .rem .i64 (ar .add .i64 (ar .mul .i64 (ar .sub .i64 (ar .add .i64 x.2 1) 1) 7) 3) (da .byte x.1)) (da .byte x.1),((da .byte x.1):Int)≠0] (.w [(64:Int)≠0] (.w [(y:Int)≠0] (.l (.r ((ar .rem .i64 (xr .i64 (ar .add .i64 (ar .add .i64 (ar .add .i64 (ar .mul .i64 (IntKind.wrap .i64 (rd .byte x.1 (ar .rem .i64 (ar .sub .i64 (ar .add .i64 x.2 1) 1) (da .byte x.1)))) 131) (ar .mul .i64 (IntKind.wrap .i64 (rd .byte x.1 (ar .rem .i64 (ar .add .i64 (ar .mul .i64 (ar .sub .i64 (ar .add .i64 x.2 1) 1) 7) 3) (da .byte x.1)))) 1117)) (ar .mul .i64 (ar .sub .i64 (ar .add .i64 x.2 1) 1) 29)) (ar .mul .i64 (ar .quo .i64 (ar .sub .i64 (ar .add .i64 x.2 1) 1) (da .byte x.1)) 53)) (ar .quo .i64 (ar .add .i64 (ar .add .i64 (ar .add .i64 (ar .mul .i64 (IntKind.wrap .i64 (rd .byte x.1 (ar .rem .i64 (ar .sub .i64 (ar .add .i64 x.2 1) 1) (da .byte x.1)))) 131) (ar .mul .i64 (IntKind.wrap .i64 (rd .byte x.1 (ar .rem .i64 (ar .add .i64 (ar .mul .i64 (ar .sub .i64 (ar .add .i64 x.2 1) 1) 7) 3) (da .byte x.1)))) 1117)) (ar .mul .i64 (ar .sub .i64 (ar .add .i64 x.2 1) 1) 29)) (ar .mul .i64 (ar .quo .i64 (ar .sub .i64 (ar .add .i64 x.2 1) 1) (da .byte x.1)) 53)) 64)) y),(ar .add .i64 x.2 1))))))))
def ov:=λx y=>pcT (Di x y) [] [(0,.R x.1 x.2),(1,.I y)] (rvR F25 x.1)
theorem qv(G:Gd Ap){fr x y}:nv fr (ov x y):=Ea G
def Fa(x:(LB×Int))(y:Int):Int×Int:=ocR (Di x y).val
def Pb(x:(LB×Int))(y:Int):Prop:=(Di x y).ob
def Ye:Spec:=spR [.rdr,(.int .i64)] (.one .fr (.int .i64)) Fa Pb
theorem sv(G:Gd Ap):CP 25 Ye:=xi (pts:=[.rdr,(.int .i64)]) (F:=F25) G (λx=>x.1.1) λ_ _=>qv G
abbrev V24:=(LB×Int)->Int->Plan×Int
abbrev Q24:=(LB×Int)->Int->Prop
def Ei(v:V24)(p:Q24):Spec:=⟨[.rdr,(.int .i64)],.one .fr (.st .plan),true,λx=>v x.1 x.2.1,λx=>p x.1 x.2.1⟩
def Bp(x:V24)(y:Q24):SP:=[(25,Ye),(24,Ei x y)]
abbrev F24:Fnn:=⟨[.cell 4 25],.one .fr (.st .plan),some 0,[]⟩
abbrev tv:=@OkP Tryd.f24 F24
def ve(a:V24)(b:Q24)(x:(LB×Int))(y:Int):TN (Plan×Int):=.k (Fa (x.1,x.2) 6) λc=>.w [((!(cmp .lss y 2))&&true)=true->(Pb (x.1,x.2) 6)] (.c (cond (cmp .lss y 2) true (cmp .eql c.1 0)) (.k (Fa (x.1,(cond ((!(cmp .lss y 2))&&true) c.2 x.2)) 2) λi=>.w [(Pb (x.1,(cond ((!(cmp .lss y 2))&&true) c.2 x.2)) 2)] (.l (.r ((Plan.mk 1 i.1 []),i.2))))
 (.k (Fa (x.1,(cond ((!(cmp .lss y 2))&&true) c.2 x.2)) 6) λz=>.w [(Pb (x.1,(cond ((!(cmp .lss y 2))&&true) c.2 x.2)) 6)] (.c (cmp .eql z.1 0) (.k (Fa (x.1,z.2) 7) λd=>.k (a (x.1,d.2) (ar .sub .i64 y 1)) λj=>.w [Pb (x.1,z.2) 7,b (x.1,d.2) (ar .sub .i64 y 1)] (.l (.r ((Plan.mk 2 (ar .add .i64 1 d.1) [(pE j.1)]),j.2))))
 (.c (cmp .eql z.1 1) (.k (a (x.1,z.2) (ar .sub .i64 y 1)) λf=>.k (a (x.1,f.2) (ar .sub .i64 y 1)) λk=>.w [b (x.1,z.2) (ar .sub .i64 y 1),b (x.1,f.2) (ar .sub .i64 y 1)] (.l (.r ((Plan.mk 3 0 [(pE f.1),(pE k.1)]),k.2))))
 (.c (cmp .eql z.1 2) (.k (a (x.1,z.2) (ar .sub .i64 y 1)) λl=>.w [b (x.1,z.2) (ar .sub .i64 y 1)] (.l (.r ((Plan.mk 4 0 [(pE l.1)]),l.2))))
 (.c (cmp .eql z.1 3) (.k (a (x.1,z.2) (ar .sub .i64 y 1)) λg=>.k (a (x.1,g.2) (ar .sub .i64 y 1)) λm=>.w [b (x.1,z.2) (ar .sub .i64 y 1),b (x.1,g.2) (ar .sub .i64 y 1)] (.l (.r ((Plan.mk 5 0 [(pE g.1),(pE m.1)]),m.2))))
 (.k (Fa (x.1,z.2) 3) λh=>.k (a (x.1,h.2) (ar .sub .i64 y 1)) λn=>.w [Pb (x.1,z.2) 3,b (x.1,h.2) (ar .sub .i64 y 1)] (.l (.r ((Plan.mk 6 (ar .add .i64 1 h.1) [(pE n.1)]),n.2))))))))))
def uv:=λz a x y=>pcT (ve z a x y) [] [(0,.R x.1 x.2),(1,.I y)] (rvR F24 x.1)
theorem wv{x:V24}{y:Q24}(G:Gd (Bp x y)){fr z a}:tv fr (uv x y z a):=Ea G
theorem xv{y:V24}{z:Q24}(G:Gd (Bp y z)):CP 24 (Ei (λa b=>ocR (ve y z a b).val) (λa b=>(ve y z a b).ob)):=xi (pts:=[.rdr,(.int .i64)]) (F:=F24) G (λx=>x.1.1) λ_ _=>wv G
def ib:Nat->V24×Q24
 |0=>(λ_ _=>default,λ_ _=>False)
 |n+1=>(λx y=>ocR (ve (ib n).1 (ib n).2 x y).val,λx y=>(ve (ib n).1 (ib n).2 x y).ob)
def Vb:V24:=(ib xa).1
def Fi:Q24:=(ib xa).2
def vm:Spec:=Ei Vb Fi
def wm:SP:=[(24,vm),(25,Ye)]
abbrev F17:Fnn:=⟨[.cell 2 25],.one .fr (.st .plan),some 0,[]⟩
abbrev Cp:=@OkP Tryd.f17 F17
def xm(a:LB)(c z y:Int)(b:LP):TA (Plan×Int) (Int×Int×Int):=.k (Fa (a,c) 24) λx=>.w [Pb (a,c) 24] (.c (cmp .eql x.1 0) (.k (Fa (a,x.2) 9) λd=>.w [Pb (a,x.2) 9] (.l (.n (d.2,(ar .sub .i64 d.1 1),y))))
 (.c (cmp .eql x.1 1) (.l (.n (x.2,z,(ar .add .i64 y 5))))
 (.c (cmp .eql x.1 2) (.l (.r ((Plan.mk 4 0 [(Plan.mk z y b),(Plan.mk z y b)]),x.2)))
 (.c (cmp .eql x.1 3) (.l (.r ((Plan.mk 4 0 [(Plan.mk 4 0 [(Plan.mk z y b)])]),x.2)))
 (.l (.n (x.2,z,y)))))))
def Gi:=λx z a b y=>pcT (xm x z a b y) [0,1,1] [(0,.R x z),(2,.box [(.fr,.i 0),(.fr,.i 0),(.fr,.nl .plan)]),(3,.box [(.fr,.i a),(.fr,.i b),(.fr,.lst .plan y)])] (rvR F17 x) (λq=>[(0,.R x q.1),(2,.box [(.fr,.i 0),(.fr,.i 0),(.fr,.nl .plan)]),(3,.box [(.fr,.i q.2.1),(.fr,.i q.2.2),(.fr,.lst .plan y)])])
theorem yv(G:Gd wm){fr x y z a b}:Cp fr (Gi x y z a b):=Ea G
def Ii(x:(LB×Int)):TN (Plan×Int):=.k (Vb (x.1,x.2) 4) λy=>.w [Fi (x.1,x.2) 4] (.sn (Gi x.1 y.2 y.1.Kind y.1.Num y.1.Kids) (λz=>.l (.r ((Plan.mk z.2.1 z.2.2 y.1.Kids),z.1))))
def Av:=λx=>pcT (Ii x) [] [(0,.R x.1 x.2)] (rvR F17 x.1)
theorem Bv(G:Gd wm){fr x}:Cp fr (Av x):=Ja G (λe=>⟨Gi (gL .byte e 0 0) (gI e 0 1) (gI e 3 0) (gI e 3 1) (gL .plan e 3 2)⟩) λ_=>yv G
def Ep(x:(LB×Int)):Plan×Int:=ocR (Ii x).val
def Ji(x:(LB×Int)):Prop:=(Ii x).ob
def ym:Spec:=spR [.rdr] (.one .fr (.st .plan)) Ep Ji
theorem Cv(G:Gd wm):CP 17 ym:=xi (pts:=[.rdr]) (F:=F17) G (λx=>x.1.1) λ_ _=>Bv G
def Fp:SP:=[(18,Ci),(17,ym)]
abbrev F6:Fnn:=⟨[.cell 2 25],.one .fr (.st .plan),none,[]⟩
abbrev Ok6:=@OkP Tryd.f6 F6
def Ki(y:LB):TN Plan:=.k (mg y) λx=>.w [ng y,Ji (x.1,x.2)] (.l (.r (pE (Ep (x.1,x.2)).1)))
def Dv:=λx=>pcT (Ki x) [] [(0,.S .byte x)] (rvF F6)
theorem Ev(G:Gd Fp){fr x}:Ok6 fr (Dv x):=Ea G
def zm(x:LB):Plan:=ocR (Ki x).val
def Li(x:LB):Prop:=(Ki x).ob
def Am:Spec:=spF [(.lst .byte)] (.one .fr (.st .plan)) zm Li
theorem Fv(G:Gd Fp):CP 6 Am:=Oa (pts:=[(.lst .byte)]) (F:=F6) G λ_ _=>Ev G
def Mi:SP:=[]
abbrev F37:Fnn:=⟨[.tmp 2,.tmp 3,.tmp 4],.tup [(true,(.int .i64)),(true,(.int .i64)),(true,(.int .i64))],none,[]⟩
abbrev Bm:=@OkP Tryd.f37 F37
def Gp(x:Int):TA (Int×Int×Int×Unit) Bool:=.c (cmp .eql x 3) (.l (.n (cmp .eql x 3)))
 (.l (.n (cmp .eql x 5)))
def Ni:=λx=>pcT (Gp x) [0,1,1,1,1,0,1,0,1] [(5,.I x)] (rvF F37) (λq=>[(5,.I x),(10,.O q)])
theorem Gv(G:Gd Mi){fr x}:Bm fr (Ni x):=Ea G
def Hp(x:Int):TA (Int×Int×Int×Unit) Unit:=.c (cmp .eql x 1) (.l (.r (0,(0,(1,())))))
 (.c (cmp .eql x 2) (.l (.r (1,(1,(7,())))))
 (.sn (Ni x) (λy=>.c y (.l (.r (2,(0,(0,())))))
 (.c (cmp .eql x 4) (.l (.r (1,(0,(0,())))))
 (.c (cmp .eql x 6) (.l (.r (1,(1,(3,())))))
 (.l (.n ())))))))
def Oi:=λx=>pcT (Hp x) [0,1] [(0,.I x)] (rvF F37) (λ_=>[])
theorem Hv(G:Gd Mi){fr x}:Bm fr (Oi x):=Ja G (λe=>⟨Ni (gI e 5 0)⟩) λ_=>Gv G
def Pi(x:Int):TN (Int×Int×Int×Unit):=.sn (Oi x) (λ_=>.l (.r ((-1),(0,(0,())))))
def Iv:=λx=>pcT (Pi x) [] [(0,.I x)] (rvF F37)
theorem Jv(G:Gd Mi){fr x}:Bm fr (Iv x):=Ja G (λe=>⟨Oi (gI e 0 0)⟩) λ_=>Hv G
def Pc(x:Int):Int×Int×Int×Unit:=ocR (Pi x).val
def og(x:Int):Prop:=(Pi x).ob
def Qi:Spec:=spF [(.int .i64)] (.tup [(true,(.int .i64)),(true,(.int .i64)),(true,(.int .i64))]) Pc og
theorem Kv(G:Gd Mi):CP 37 Qi:=Oa (pts:=[(.int .i64)]) (F:=F37) G λ_ _=>Jv G
abbrev V29:=Plan->Int->Bool
abbrev Q29:=Plan->Int->Prop
def Ri(v:V29)(p:Q29):Spec:=⟨[(.st .plan),(.int .i64)],.one .fr .bool,false,λx=>(v x.1 x.2.1,0),λx=>p x.1 x.2.1⟩
def pg(x:V29)(y:Q29):SP:=[(37,Qi),(29,Ri x y)]
abbrev F29:Fnn:=⟨[.tmp 4],.one .fr .bool,none,[]⟩
abbrev Si:=@OkP Tryd.f29 F29
def Ti(a:V29)(b:Q29)(z:Int)(y:LP)(c x:Int):TX Bool Int Unit:=.c (cmp .lss x c) (.w [inb x (da .plan y)] (.w [b (pE (rd .plan y x)) (ar .sub .i64 z 1)] (.c (!(a (pE (rd .plan y x)) (ar .sub .i64 z 1))) (.l (.r false))
 (.l (.n (ar .add .i64 x 1))))))
 (.l (.x ()))
def Ip:=λb c x y z a=>pcR (Ti b c x y z a) [0,0,1,0,1,1,1] (λq=>[(1,.I x),(43,.S .plan y),(44,.I z),(45,.I q)]) a (rvF F29) (λ_=>(0,[]))
theorem Lv{x:V29}{y:Q29}(G:Gd (pg x y)){fr z a b c}:Si fr (Ip x y z a b c):=Ea G
def qg:=λx y z a b=>pcL (λs:Int=>Ip x y z a b s) 0
theorem Mv{x:V29}{y:Q29}(G:Gd (pg x y)){fr z a b}:Si fr (qg x y z a b):=fc λ_=>Lv G
def Jp(y:V29)(z:Q29)(a _ _:Int)(x:LP):TA Bool Unit:=.sx (qg y z a x (da .plan x)) (λ_=>.l (.n ()))
def Ui:=λb c x y z a=>pcT (Jp b c x y z a) [0,1,1,1] [(1,.I x),(2,.box [(.fr,.i y),(.fr,.i z),(.sh,.lst .plan a)])] (rvF F29) (λ_=>[])
theorem Nv{x:V29}{y:Q29}(G:Gd (pg x y)){fr z a b c}:Si fr (Ui x y z a b c):=Ja G (λe=>⟨qg x y (gI e 1 0) (gL .plan e 43 0) (gI e 44 0)⟩) λ_=>Mv G
def Id(a:V29)(b:Q29)(x:Plan)(z:Int):TN Bool:=.k (Pc x.Kind) λy=>.w [og x.Kind] (.c (cond (cond (cond (cond (cmp .lss z 1) true (cmp .lss y.1 0)) true (cmp .neq (da .plan x.Kids) y.1)) true (cmp .lss x.Num y.2.1)) true (cmp .gtr x.Num y.2.2.1)) (.l (.r false))
 (.sn (Ui a b z x.Kind x.Num x.Kids) (λ_=>.l (.r true))))
def Ov:=λz a x y=>pcT (Id z a x y) [] [(0,.agg false [.i x.Kind,.i x.Num,.lst .plan x.Kids]),(1,.I y)] (rvF F29)
theorem Pv{x:V29}{y:Q29}(G:Gd (pg x y)){fr z a}:Si fr (Ov x y z a):=Ja G (λe=>⟨Ui x y (gI e 1 0) (gI e 2 0) (gI e 2 1) (gL .plan e 2 2)⟩) λ_=>Nv G
theorem Qv{x:V29}{y:Q29}(G:Gd (pg x y)):CP 29 (Ri (λz a=>ocR (Id x y z a).val) (λz a=>(Id x y z a).ob)):=Oa (pts:=[(.st .plan),(.int .i64)]) (F:=F29) G λ_ _=>Pv G
def mb:Nat->V29×Q29
 |0=>(λ_ _=>default,λ_ _=>False)
 |n+1=>(λx y=>ocR (Id (mb n).1 (mb n).2 x y).val,λx y=>(Id (mb n).1 (mb n).2 x y).ob)
def Kp:V29:=(mb xa).1
def Mp:Q29:=(mb xa).2
def Np:Spec:=Ri Kp Mp
def Pp:SP:=[(29,Np)]
abbrev F13:Fnn:=⟨[.tmp 2],.one .fr .bool,none,[]⟩
abbrev Rv:=@OkP Tryd.f13 F13
def Vi(x:Plan):TN Bool:=.w [Mp (pE x) 4] (.l (.r (Kp (pE x) 4)))
def Sv:=λx=>pcT (Vi x) [] [(0,.agg false [.i x.Kind,.i x.Num,.lst .plan x.Kids])] (rvF F13)
theorem Tv(G:Gd Pp){fr x}:Rv fr (Sv x):=Ea G
def Ze(x:Plan):Bool:=ocR (Vi x).val
def bf(x:Plan):Prop:=(Vi x).ob
def rg:Spec:=spF [(.st .plan)] (.one .fr .bool) Ze bf
theorem Uv(G:Gd Pp):CP 13 rg:=Oa (pts:=[(.st .plan)]) (F:=F13) G λ_ _=>Tv G
def Qp:SP:=[(40,Ar)]
abbrev F33:Fnn:=⟨[.tmp 2],.one .fr .str,none,[]⟩
abbrev Vv:=@OkP Tryd.f33 F33
def Wi(x:Plan):TN ByteArray:=.c (cmp .eql x.Kind 1) (.k (Ec x.Num) λy=>.w [gh x.Num,lim (ca (bs [105,110])) (ca y)] (.l (.r ((bs [105,110])++y))))
 (.c (cmp .eql x.Kind 2) (.k (Ec x.Num) λz=>.w [gh x.Num,lim (ca (bs [101,97,99,104])) (ca z)] (.l (.r ((bs [101,97,99,104])++z))))
 (.c (cmp .eql x.Kind 3) (.l (.r (bs [98,111,116,104])))
 (.c (cmp .eql x.Kind 4) (.l (.r (bs [108,101,115,115])))
 (.c (cmp .eql x.Kind 5) (.l (.r (bs [106,111,105,110])))
 (.k (Ec x.Num) λa=>.w [gh x.Num,lim (ca (bs [115,117,109])) (ca a)] (.l (.r ((bs [115,117,109])++a))))))))
def Wv:=λx=>pcT (Wi x) [] [(0,.agg false [.i x.Kind,.i x.Num,.lst .plan x.Kids])] (rvF F33)
theorem Xv(G:Gd Qp){fr x}:Vv fr (Wv x):=Ea G
def cf(x:Plan):ByteArray:=ocR (Wi x).val
def sg(x:Plan):Prop:=(Wi x).ob
def Xi:Spec:=spF [(.st .plan)] (.one .fr .str) cf sg
theorem Yv(G:Gd Qp):CP 33 Xi:=Oa (pts:=[(.st .plan)]) (F:=F33) G λ_ _=>Xv G
abbrev V19:=Plan->ByteArray
abbrev Q19:=Plan->Prop
def Yi(v:V19)(p:Q19):Spec:=⟨[(.st .plan)],.one .fr .str,false,λx=>(v x.1,0),λx=>p x.1⟩
def tg(x:V19)(y:Q19):SP:=[(33,Xi),(19,Yi x y)]
abbrev F19:Fnn:=⟨[.tmp 2],.one .fr .str,none,[]⟩
abbrev Zi:=@OkP Tryd.f19 F19
def aj(b:V19)(c:Q19)(_:ByteArray)(y:LP)(d:Int)(z:ByteArray)(x:Int):TX ByteArray (ByteArray×Int) ByteArray:=.c (cmp .lss x d) (.w [inb x (da .plan y)] (.k (b (pE (rd .plan y x))) λa=>.w [c (pE (rd .plan y x)),lim (ca (bs [32])) (ca a),lim (ca z) (ca ((bs [32])++a))] (.l (.n ((z++((bs [32])++a)),(ar .add .i64 x 1))))))
 (.l (.x z))
def Rp:=λb c d x y z a=>pcR (aj b c d x y z a) [0,0,1,0,1,1] (λq=>[(3,.v .fr (.str q.1)),(9,.S .plan x),(10,.I y),(11,.I q.2)]) (z,a) (rvF F19) (λq=>(0,[(3,.v .fr (.str q))]))
theorem Zv{x:V19}{y:Q19}(G:Gd (tg x y)){fr z a b c d}:Zi fr (Rp x y z a b c d):=Ea G
def ug:=λy z x a b=>pcL (λs:ByteArray×Int=>Rp y z x a b s.1 s.2) (x,0)
theorem aw{x:V19}{y:Q19}(G:Gd (tg x y)){fr z a b}:Zi fr (ug x y z a b):=fc λ_=>Zv G
def Sp(y:V19)(z:Q19)(_ _:Int)(x:LP)(a:ByteArray):TA ByteArray ByteArray:=.sx (ug y z a x (da .plan x)) (λb=>.l (.n b))
def bj:=λb c x y z a=>pcT (Sp b c x y z a) [0,1,1] [(1,.box [(.fr,.i x),(.fr,.i y),(.sh,.lst .plan z)]),(3,.v .fr (.str a))] (rvF F19) (λq=>[(3,.v .fr (.str q))])
theorem bw{x:V19}{y:Q19}(G:Gd (tg x y)){fr z a b c}:Zi fr (bj x y z a b c):=Ja G (λe=>⟨ug x y (gS e 3 0) (gL .plan e 9 0) (gI e 10 0)⟩) λ_=>aw G
def ef(y:V19)(z:Q19)(x:Plan):TN ByteArray:=.w [sg (pE x)] (.sn (bj y z x.Kind x.Num x.Kids (cf (pE x))) (λa=>.l (.r a)))
def cw:=λy z x=>pcT (ef y z x) [] [(0,.agg false [.i x.Kind,.i x.Num,.lst .plan x.Kids])] (rvF F19)
theorem dw{x:V19}{y:Q19}(G:Gd (tg x y)){fr z}:Zi fr (cw x y z):=Ja G (λe=>⟨bj x y (gI e 1 0) (gI e 1 1) (gL .plan e 1 2) (gS e 3 0)⟩) λ_=>bw G
theorem ew{x:V19}{y:Q19}(G:Gd (tg x y)):CP 19 (Yi (λz=>ocR (ef x y z).val) (λz=>(ef x y z).ob)):=Oa (pts:=[(.st .plan)]) (F:=F19) G λ_ _=>dw G
def Bb:Nat->V19×Q19
 |0=>(λ_=>default,λ_=>False)
 |n+1=>(λx=>ocR (ef (Bb n).1 (Bb n).2 x).val,λx=>(ef (Bb n).1 (Bb n).2 x).ob)
def Cm:V19:=(Bb xa).1
def Dm:Q19:=(Bb xa).2
def Tp:Spec:=Yi Cm Dm
def Up:SP:=[(13,rg),(19,Tp)]
abbrev F7:Fnn:=⟨[.tmp 2],.one .fr .str,none,[]⟩
abbrev Ok7:=@OkP Tryd.f7 F7
def cj(x:Plan):TN ByteArray:=.w [bf (pE x)] (.c (!(Ze (pE x))) (.l (.r ByteArray.empty))
 (.w [Dm (pE x)] (.l (.r (Cm (pE x))))))
def fw:=λx=>pcT (cj x) [] [(0,.agg false [.i x.Kind,.i x.Num,.lst .plan x.Kids])] (rvF F7)
theorem gw(G:Gd Up){fr x}:Ok7 fr (fw x):=Ea G
def ff(x:Plan):ByteArray:=ocR (cj x).val
def jf(x:Plan):Prop:=(cj x).ob
def vg:Spec:=spF [(.st .plan)] (.one .fr .str) ff jf
theorem iw(G:Gd Up):CP 7 vg:=Oa (pts:=[(.st .plan)]) (F:=F7) G λ_ _=>gw G
def ej:SP:=[]
abbrev F35:Fnn:=⟨[.tmp 2,.tmp 3,.tmp 4],.tup [(true,(.int .i64)),(true,(.int .i64)),(true,(.int .i64))],none,[]⟩
abbrev Em:=@OkP Tryd.f35 F35
def Vp(x:Int):TA (Int×Int×Int×Unit) Bool:=.c (cmp .eql x 3) (.l (.n (cmp .eql x 3)))
 (.l (.n (cmp .eql x 5)))
def fj:=λx=>pcT (Vp x) [0,1,1,1,1,0,1,0,1] [(5,.I x)] (rvF F35) (λq=>[(5,.I x),(10,.O q)])
theorem jw(G:Gd ej){fr x}:Em fr (fj x):=Ea G
def Wp(x:Int):TA (Int×Int×Int×Unit) Unit:=.c (cmp .eql x 1) (.l (.r (0,(0,(1,())))))
 (.c (cmp .eql x 2) (.l (.r (1,(1,(7,())))))
 (.sn (fj x) (λy=>.c y (.l (.r (2,(0,(0,())))))
 (.c (cmp .eql x 4) (.l (.r (1,(0,(0,())))))
 (.c (cmp .eql x 6) (.l (.r (1,(1,(3,())))))
 (.l (.n ())))))))
def gj:=λx=>pcT (Wp x) [0,1] [(0,.I x)] (rvF F35) (λ_=>[])
theorem kw(G:Gd ej){fr x}:Em fr (gj x):=Ja G (λe=>⟨fj (gI e 5 0)⟩) λ_=>jw G
def ij(x:Int):TN (Int×Int×Int×Unit):=.sn (gj x) (λ_=>.l (.r ((-1),(0,(0,())))))
def lw:=λx=>pcT (ij x) [] [(0,.I x)] (rvF F35)
theorem mw(G:Gd ej){fr x}:Em fr (lw x):=Ja G (λe=>⟨gj (gI e 0 0)⟩) λ_=>kw G
def Qc(x:Int):Int×Int×Int×Unit:=ocR (ij x).val
def kf(x:Int):Prop:=(ij x).ob
def wg:Spec:=spF [(.int .i64)] (.tup [(true,(.int .i64)),(true,(.int .i64)),(true,(.int .i64))]) Qc kf
theorem nw(G:Gd ej):CP 35 wg:=Oa (pts:=[(.int .i64)]) (F:=F35) G λ_ _=>mw G
def Xp:SP:=[]
abbrev F41:Fnn:=⟨[.tmp 6],.one .fr .bool,none,[]⟩
abbrev pw:=@OkP Tryd.f41 F41
def Fm(x y z:Int):TN Bool:=.l (.r (cond (cmp .geq x y) (cmp .leq x z) false))
def qw:=λx y z=>pcT (Fm x y z) [] [(0,.I x),(1,.I y),(2,.I z)] (rvF F41)
theorem sw(G:Gd Xp){fr x y z}:pw fr (qw x y z):=Ea G
def jj(x:Int)(y:Int)(z:Int):Bool:=ocR (Fm x y z).val
def Gm(x:Int)(y:Int)(z:Int):Prop:=(Fm x y z).ob
def Hm:Spec:=spF [(.int .i64),(.int .i64),(.int .i64)] (.one .fr .bool) jj Gm
theorem tw(G:Gd Xp):CP 41 Hm:=Oa (pts:=[(.int .i64),(.int .i64),(.int .i64)]) (F:=F41) G λ_ _=>sw G
abbrev V34:=Plan->Int->Bool
abbrev Q34:=Plan->Int->Prop
def lj(v:V34)(p:Q34):Spec:=⟨[(.st .plan),(.int .i64)],.one .fr .bool,false,λx=>(v x.1 x.2.1,0),λx=>p x.1 x.2.1⟩
def xg(x:V34)(y:Q34):SP:=[(35,wg),(41,Hm),(34,lj x y)]
abbrev F34:Fnn:=⟨[.tmp 4],.one .fr .bool,none,[]⟩
abbrev mj:=@OkP Tryd.f34 F34
def nj(a:V34)(b:Q34)(z _ _:Int)(y:LP)(x:Int):TX Bool Int Unit:=.c (cmp .lss x (da .plan y)) (.w [inb x (da .plan y),b (pE (rd .plan y x)) (ar .sub .i64 z 1)] (.c (!(a (pE (rd .plan y x)) (ar .sub .i64 z 1))) (.l (.r false))
 (.l (.n (ar .add .i64 x 1)))))
 (.l (.x ()))
def Yp:=λc d x y z a b=>pcR (nj c d x y z a b) [0,0,1,0,1,1,1] (λq=>[(1,.I x),(2,.box [(.fr,.i y),(.fr,.i z),(.sh,.lst .plan a)]),(8,.I q)]) b (rvF F34) (λ_=>(0,[]))
theorem uw{x:V34}{y:Q34}(G:Gd (xg x y)){fr z a b c d}:mj fr (Yp x y z a b c d):=Ea G
def yg:=λx y z a b c=>pcL (λs:Int=>Yp x y z a b c s) 0
theorem vw{x:V34}{y:Q34}(G:Gd (xg x y)){fr z a b c}:mj fr (yg x y z a b c):=fc λ_=>uw G
def Zp(x:V34)(y:Q34)(z a b:Int)(c:LP):TA Bool Unit:=.sx (yg x y z a b c) (λ_=>.l (.n ()))
def pj:=λb c x y z a=>pcT (Zp b c x y z a) [0,1,1,1] [(1,.I x),(2,.box [(.fr,.i y),(.fr,.i z),(.sh,.lst .plan a)])] (rvF F34) (λ_=>[])
theorem ww{x:V34}{y:Q34}(G:Gd (xg x y)){fr z a b c}:mj fr (pj x y z a b c):=Ja G (λe=>⟨yg x y (gI e 1 0) (gI e 2 0) (gI e 2 1) (gL .plan e 2 2)⟩) λ_=>vw G
def Jd(a:V34)(b:Q34)(x:Plan)(z:Int):TN Bool:=.k (Qc x.Kind) λy=>.w [kf x.Kind] (.w [((!(cond (cmp .lss z 1) true (cmp .neq (da .plan x.Kids) y.1)))&&true)=true->(Gm x.Num y.2.1 y.2.2.1)] (.c (cond (cond (cmp .lss z 1) true (cmp .neq (da .plan x.Kids) y.1)) true (!(jj x.Num y.2.1 y.2.2.1))) (.l (.r false))
 (.sn (pj a b z x.Kind x.Num x.Kids) (λ_=>.l (.r true)))))
def xw:=λz a x y=>pcT (Jd z a x y) [] [(0,.agg false [.i x.Kind,.i x.Num,.lst .plan x.Kids]),(1,.I y)] (rvF F34)
theorem yw{x:V34}{y:Q34}(G:Gd (xg x y)){fr z a}:mj fr (xw x y z a):=Ja G (λe=>⟨pj x y (gI e 1 0) (gI e 2 0) (gI e 2 1) (gL .plan e 2 2)⟩) λ_=>ww G
theorem zw{x:V34}{y:Q34}(G:Gd (xg x y)):CP 34 (lj (λz a=>ocR (Jd x y z a).val) (λz a=>(Jd x y z a).ob)):=Oa (pts:=[(.st .plan),(.int .i64)]) (F:=F34) G λ_ _=>yw G
def nb:Nat->V34×Q34
 |0=>(λ_ _=>default,λ_ _=>False)
 |n+1=>(λx y=>ocR (Jd (nb n).1 (nb n).2 x y).val,λx y=>(Jd (nb n).1 (nb n).2 x y).ob)
def aq:V34:=(nb xa).1
def bq:Q34:=(nb xa).2
def dq:Spec:=lj aq bq
def fq:SP:=[(34,dq)]
abbrev F20:Fnn:=⟨[.tmp 2],.one .fr .bool,none,[]⟩
abbrev Aw:=@OkP Tryd.f20 F20
def qj(x:Plan):TN Bool:=.w [bq (pE x) 4] (.l (.r (aq (pE x) 4)))
def Bw:=λx=>pcT (qj x) [] [(0,.agg false [.i x.Kind,.i x.Num,.lst .plan x.Kids])] (rvF F20)
theorem Cw(G:Gd fq){fr x}:Aw fr (Bw x):=Ea G
def rj(x:Plan):Bool:=ocR (qj x).val
def sj(x:Plan):Prop:=(qj x).ob
def Im:Spec:=spF [(.st .plan)] (.one .fr .bool) rj sj
theorem Dw(G:Gd fq):CP 20 Im:=Oa (pts:=[(.st .plan)]) (F:=F20) G λ_ _=>Cw G
abbrev V36:=Int->ByteArray
abbrev Q36:=Int->Prop
def tj(v:V36)(p:Q36):Spec:=⟨[(.int .i64)],.one .fr .str,false,λx=>(v x.1,0),λx=>p x.1⟩
def gq(x:V36)(y:Q36):SP:=[(36,tj x y)]
abbrev F36:Fnn:=⟨[.tmp 2],.one .fr .str,none,[]⟩
abbrev Ew:=@OkP Tryd.f36 F36
def Rc(y:V36)(z:Q36)(x:Int):TN ByteArray:=.c (cmp .lss x (-9223372036854775807)) (.l (.r (bs [45,57,50,50,51,51,55,50,48,51,54,56,53,52,55,55,53,56,48,56])))
 (.c (cmp .lss x 0) (.k (y (IntKind.wrap .i64 (0 - x))) λa=>.w [z (IntKind.wrap .i64 (0 - x)),lim (ca (bs [45])) (ca a)] (.l (.r ((bs [45])++a))))
 (.c (cmp .lss x 10) (.l (.r (ed [(IntKind.wrap .u8 (ar .add .i64 48 x))])))
 (.k (y (ar .quo .i64 x 10)) λb=>.w [(10:Int)≠0,z (ar .quo .i64 x 10),(10:Int)≠0,lim (ca b) (ca (ed [(IntKind.wrap .u8 (ar .add .i64 48 (ar .rem .i64 x 10)))]))] (.l (.r (b++(ed [(IntKind.wrap .u8 (ar .add .i64 48 (ar .rem .i64 x 10)))])))))))
def Fw:=λy z x=>pcT (Rc y z x) [] [(0,.I x)] (rvF F36)
theorem Gw{x:V36}{y:Q36}(G:Gd (gq x y)){fr z}:Ew fr (Fw x y z):=Ea G
theorem Hw{x:V36}{y:Q36}(G:Gd (gq x y)):CP 36 (tj (λz=>ocR (Rc x y z).val) (λz=>(Rc x y z).ob)):=Oa (pts:=[(.int .i64)]) (F:=F36) G λ_ _=>Gw G
def pb:Nat->V36×Q36
 |0=>(λ_=>default,λ_=>False)
 |n+1=>(λx=>ocR (Rc (pb n).1 (pb n).2 x).val,λx=>(Rc (pb n).1 (pb n).2 x).ob)
def mf:V36:=(pb xa).1
def zg:Q36:=(pb xa).2
def Jm:Spec:=tj mf zg
abbrev V21:=Plan->ByteArray
abbrev Q21:=Plan->Prop
def uj(v:V21)(p:Q21):Spec:=⟨[(.st .plan)],.one .fr .str,false,λx=>(v x.1,0),λx=>p x.1⟩
def nf(x:V21)(y:Q21):SP:=[(35,wg),(36,Jm),(21,uj x y)]
abbrev F21:Fnn:=⟨[.tmp 2],.one .fr .str,none,[]⟩
abbrev Ag:=@OkP Tryd.f21 F21
def wj(_:V21)(_:Q21)(_ x:Int)(_:LP)(y:ByteArray)(z:Int):TA ByteArray ByteArray:=.c (cmp .gtr z 0) (.w [zg x,lim (ca y) (ca (mf x))] (.l (.n (y++(mf x)))))
 (.l (.n y))
def xj:=λc d x y z a b=>pcT (wj c d x y z a b) [0,1,1,1] [(1,.box [(.fr,.i x),(.fr,.i y),(.sh,.lst .plan z)]),(3,.v .fr (.str a)),(6,.I b)] (rvF F21) (λq=>[(1,.box [(.fr,.i x),(.fr,.i y),(.sh,.lst .plan z)]),(3,.v .fr (.str q))])
theorem Iw{x:V21}{y:Q21}(G:Gd (nf x y)){fr z a b c d}:Ag fr (xj x y z a b c d):=Ea G
def yj(b:V21)(c:Q21)(_ _:Int)(y:LP)(_ z:ByteArray)(x:Int):TX ByteArray (ByteArray×Int) ByteArray:=.c (cmp .lss x (da .plan y)) (.k (b (pE (rd .plan y x))) λa=>.w [lim (ca z) (ca (bs [32])),inb x (da .plan y),c (pE (rd .plan y x)),lim (ca (z++(bs [32]))) (ca a)] (.l (.n (((z++(bs [32]))++a),(ar .add .i64 x 1)))))
 (.l (.x z))
def iq:=λc d x y z f a b=>pcR (yj c d x y z f a b) [0,0,1,0,1,1,1,1] (λq=>[(1,.box [(.fr,.i x),(.fr,.i y),(.sh,.lst .plan z)]),(3,.v .fr (.str q.1)),(7,.I q.2)]) (a,b) (rvF F21) (λq=>(0,[(3,.v .fr (.str q))]))
theorem Jw{x:V21}{y:Q21}(G:Gd (nf x y)){fr z a b c d f}:Ag fr (iq x y z a b c d f):=Ea G
def Bg:=λy z a b c x=>pcL (λs:ByteArray×Int=>iq y z a b c x s.1 s.2) (x,0)
theorem Kw{x:V21}{y:Q21}(G:Gd (nf x y)){fr z a b c}:Ag fr (Bg x y z a b c):=fc λ_=>Jw G
def jq(x:V21)(y:Q21)(z a:Int)(b:LP)(c:ByteArray):TA ByteArray ByteArray:=.sx (Bg x y z a b c) (λd=>.l (.n d))
def zj:=λb c x y z a=>pcT (jq b c x y z a) [0,1,1,1,1] [(1,.box [(.fr,.i x),(.fr,.i y),(.sh,.lst .plan z)]),(3,.v .fr (.str a))] (rvF F21) (λq=>[(3,.v .fr (.str q))])
theorem Lw{x:V21}{y:Q21}(G:Gd (nf x y)){fr z a b c}:Ag fr (zj x y z a b c):=Ja G (λe=>⟨Bg x y (gI e 1 0) (gI e 1 1) (gL .plan e 1 2) (gS e 3 0)⟩) λ_=>Kw G
def qf(y:V21)(z:Q21)(x:Plan):TN ByteArray:=.w [inb x.Kind (da .str [ByteArray.empty,(bs [105,110]),(bs [101,97,99,104]),(bs [98,111,116,104]),(bs [108,101,115,115]),(bs [106,111,105,110]),(bs [115,117,109])])] (.w [kf x.Kind] (.sn (xj y z x.Kind x.Num x.Kids (rd .str [ByteArray.empty,(bs [105,110]),(bs [101,97,99,104]),(bs [98,111,116,104]),(bs [108,101,115,115]),(bs [106,111,105,110]),(bs [115,117,109])] x.Kind) (Qc x.Kind).2.2.1) (λa=>.sn (zj y z x.Kind x.Num x.Kids a) (λb=>.l (.r b)))))
def Mw:=λy z x=>pcT (qf y z x) [] [(0,.agg false [.i x.Kind,.i x.Num,.lst .plan x.Kids])] (rvF F21)
theorem Nw{x:V21}{y:Q21}(G:Gd (nf x y)){fr z}:Ag fr (Mw x y z):=gm G [λe=>⟨xj x y (gI e 1 0) (gI e 1 1) (gL .plan e 1 2) (gS e 3 0) (gI e 6 0)⟩,λe=>⟨zj x y (gI e 1 0) (gI e 1 1) (gL .plan e 1 2) (gS e 3 0)⟩] ⟨λ_=>Iw G,λ_=>Lw G,trivial⟩
theorem Ow{x:V21}{y:Q21}(G:Gd (nf x y)):CP 21 (uj (λz=>ocR (qf x y z).val) (λz=>(qf x y z).ob)):=Oa (pts:=[(.st .plan)]) (F:=F21) G λ_ _=>Nw G
def Za:Nat->V21×Q21
 |0=>(λ_=>default,λ_=>False)
 |n+1=>(λx=>ocR (qf (Za n).1 (Za n).2 x).val,λx=>(qf (Za n).1 (Za n).2 x).ob)
def Km:V21:=(Za xa).1
def Lm:Q21:=(Za xa).2
def lq:Spec:=uj Km Lm
def mq:SP:=[(20,Im),(21,lq)]
abbrev F8:Fnn:=⟨[.tmp 2],.one .fr .str,none,[]⟩
abbrev Ok8:=@OkP Tryd.f8 F8
def Aj(x:Plan):TN ByteArray:=.w [sj (pE x)] (.c (!(rj (pE x))) (.l (.r ByteArray.empty))
 (.w [Lm (pE x)] (.l (.r (Km (pE x))))))
def Pw:=λx=>pcT (Aj x) [] [(0,.agg false [.i x.Kind,.i x.Num,.lst .plan x.Kids])] (rvF F8)
theorem Qw(G:Gd mq){fr x}:Ok8 fr (Pw x):=Ea G
def tf(x:Plan):ByteArray:=ocR (Aj x).val
def we(x:Plan):Prop:=(Aj x).ob
def Cg:Spec:=spF [(.st .plan)] (.one .fr .str) tf we
theorem Sw(G:Gd mq):CP 8 Cg:=Oa (pts:=[(.st .plan)]) (F:=F8) G λ_ _=>Qw G
abbrev V22:=List ByteArray->Int->Plan×(List ByteArray)×Bool×Unit
abbrev Q22:=List ByteArray->Int->Prop
def Bj(v:V22)(p:Q22):Spec:=⟨[(.lst .str),(.int .i64)],.tup [(false,(.st .plan)),(false,(.lst .str)),(true,.bool)],false,λx=>(v x.1 x.2.1,0),λx=>p x.1 x.2.1⟩
def ic(x:V22)(y:Q22):SP:=[(37,Qi),(33,Xi),(22,Bj x y)]
abbrev F22:Fnn:=⟨[.cell 4 25,.tmp 5,.tmp 6],.tup [(false,(.st .plan)),(false,(.lst .str)),(true,.bool)],none,[]⟩
abbrev qc:=@OkP Tryd.f22 F22
def Cj(c:V22)(d:Q22)(a f _ _:Int)(_:List ByteArray)(y:LP)(z:List ByteArray)(b:Int):TX (Plan×(List ByteArray)×Bool×Unit) (LP×(List ByteArray)×Int) (LP×(List ByteArray)):=.c (cmp .lss b f) (.k (c z (ar .sub .i64 a 1)) λx=>.w [d z (ar .sub .i64 a 1)] (.c (!x.2.2.1) (.l (.r ((Plan.mk 0 0 []),([],(false,())))))
 (.w [lim (da .plan y) (da .plan [(pE x.1)])] (.l (.n ((y++[(pE x.1)]),x.2.1,(ar .add .i64 b 1)))))))
 (.l (.x (y,z)))
def oq:=λf g z a x y h b c d=>pcR (Cj f g z a x y h b c d) [0,0,1,0,1,1,1,0,0,1,0,0,1,1,0,0,1,0,0,1,0,1,1] (λq=>[(1,.I z),(4,.box [(.fr,.i 0),(.fr,.i 0),(.fr,.nl .plan)]),(8,.I a),(12,.box [(.fr,.i x),(.fr,.i y),((.acc false),.lst .plan q.1)]),(13,.S .str q.2.1),(14,.I q.2.2)]) (b,c,d) (rvF F22) (λq=>(4,[(4,.box [(.fr,.i 0),(.fr,.i 0),(.fr,.nl .plan)]),(12,.box [(.fr,.i x),(.fr,.i y),((.acc false),.lst .plan q.1)]),(13,.S .str q.2)]))
theorem Tw{x:V22}{y:Q22}(G:Gd (ic x y)){fr z a b c d f g h}:qc fr (oq x y z a b c d f g h):=Ea G
def Dg:=λy z a b c d x=>pcL (λs:LP×(List ByteArray)×Int=>oq y z a b c d x s.1 s.2.1 s.2.2) ([],x,0)
theorem Uw{x:V22}{y:Q22}(G:Gd (ic x y)){fr z a b c d}:qc fr (Dg x y z a b c d):=fc λ_=>Tw G
def pq(y:V22)(z:Q22)(a b c d:Int)(f:List ByteArray):TA (Plan×(List ByteArray)×Bool×Unit) (LP×(List ByteArray)):=.sx (Dg y z a b c d f) (λx=>.l (.n (x.1,x.2)))
def Dj:=λc d z a x y b=>pcT (pq c d z a x y b) [0,1,1,1,0,0,1,0,0,1,1,0,0,1,0,0,1,0,1,1] [(1,.I z),(4,.box [(.fr,.i 0),(.fr,.i 0),(.fr,.nl .plan)]),(8,.I a),(12,.box [(.fr,.i x),(.fr,.i y),(.fr,.nl .plan)]),(13,.S .str b)] (rvF F22) (λq=>[(4,.box [(.fr,.i 0),(.fr,.i 0),(.fr,.nl .plan)]),(12,.box [(.fr,.i x),(.fr,.i y),((.acc false),.lst .plan q.1)]),(13,.S .str q.2)])
theorem Vw{x:V22}{y:Q22}(G:Gd (ic x y)){fr z a b c d}:qc fr (Dj x y z a b c d):=Ja G (λe=>⟨Dg x y (gI e 1 0) (gI e 8 0) (gI e 12 0) (gI e 12 1) (gL .str e 13 0)⟩) λ_=>Uw G
def Eg(b:V22)(c:Q22)(x:List ByteArray)(d y f _ z:Int):TA (Plan×(List ByteArray)×Bool×Unit) Unit:=.w [sg (Plan.mk y z []),inb 0 (da .str x)] (.c (!(seq (cf (Plan.mk y z [])) (rd .str x 0))) (.l (.n ()))
 (.w [le3 1 (da .str x) (da .str x)] (.sn (Dj b c d f y z (List.drop (Int.toNat 1) x)) (λa=>.l (.r ((Plan.mk y z a.1),(a.2,(true,()))))))))
def Fg:=λd f x y z a b c=>pcT (Eg d f x y z a b c) [0,1,0,0,1,1,0,0,1,0,0,1,0,1,1] [(0,.S .str x),(1,.I y),(4,.box [(.fr,.i 0),(.fr,.i 0),(.fr,.nl .plan)]),(7,.I z),(8,.I a),(10,.I b),(11,.I c)] (rvF F22) (λ_=>[(0,.S .str x),(1,.I y),(4,.box [(.fr,.i 0),(.fr,.i 0),(.fr,.nl .plan)]),(7,.I z),(8,.I a),(10,.I b),(11,.I c)])
theorem Ww{x:V22}{y:Q22}(G:Gd (ic x y)){fr z a b c d f}:qc fr (Fg x y z a b c d f):=Ja G (λe=>⟨Dj x y (gI e 1 0) (gI e 8 0) (gI e 12 0) (gI e 12 1) (gL .str e 13 0)⟩) λ_=>Vw G
def Gg(z:V22)(a:Q22)(b:List ByteArray)(c d f y _ x:Int):TX (Plan×(List ByteArray)×Bool×Unit) Int Unit:=.c (cmp .leq x y) (.sn (Fg z a b c d f y x) (λ_=>.l (.n (ar .add .i64 x 1))))
 (.l (.x ()))
def qq:=λd f x y z a b g c=>pcR (Gg d f x y z a b g c) [0,0,1,1,0,0,1,0,0,1,0,1,1] (λq=>[(0,.S .str x),(1,.I y),(4,.box [(.fr,.i 0),(.fr,.i 0),(.fr,.nl .plan)]),(7,.I z),(8,.I a),(10,.I b),(11,.I q)]) c (rvF F22) (λ_=>(2,[(0,.S .str x),(1,.I y),(4,.box [(.fr,.i 0),(.fr,.i 0),(.fr,.nl .plan)]),(7,.I z)]))
theorem Xw{x:V22}{y:Q22}(G:Gd (ic x y)){fr z a b c d f g}:qc fr (qq x y z a b c d f g):=Ja G (λe=>⟨Fg x y (gL .str e 0 0) (gI e 1 0) (gI e 7 0) (gI e 8 0) (gI e 10 0) (gI e 11 0)⟩) λ_=>Ww G
def Hg:=λy z a b c d f x=>pcL (λs:Int=>qq y z a b c d f x s) x
theorem Yw{x:V22}{y:Q22}(G:Gd (ic x y)){fr z a b c d f}:qc fr (Hg x y z a b c d f):=fc λ_=>Xw G
def rq(z:V22)(a:Q22)(b:List ByteArray)(c x:Int):TA (Plan×(List ByteArray)×Bool×Unit) Unit:=.k (Pc x) λy=>.w [og x] (.sx (Hg z a b c x y.1 y.2.2.1 y.2.1) (λ_=>.l (.n ())))
def Ej:=λa b x y z=>pcT (rq a b x y z) [0,1,0,0,1,0,1,1] [(0,.S .str x),(1,.I y),(4,.box [(.fr,.i 0),(.fr,.i 0),(.fr,.nl .plan)]),(7,.I z)] (rvF F22) (λ_=>[(0,.S .str x),(1,.I y),(4,.box [(.fr,.i 0),(.fr,.i 0),(.fr,.nl .plan)]),(7,.I z)])
theorem Zw{x:V22}{y:Q22}(G:Gd (ic x y)){fr z a b}:qc fr (Ej x y z a b):=Ja G (λe=>⟨Hg x y (gL .str e 0 0) (gI e 1 0) (gI e 7 0) (gI e 8 0) (gI e 10 0) (gI e 11 0)⟩) λ_=>Yw G
def Fj(y:V22)(z:Q22)(a:List ByteArray)(b x:Int):TX (Plan×(List ByteArray)×Bool×Unit) Int Unit:=.c (cmp .leq x 6) (.sn (Ej y z a b x) (λ_=>.l (.n (ar .add .i64 x 1))))
 (.l (.x ()))
def sq:=λa b x y z=>pcR (Fj a b x y z) [0,0,1,0,1,1] (λq=>[(0,.S .str x),(1,.I y),(4,.box [(.fr,.i 0),(.fr,.i 0),(.fr,.nl .plan)]),(7,.I q)]) z (rvF F22) (λ_=>(0,[(4,.box [(.fr,.i 0),(.fr,.i 0),(.fr,.nl .plan)])]))
theorem ax{x:V22}{y:Q22}(G:Gd (ic x y)){fr z a b}:qc fr (sq x y z a b):=Ja G (λe=>⟨Ej x y (gL .str e 0 0) (gI e 1 0) (gI e 7 0)⟩) λ_=>Zw G
def Ig:=λx y z a=>pcL (λs:Int=>sq x y z a s) 1
theorem cx{x:V22}{y:Q22}(G:Gd (ic x y)){fr z a}:qc fr (Ig x y z a):=fc λ_=>ax G
def tq(x:V22)(y:Q22)(z:List ByteArray)(a:Int):TA (Plan×(List ByteArray)×Bool×Unit) Unit:=.sx (Ig x y z a) (λ_=>.l (.n ()))
def Gj:=λz a x y=>pcT (tq z a x y) [0,1,1] [(0,.S .str x),(1,.I y),(4,.box [(.fr,.i 0),(.fr,.i 0),(.fr,.nl .plan)])] (rvF F22) (λ_=>[(4,.box [(.fr,.i 0),(.fr,.i 0),(.fr,.nl .plan)])])
theorem dx{x:V22}{y:Q22}(G:Gd (ic x y)){fr z a}:qc fr (Gj x y z a):=Ja G (λe=>⟨Ig x y (gL .str e 0 0) (gI e 1 0)⟩) λ_=>cx G
def Kd(z:V22)(a:Q22)(x:List ByteArray)(y:Int):TN (Plan×(List ByteArray)×Bool×Unit):=.c (cond (cmp .eql (da .str x) 0) true (cmp .lss y 1)) (.l (.r ((Plan.mk 0 0 []),([],(false,())))))
 (.sn (Gj z a x y) (λ_=>.l (.r ((Plan.mk 0 0 []),([],(false,()))))))
def fx:=λz a x y=>pcT (Kd z a x y) [] [(0,.S .str x),(1,.I y)] (rvF F22)
theorem jx{x:V22}{y:Q22}(G:Gd (ic x y)){fr z a}:qc fr (fx x y z a):=Ja G (λe=>⟨Gj x y (gL .str e 0 0) (gI e 1 0)⟩) λ_=>dx G
theorem nx{x:V22}{y:Q22}(G:Gd (ic x y)):CP 22 (Bj (λz a=>ocR (Kd x y z a).val) (λz a=>(Kd x y z a).ob)):=Oa (pts:=[(.lst .str),(.int .i64)]) (F:=F22) G λ_ _=>jx G
def oa:Nat->V22×Q22
 |0=>(λ_ _=>default,λ_ _=>False)
 |n+1=>(λx y=>ocR (Kd (oa n).1 (oa n).2 x y).val,λx y=>(Kd (oa n).1 (oa n).2 x y).ob)
def Ij:V22:=(oa xa).1
def Mm:Q22:=(oa xa).2
def uq:Spec:=Bj Ij Mm
def vq:SP:=[(23,Br),(22,uq),(13,rg),(7,vg)]
abbrev F9:Fnn:=⟨[.cell 2 25,.tmp 3],.tup [(false,(.st .plan)),(true,.bool)],none,[]⟩
abbrev Ok9:=@OkP Tryd.f9 F9
def Jg(y:ByteArray):TN (Plan×Bool×Unit):=.c (cmp .gtr (ca y) 2000) (.l (.r ((Plan.mk 0 0 []),(false,()))))
 (.k (ze y (bs [32])) λz=>.k (Ij z 4) λx=>.w [ln y (bs [32]),Mm z 4] (.k (Ze (pE x.1)) λa=>.w [((!(cond (!x.2.2.1) true (cmp .gtr (da .str x.2.1) 0)))&&true)=true->(bf (pE x.1)),((!(cond (cond (!x.2.2.1) true (cmp .gtr (da .str x.2.1) 0)) true (!a)))&&true)=true->(jf (pE x.1))] (.c (cond (cond (cond (!x.2.2.1) true (cmp .gtr (da .str x.2.1) 0)) true (!a)) true (!(seq (ff (pE x.1)) y))) (.l (.r ((Plan.mk 0 0 []),(false,()))))
 (.l (.r ((pE x.1),(true,())))))))
def qx:=λx=>pcT (Jg x) [] [(0,.v .fr (.str x))] (rvF F9)
theorem rx(G:Gd vq){fr x}:Ok9 fr (qx x):=Ea G
def uf(x:ByteArray):Plan×Bool×Unit:=ocR (Jg x).val
def vf(x:ByteArray):Prop:=(Jg x).ob
def Jj:Spec:=spF [.str] (.tup [(false,(.st .plan)),(true,.bool)]) uf vf
theorem tx(G:Gd vq):CP 9 Jj:=Oa (pts:=[.str]) (F:=F9) G λ_ _=>rx G
abbrev V10:=Plan->Plan->Bool
abbrev Q10:=Plan->Plan->Prop
def Kj(v:V10)(p:Q10):Spec:=⟨[(.st .plan),(.st .plan)],.one .fr .bool,false,λx=>(v x.1 x.2.1,0),λx=>p x.1 x.2.1⟩
def Kg(x:V10)(y:Q10):SP:=[(10,Kj x y)]
abbrev F10:Fnn:=⟨[.tmp 4],.one .fr .bool,none,[]⟩
abbrev Lj:=@OkP Tryd.f10 F10
def Mj(a:V10)(b:Q10)(_ _:Int)(y:LP)(_ _:Int)(z:LP)(x:Int):TX Bool Int Unit:=.c (cmp .lss x (da .plan y)) (.w [inb x (da .plan y),inb x (da .plan z),b (pE (rd .plan y x)) (pE (rd .plan z x))] (.c (!(a (pE (rd .plan y x)) (pE (rd .plan z x)))) (.l (.r false))
 (.l (.n (ar .add .i64 x 1)))))
 (.l (.x ()))
def wq:=λf g x y z a b c d=>pcR (Mj f g x y z a b c d) [0,0,1,0,1,1] (λq=>[(2,.box [(.fr,.i x),(.fr,.i y),(.sh,.lst .plan z)]),(3,.box [(.fr,.i a),(.fr,.i b),(.sh,.lst .plan c)]),(5,.I q)]) d (rvF F10) (λ_=>(0,[]))
theorem ux{x:V10}{y:Q10}(G:Gd (Kg x y)){fr z a b c d f g}:Lj fr (wq x y z a b c d f g):=Ea G
def Lg:=λx y z a b c d f=>pcL (λs:Int=>wq x y z a b c d f s) 0
theorem yx{x:V10}{y:Q10}(G:Gd (Kg x y)){fr z a b c d f}:Lj fr (Lg x y z a b c d f):=fc λ_=>ux G
def xq(x:V10)(y:Q10)(z a:Int)(b:LP)(c d:Int)(f:LP):TA Bool Unit:=.sx (Lg x y z a b c d f) (λ_=>.l (.n ()))
def Nj:=λd f x y z a b c=>pcT (xq d f x y z a b c) [0,1,1] [(2,.box [(.fr,.i x),(.fr,.i y),(.sh,.lst .plan z)]),(3,.box [(.fr,.i a),(.fr,.i b),(.sh,.lst .plan c)])] (rvF F10) (λ_=>[])
theorem zx{x:V10}{y:Q10}(G:Gd (Kg x y)){fr z a b c d f}:Lj fr (Nj x y z a b c d f):=Ja G (λe=>⟨Lg x y (gI e 2 0) (gI e 2 1) (gL .plan e 2 2) (gI e 3 0) (gI e 3 1) (gL .plan e 3 2)⟩) λ_=>yx G
def xf(z:V10)(a:Q10)(x y:Plan):TN Bool:=.c (cond (cond (cmp .neq x.Kind y.Kind) true (cmp .neq x.Num y.Num)) true (cmp .neq (da .plan x.Kids) (da .plan y.Kids))) (.l (.r false))
 (.sn (Nj z a x.Kind x.Num x.Kids y.Kind y.Num y.Kids) (λ_=>.l (.r true)))
def Ax:=λz a x y=>pcT (xf z a x y) [] [(0,.agg false [.i x.Kind,.i x.Num,.lst .plan x.Kids]),(1,.agg false [.i y.Kind,.i y.Num,.lst .plan y.Kids])] (rvF F10)
theorem Bx{x:V10}{y:Q10}(G:Gd (Kg x y)){fr z a}:Lj fr (Ax x y z a):=Ja G (λe=>⟨Nj x y (gI e 2 0) (gI e 2 1) (gL .plan e 2 2) (gI e 3 0) (gI e 3 1) (gL .plan e 3 2)⟩) λ_=>zx G
theorem Cx{x:V10}{y:Q10}(G:Gd (Kg x y)):CP 10 (Kj (λz a=>ocR (xf x y z a).val) (λz a=>(xf x y z a).ob)):=Oa (pts:=[(.st .plan),(.st .plan)]) (F:=F10) G λ_ _=>Bx G
def Cb:Nat->V10×Q10
 |0=>(λ_ _=>default,λ_ _=>False)
 |n+1=>(λx y=>ocR (xf (Cb n).1 (Cb n).2 x y).val,λx y=>(xf (Cb n).1 (Cb n).2 x y).ob)
def Mg:V10:=(Cb xa).1
def Ng:Q10:=(Cb xa).2
def Nm:Spec:=Kj Mg Ng
def yq:SP:=[(6,Am),(7,vg),(8,Cg),(9,Jj),(10,Nm)]
abbrev F3:Fnn:=⟨[.tmp 2],.one .fr .bool,none,[]⟩
abbrev Ok3:=@OkP Tryd.f3 F3
def Oj(a:LB):TN Bool:=.c (cmp .gtr (da .byte a) 1048576) (.l (.r true))
 (.k (zm a) λx=>.w [Li a] (.k (ff (pE x)) λy=>.w [jf (pE x)] (.k (tf (pE x)) λb=>.w [we (pE x)] (.c (cond (!(seq y b)) true (seq y ByteArray.empty)) (.w [we (pE x)] (.l (.r (seq y b))))
 (.k (uf y) λz=>.w [vf y] (.w [(z.2.1&&true)=true->(Ng (pE z.1) (pE x))] (.l (.r (cond z.2.1 (Mg (pE z.1) (pE x)) false)))))))))
def Dx:=λx=>pcT (Oj x) [] [(0,.S .byte x)] (rvF F3)
theorem Ex(G:Gd yq){fr x}:Ok3 fr (Dx x):=Ea G
def Om(x:LB):Bool:=ocR (Oj x).val
def Pm(x:LB):Prop:=(Oj x).ob
def zq:Spec:=spF [(.lst .byte)] (.one .fr .bool) Om Pm
theorem Gx(G:Gd yq):CP 3 zq:=Oa (pts:=[(.lst .byte)]) (F:=F3) G λ_ _=>Ex G
def Aq:SP:=[(25,Ye)]
abbrev F26:Fnn:=⟨[.tmp 4],.one .fr .str,some 0,[]⟩
abbrev Hx:=@OkP Tryd.f26 F26
def Pj(x:(LB×Int))(y:List ByteArray):TN (ByteArray×Int):=.k (Fa (x.1,x.2) (da .str y)) λz=>.w [Pb (x.1,x.2) (da .str y),inb z.1 (da .str y)] (.l (.r ((rd .str y z.1),z.2)))
def Ix:=λx y=>pcT (Pj x y) [] [(0,.R x.1 x.2),(1,.S .str y)] (rvR F26 x.1)
theorem Jx(G:Gd Aq){fr x y}:Hx fr (Ix x y):=Ea G
def yf(x:(LB×Int))(y:List ByteArray):ByteArray×Int:=ocR (Pj x y).val
def Qj(x:(LB×Int))(y:List ByteArray):Prop:=(Pj x y).ob
def Qm:Spec:=spR [.rdr,(.lst .str)] (.one .fr .str) yf Qj
theorem Kx(G:Gd Aq):CP 26 Qm:=xi (pts:=[.rdr,(.lst .str)]) (F:=F26) G (λx=>x.1.1) λ_ _=>Jx G
def Bq:SP:=[(18,Ci),(24,vm),(8,Cg),(25,Ye),(26,Qm)]
abbrev F11:Fnn:=⟨[.tmp 2],.one .fr .str,none,[]⟩
abbrev Lx:=@OkP Tryd.f11 F11
def Rj(f:LB):TN ByteArray:=.k (mg f) λz=>.w [ng f] (.k (Vb (z.1,z.2) 4) λb=>.k (tf (pE b.1)) λx=>.w [Fi (z.1,z.2) 4,we (pE b.1)] (.k (Fa (z.1,b.2) 3) λc=>.w [Pb (z.1,b.2) 3] (.c (cmp .gtr c.1 0) (.l (.r x))
 (.k (Fa (z.1,c.2) (ca x)) λy=>.w [Pb (z.1,c.2) (ca x)] (.k (Fa (z.1,y.2) 4) λa=>.w [Pb (z.1,y.2) 4] (.c (cmp .eql a.1 0) (.w [le3 0 y.1 (ca x),le3 (ar .add .i64 y.1 1) (ca x) (ca x),lim (ca (za x 0 y.1)) (ca (za x (ar .add .i64 y.1 1) (ca x)))] (.l (.r ((za x 0 y.1)++(za x (ar .add .i64 y.1 1) (ca x))))))
 (.c (cmp .eql a.1 1) (.k (yf (z.1,a.2) [(bs [32]),(bs [105,110,48]),(bs [48]),(bs [101,97,99,104,57,32])]) λd=>.w [le3 0 y.1 (ca x),(Qj (z.1,a.2) [(bs [32]),(bs [105,110,48]),(bs [48]),(bs [101,97,99,104,57,32])]),lim (ca (za x 0 y.1)) (ca d.1),le3 y.1 (ca x) (ca x),lim (ca ((za x 0 y.1)++d.1)) (ca (za x y.1 (ca x)))] (.l (.r (((za x 0 y.1)++d.1)++(za x y.1 (ca x))))))
 (.c (cmp .eql a.1 2) (.w [lim (ca x) (ca (bs [32])),lim (ca (x++(bs [32]))) (ca x)] (.l (.r ((x++(bs [32]))++x))))
 (.w [le3 0 y.1 (ca x)] (.l (.r (za x 0 y.1))))))))))))
def Mx:=λx=>pcT (Rj x) [] [(0,.S .byte x)] (rvF F11)
theorem Nx(G:Gd Bq){fr x}:Lx fr (Mx x):=Ea G
def Og(x:LB):ByteArray:=ocR (Rj x).val
def Sj(x:LB):Prop:=(Rj x).ob
def Rm:Spec:=spF [(.lst .byte)] (.one .fr .str) Og Sj
theorem Ox(G:Gd Bq):CP 11 Rm:=Oa (pts:=[(.lst .byte)]) (F:=F11) G λ_ _=>Nx G
def zf:SP:=[]
abbrev F28:Fnn:=⟨[.tmp 4],.one (.acc true) (.lst .str),none,[]⟩
abbrev Pg:=@OkP Tryd.f28 F28
def Cq(y:ByteArray)(b:Int)(a:List ByteArray)(z x:Int):TA (List ByteArray) ((List ByteArray)×Int):=.w [inb x (ca y)] (.c (cmp .eql (Qb y x) b) (.w [le3 z x (ca y),lim (da .str a) (da .str [(za y z x)])] (.l (.n ((a++[(za y z x)]),(ar .add .i64 x 1)))))
 (.l (.n (a,z))))
def Tj:=λx y a b z=>pcT (Cq x y a b z) [0,1,0,0,1,0,1,1,1] [(0,.v .fr (.str x)),(1,.v .fr (.int .u8 y)),(5,.A .str a),(6,.I b),(7,.I z)] (rvF F28) (λq=>[(0,.v .fr (.str x)),(1,.v .fr (.int .u8 y)),(5,.A .str q.1),(6,.I q.2),(7,.I z)])
theorem Px(G:Gd zf){fr x y z a b}:Pg fr (Tj x y z a b):=Ea G
def Uj(y:ByteArray)(c:Int)(z:List ByteArray)(a x:Int):TX (List ByteArray) ((List ByteArray)×Int×Int) ((List ByteArray)×Int):=.c (cmp .lss x (ca y)) (.sn (Tj y c z a x) (λb=>.l (.n (b.1,b.2,(ar .add .i64 x 1)))))
 (.l (.x (z,a)))
def Dq:=λx y z a b=>pcR (Uj x y z a b) [0,0,1,0,1,1,1] (λq=>[(0,.v .fr (.str x)),(1,.v .fr (.int .u8 y)),(5,.A .str q.1),(6,.I q.2.1),(7,.I q.2.2)]) (z,a,b) (rvF F28) (λq=>(0,[(0,.v .fr (.str x)),(5,.A .str q.1),(6,.I q.2)]))
theorem Qx(G:Gd zf){fr x y z a b}:Pg fr (Dq x y z a b):=Ja G (λe=>⟨Tj (gS e 0 0) (gI e 1 0) (gL .str e 5 0) (gI e 6 0) (gI e 7 0)⟩) λ_=>Px G
def Qg:=λx y=>pcL (λs:(List ByteArray)×Int×Int=>Dq x y s.1 s.2.1 s.2.2) ([],0,0)
theorem Rx(G:Gd zf){fr x y}:Pg fr (Qg x y):=fc λ_=>Qx G
def Eq(y:ByteArray)(z:Int):TA (List ByteArray) ((List ByteArray)×Int):=.sx (Qg y z) (λx=>.l (.n (x.1,x.2)))
def Vj:=λx y=>pcT (Eq x y) [0,1,1,1] [(0,.v .fr (.str x)),(1,.v .fr (.int .u8 y)),(5,.A .str []),(6,.I 0)] (rvF F28) (λq=>[(0,.v .fr (.str x)),(5,.A .str q.1),(6,.I q.2)])
theorem Sx(G:Gd zf){fr x y}:Pg fr (Vj x y):=Ja G (λe=>⟨Qg (gS e 0 0) (gI e 1 0)⟩) λ_=>Rx G
def Wj(x:ByteArray)(z:Int):TN (List ByteArray):=.sn (Vj x z) (λy=>.w [le3 y.2 (ca x) (ca x),lim (da .str y.1) (da .str [(za x y.2 (ca x))])] (.l (.r (y.1++[(za x y.2 (ca x))]))))
def Tx:=λx y=>pcT (Wj x y) [] [(0,.v .fr (.str x)),(1,.v .fr (.int .u8 y))] (rvF F28)
theorem Ux(G:Gd zf){fr x y}:Pg fr (Tx x y):=Ja G (λe=>⟨Vj (gS e 0 0) (gI e 1 0)⟩) λ_=>Sx G
def Rg(x:ByteArray)(y:Int):List ByteArray:=ocR (Wj x y).val
def Sg(x:ByteArray)(y:Int):Prop:=(Wj x y).ob
def Sm:Spec:=spF [.str,(.int .u8)] (.one (.acc true) (.lst .str)) Rg Sg
theorem Vx(G:Gd zf):CP 28 Sm:=Oa (pts:=[.str,(.int .u8)]) (F:=F28) G λ_ _=>Ux G
def xe:SP:=[(36,Jm)]
abbrev F39:Fnn:=⟨[.tmp 2,.tmp 3],.tup [(true,(.int .i64)),(true,.bool)],none,[]⟩
abbrev Af:=@OkP Tryd.f39 F39
def Xj(x:ByteArray):TA (Int×Bool×Unit) Int:=.w [((cmp .gtr (ca x) 1)&&true)=true->inb 0 (ca x)] (.c (cond (cmp .gtr (ca x) 1) (cmp .eql (Qb x 0) 45) false) (.l (.n 1))
 (.l (.n 0)))
def Ug:=λx=>pcT (Xj x) [0,1,1,1] [(0,.v .fr (.str x)),(4,.I 0),(5,.I 0)] (rvF F39) (λq=>[(0,.v .fr (.str x)),(4,.I 0),(5,.I q)])
theorem Wx(G:Gd xe){fr x}:Af fr (Ug x):=Ea G
def Yj(y:ByteArray)(_ z x:Int):TX (Int×Bool×Unit) (Int×Int) Int:=.c (cmp .lss x (ca y)) (.w [inb x (ca y),((!(cmp .lss (Qb y x) 48))&&true)=true->inb x (ca y)] (.c (cond (cmp .lss (Qb y x) 48) true (cmp .gtr (Qb y x) 57)) (.l (.r (0,(false,()))))
 (.w [inb x (ca y)] (.l (.n ((ar .add .i64 (ar .mul .i64 z 10) (IntKind.wrap .i64 (ar .sub .u8 (Qb y x) 48))),(ar .add .i64 x 1)))))))
 (.l (.x z))
def Fq:=λx y z a=>pcR (Yj x y z a) [0,0,1,0,1,1,1,1,1] (λq=>[(0,.v .fr (.str x)),(4,.I q.1),(5,.I y),(6,.I q.2)]) (z,a) (rvF F39) (λq=>(0,[(0,.v .fr (.str x)),(4,.I q),(5,.I y)]))
theorem Xx(G:Gd xe){fr x y z a}:Af fr (Fq x y z a):=Ea G
def Vg:=λy x=>pcL (λs:Int×Int=>Fq y x s.1 s.2) (0,x)
theorem Yx(G:Gd xe){fr x y}:Af fr (Vg x y):=fc λ_=>Xx G
def Gq(x:ByteArray)(y:Int):TA (Int×Bool×Unit) Int:=.sx (Vg x y) (λz=>.l (.n z))
def Zj:=λx y=>pcT (Gq x y) [0,1,1,1,1,1] [(0,.v .fr (.str x)),(4,.I 0),(5,.I y)] (rvF F39) (λq=>[(0,.v .fr (.str x)),(4,.I q),(5,.I y)])
theorem Zx(G:Gd xe){fr x y}:Af fr (Zj x y):=Ja G (λe=>⟨Vg (gS e 0 0) (gI e 5 0)⟩) λ_=>Yx G
def ak(_:ByteArray)(x y:Int):TA (Int×Bool×Unit) Int:=.c (cmp .gtr y 0) (.l (.n (IntKind.wrap .i64 (0 - x))))
 (.l (.n x))
def bk:=λx y z=>pcT (ak x y z) [0,1,1,1,1,1,1] [(0,.v .fr (.str x)),(4,.I y),(5,.I z)] (rvF F39) (λq=>[(0,.v .fr (.str x)),(4,.I q)])
theorem ay(G:Gd xe){fr x y z}:Af fr (bk x y z):=Ea G
def Wg(x:ByteArray):TN (Int×Bool×Unit):=.sn (Ug x) (λy=>.c (cond (cmp .lss (ca x) 1) true (cmp .gtr (ca x) (ar .add .i64 y 2))) (.l (.r (0,(false,()))))
 (.sn (Zj x y) (λa=>.sn (bk x a y) (λz=>.w [zg z] (.l (.r (z,((seq (mf z) x),()))))))))
def cy:=λx=>pcT (Wg x) [] [(0,.v .fr (.str x))] (rvF F39)
theorem dy(G:Gd xe){fr x}:Af fr (cy x):=gm G [λe=>⟨Ug (gS e 0 0)⟩,λe=>⟨Zj (gS e 0 0) (gI e 5 0)⟩,λe=>⟨bk (gS e 0 0) (gI e 4 0) (gI e 5 0)⟩] ⟨λ_=>Wx G,λ_=>Zx G,λ_=>ay G,trivial⟩
def Xg(x:ByteArray):Int×Bool×Unit:=ocR (Wg x).val
def Yg(x:ByteArray):Prop:=(Wg x).ob
def Tm:Spec:=spF [.str] (.tup [(true,(.int .i64)),(true,.bool)]) Xg Yg
theorem ey(G:Gd xe):CP 39 Tm:=Oa (pts:=[.str]) (F:=F39) G λ_ _=>dy G
abbrev V27:=List ByteArray->Int->Plan×(List ByteArray)×Unit
abbrev Q27:=List ByteArray->Int->Prop
def fk(v:V27)(p:Q27):Spec:=⟨[(.lst .str),(.int .i64)],.tup [(false,(.st .plan)),(false,(.lst .str))],false,λx=>(v x.1 x.2.1,0),λx=>p x.1 x.2.1⟩
def Sc(x:V27)(y:Q27):SP:=[(39,Tm),(35,wg),(27,fk x y)]
abbrev F27:Fnn:=⟨[.cell 4 25,.tmp 5],.tup [(false,(.st .plan)),(false,(.lst .str))],none,[]⟩
abbrev Ld:=@OkP Tryd.f27 F27
def Zg(_:V27)(_:Q27)(x:List ByteArray)(_ b a:Int)(z:List ByteArray)(y:Int):TA (Plan×(List ByteArray)×Unit) (Int×Int):=.w [inb y (da .str z)] (.w [inb 0 (da .str x),((cmp .geq (ca (rd .str x 0)) (ca (rd .str z y)))&&true)=true->inb 0 (da .str x),((cmp .geq (ca (rd .str x 0)) (ca (rd .str z y)))&&true)=true->le3 0 (ca (rd .str z y)) (ca (rd .str x 0))] (.c (cond (cmp .geq (ca (rd .str x 0)) (ca (rd .str z y))) (seq (za (rd .str x 0) 0 (ca (rd .str z y))) (rd .str z y)) false) (.w [inb 0 (da .str x)] (.c (cmp .gtr (ca (rd .str x 0)) (ca (rd .str z y))) (.w [inb 0 (da .str x),le3 (ca (rd .str z y)) (ca (rd .str x 0)) (ca (rd .str x 0)),Yg (za (rd .str x 0) (ca (rd .str z y)) (ca (rd .str x 0)))] (.l (.n (y,(Xg (za (rd .str x 0) (ca (rd .str z y)) (ca (rd .str x 0)))).1))))
 (.l (.n (y,a)))))
 (.l (.n (b,a)))))
def ik:=λd f x y b c z a=>pcT (Zg d f x y b c z a) [0,1,0,0,1,0,1,1,1,1] [(0,.S .str x),(1,.I y),(4,.box [(.fr,.i 0),(.fr,.i 0),(.fr,.nl .plan)]),(6,.box [(.fr,.i b),(.fr,.i c),(.fr,.nl .plan)]),(7,.A .str z),(8,.I a)] (rvF F27) (λq=>[(0,.S .str x),(1,.I y),(4,.box [(.fr,.i 0),(.fr,.i 0),(.fr,.nl .plan)]),(6,.box [(.fr,.i q.1),(.fr,.i q.2),(.fr,.nl .plan)]),(7,.A .str z),(8,.I a)])
theorem fy{x:V27}{y:Q27}(G:Gd (Sc x y)){fr z a b c d f}:Ld fr (ik x y z a b c d f):=Ea G
def Bf(b:V27)(c:Q27)(d:List ByteArray)(f:Int)(g:List ByteArray)(y z x:Int):TX (Plan×(List ByteArray)×Unit) (Int×Int×Int) (Int×Int):=.c (cmp .leq x 6) (.sn (ik b c d f y z g x) (λa=>.l (.n (a.1,a.2,(ar .add .i64 x 1)))))
 (.l (.x (y,z)))
def Hq:=λd f x y z a b c=>pcR (Bf d f x y z a b c) [0,0,1,0,1,1,1,1] (λq=>[(0,.S .str x),(1,.I y),(4,.box [(.fr,.i 0),(.fr,.i 0),(.fr,.nl .plan)]),(6,.box [(.fr,.i q.1),(.fr,.i q.2.1),(.fr,.nl .plan)]),(7,.A .str z),(8,.I q.2.2)]) (a,b,c) (rvF F27) (λq=>(0,[(0,.S .str x),(1,.I y),(4,.box [(.fr,.i 0),(.fr,.i 0),(.fr,.nl .plan)]),(6,.box [(.fr,.i q.1),(.fr,.i q.2),(.fr,.nl .plan)])]))
theorem iy{x:V27}{y:Q27}(G:Gd (Sc x y)){fr z a b c d f}:Ld fr (Hq x y z a b c d f):=Ja G (λe=>⟨ik x y (gL .str e 0 0) (gI e 1 0) (gI e 6 0) (gI e 6 1) (gL .str e 7 0) (gI e 8 0)⟩) λ_=>fy G
def ah:=λx y z a b=>pcL (λs:Int×Int×Int=>Hq x y z a b s.1 s.2.1 s.2.2) (0,0,1)
theorem jy{x:V27}{y:Q27}(G:Gd (Sc x y)){fr z a b}:Ld fr (ah x y z a b):=fc λ_=>iy G
def Iq(y:V27)(z:Q27)(a:List ByteArray)(b:Int)(c:List ByteArray):TA (Plan×(List ByteArray)×Unit) (Int×Int):=.sx (ah y z a b c) (λx=>.l (.n (x.1,x.2)))
def jk:=λa b x y z=>pcT (Iq a b x y z) [0,1,1,1,1] [(0,.S .str x),(1,.I y),(4,.box [(.fr,.i 0),(.fr,.i 0),(.fr,.nl .plan)]),(6,.box [(.fr,.i 0),(.fr,.i 0),(.fr,.nl .plan)]),(7,.A .str z)] (rvF F27) (λq=>[(0,.S .str x),(1,.I y),(4,.box [(.fr,.i 0),(.fr,.i 0),(.fr,.nl .plan)]),(6,.box [(.fr,.i q.1),(.fr,.i q.2),(.fr,.nl .plan)])])
theorem ly{x:V27}{y:Q27}(G:Gd (Sc x y)){fr z a b}:Ld fr (jk x y z a b):=Ja G (λe=>⟨ah x y (gL .str e 0 0) (gI e 1 0) (gL .str e 7 0)⟩) λ_=>jy G
def ye(c:V27)(d:Q27)(a _ _ f:Int)(_:List ByteArray)(x:LP)(y:List ByteArray)(b:Int):TX (Plan×(List ByteArray)×Unit) (LP×(List ByteArray)×Int) (LP×(List ByteArray)):=.c (cmp .lss b f) (.k (c y (ar .sub .i64 a 1)) λz=>.w [d y (ar .sub .i64 a 1)] (.w [lim (da .plan x) (da .plan [(pE z.1)])] (.l (.n ((x++[(pE z.1)]),z.2.1,(ar .add .i64 b 1))))))
 (.l (.x (x,y)))
def Jq:=λf g z x y a h b c d=>pcR (ye f g z x y a h b c d) [0,0,1,0,1,1,1,1,1,1,1] (λq=>[(1,.I z),(4,.box [(.fr,.i 0),(.fr,.i 0),(.fr,.nl .plan)]),(6,.box [(.fr,.i x),(.fr,.i y),((.acc false),.lst .plan q.1)]),(10,.I a),(13,.S .str q.2.1),(14,.I q.2.2)]) (b,c,d) (rvF F27) (λq=>(2,[(4,.box [(.fr,.i 0),(.fr,.i 0),(.fr,.nl .plan)]),(6,.box [(.fr,.i x),(.fr,.i y),((.acc false),.lst .plan q.1)]),(13,.S .str q.2)]))
theorem my{x:V27}{y:Q27}(G:Gd (Sc x y)){fr z a b c d f g h}:Ld fr (Jq x y z a b c d f g h):=Ea G
def bh:=λy z a b c d x=>pcL (λs:LP×(List ByteArray)×Int=>Jq y z a b c d x s.1 s.2.1 s.2.2) ([],x,0)
theorem ny{x:V27}{y:Q27}(G:Gd (Sc x y)){fr z a b c d}:Ld fr (bh x y z a b c d):=fc λ_=>my G
def Kq(y:V27)(z:Q27)(a b c d:Int)(f:List ByteArray):TA (Plan×(List ByteArray)×Unit) (LP×(List ByteArray)):=.sx (bh y z a b c d f) (λx=>.l (.n (x.1,x.2)))
def nk:=λc d z x y a b=>pcT (Kq c d z x y a b) [0,1,1,1,1,1,1,1] [(1,.I z),(4,.box [(.fr,.i 0),(.fr,.i 0),(.fr,.nl .plan)]),(6,.box [(.fr,.i x),(.fr,.i y),(.fr,.nl .plan)]),(10,.I a),(13,.S .str b)] (rvF F27) (λq=>[(4,.box [(.fr,.i 0),(.fr,.i 0),(.fr,.nl .plan)]),(6,.box [(.fr,.i x),(.fr,.i y),((.acc false),.lst .plan q.1)]),(13,.S .str q.2)])
theorem qy{x:V27}{y:Q27}(G:Gd (Sc x y)){fr z a b c d}:Ld fr (nk x y z a b c d):=Ja G (λe=>⟨bh x y (gI e 1 0) (gI e 6 0) (gI e 6 1) (gI e 10 0) (gL .str e 13 0)⟩) λ_=>ny G
def Md(a:V27)(b:Q27)(x:List ByteArray)(z:Int):TN (Plan×(List ByteArray)×Unit):=.c (cond (cmp .eql (da .str x) 0) true (cmp .lss z 1)) (.l (.r ((Plan.mk 0 0 []),(x,()))))
 (.sn (jk a b x z [ByteArray.empty,(bs [105,110]),(bs [101,97,99,104]),(bs [98,111,116,104]),(bs [108,101,115,115]),(bs [106,111,105,110]),(bs [115,117,109])]) (λy=>.w [kf y.1] (.w [le3 1 (da .str x) (da .str x)] (.sn (nk a b z y.1 y.2 (Qc y.1).1 (List.drop (Int.toNat 1) x)) (λc=>.l (.r ((Plan.mk y.1 y.2 c.1),(c.2,()))))))))
def ry:=λz a x y=>pcT (Md z a x y) [] [(0,.S .str x),(1,.I y)] (rvF F27)
theorem sy{x:V27}{y:Q27}(G:Gd (Sc x y)){fr z a}:Ld fr (ry x y z a):=gm G [λe=>⟨jk x y (gL .str e 0 0) (gI e 1 0) (gL .str e 7 0)⟩,λe=>⟨nk x y (gI e 1 0) (gI e 6 0) (gI e 6 1) (gI e 10 0) (gL .str e 13 0)⟩] ⟨λ_=>ly G,λ_=>qy G,trivial⟩
theorem uy{x:V27}{y:Q27}(G:Gd (Sc x y)):CP 27 (fk (λz a=>ocR (Md x y z a).val) (λz a=>(Md x y z a).ob)):=Oa (pts:=[(.lst .str),(.int .i64)]) (F:=F27) G λ_ _=>sy G
def ua:Nat->V27×Q27
 |0=>(λ_ _=>default,λ_ _=>False)
 |n+1=>(λx y=>ocR (Md (ua n).1 (ua n).2 x y).val,λx y=>(Md (ua n).1 (ua n).2 x y).ob)
def qk:V27:=(ua xa).1
def Um:Q27:=(ua xa).2
def Lq:Spec:=fk qk Um
def Mq:SP:=[(28,Sm),(27,Lq),(8,Cg)]
abbrev F12:Fnn:=⟨[.cell 2 25,.tmp 3],.tup [(false,(.st .plan)),(true,.bool)],none,[]⟩
abbrev wy:=@OkP Tryd.f12 F12
def dh(x:ByteArray):TN (Plan×Bool×Unit):=.c (cmp .gtr (ca x) 2000) (.l (.r ((Plan.mk 0 0 []),(false,()))))
 (.k (Rg x 32) λz=>.k (qk z 4) λy=>.w [Sg x 32,Um z 4] (.w [((!(seq x ByteArray.empty))&&true)=true->(we (pE y.1))] (.c (cond (seq x ByteArray.empty) true (!(seq (tf (pE y.1)) x))) (.l (.r ((Plan.mk 0 0 []),(false,()))))
 (.l (.r ((pE y.1),(true,())))))))
def xy:=λx=>pcT (dh x) [] [(0,.v .fr (.str x))] (rvF F12)
theorem zy(G:Gd Mq){fr x}:wy fr (xy x):=Ea G
def eh(x:ByteArray):Plan×Bool×Unit:=ocR (dh x).val
def fh(x:ByteArray):Prop:=(dh x).ob
def Vm:Spec:=spF [.str] (.tup [(false,(.st .plan)),(true,.bool)]) eh fh
theorem Ay(G:Gd Mq):CP 12 Vm:=Oa (pts:=[.str]) (F:=F12) G λ_ _=>zy G
def Nq:SP:=[(11,Rm),(12,Vm),(9,Jj),(10,Nm),(13,rg),(7,vg)]
abbrev F4:Fnn:=⟨[.tmp 2],.one .fr .bool,none,[]⟩
abbrev Ok4:=@OkP Tryd.f4 F4
def rk(a:LB):TN Bool:=.c (cmp .gtr (da .byte a) 1048576) (.l (.r true))
 (.k (Og a) λy=>.w [Sj a] (.k (eh y) λz=>.w [fh y] (.k (uf y) λx=>.w [vf y] (.w [((!(!(x.2.1 == z.2.1)))&&true)=true->(Ng (pE x.1) (pE z.1))] (.c (cond (!(x.2.1 == z.2.1)) true (!(Mg (pE x.1) (pE z.1)))) (.l (.r false))
 (.k (Mg (pE x.1) (Plan.mk 0 0 [])) λb=>.k (Ze (pE x.1)) λc=>.w [((!x.2.1)&&true)=true->(Ng (pE x.1) (Plan.mk 0 0 [])),(x.2.1&&((!(cond (!x.2.1) b false))&&true))=true->(bf (pE x.1)),((cond x.2.1 c false)&&((!(cond (!x.2.1) b false))&&true))=true->(jf (pE x.1))] (.l (.r (cond (cond (!x.2.1) b false) true (cond (cond x.2.1 c false) (seq (ff (pE x.1)) y) false))))))))))
def Cy:=λx=>pcT (rk x) [] [(0,.S .byte x)] (rvF F4)
theorem Dy(G:Gd Nq){fr x}:Ok4 fr (Cy x):=Ea G
def Wm(x:LB):Bool:=ocR (rk x).val
def Xm(x:LB):Prop:=(rk x).ob
def Oq:Spec:=spF [(.lst .byte)] (.one .fr .bool) Wm Xm
theorem Ey(G:Gd Nq):CP 4 Oq:=Oa (pts:=[(.lst .byte)]) (F:=F4) G λ_ _=>Dy G
end
theorem Fd(a b:Int):cmp .eql a b=decide (a=b):=by
 show(a == b)=_;by_cases h:a=b<;>simp[h]
theorem im(a b:Int):cmp .neq a b=!decide (a=b):=by
 show(a != b)=_;by_cases h:a=b<;>simp[h]
theorem Ha(a b:Int):cmp .lss a b=decide (a<b):=rfl
theorem jg(a b:Int):cmp .leq a b=decide (a<=b):=rfl
theorem Tb(a b:Int):cmp .gtr a b=decide (b<a):=rfl
theorem jm(a b:Int):cmp .geq a b=decide (b<=a):=rfl
theorem Ab{a b:Int}(h : -9223372036854775808<=a+b/\a+b<=9223372036854775807):ar .add .i64 a b=a+b:=IntWalk.i64_in _ h
theorem Ve{a b:Int}(h : -9223372036854775808<=a - b/\a - b<=9223372036854775807):ar .sub .i64 a b=a - b:=IntWalk.i64_in _ h
theorem We{a b:Int}(h : -9223372036854775808<=a*b/\a*b<=9223372036854775807):ar .mul .i64 a b=a*b:=IntWalk.i64_in _ h
theorem tp(a b:Int):ar .rem .i64 a b=a.tmod b:=rfl
theorem lm{a b:Int}(h:0<=a/\a<=9223372036854775807/\1<=b):ar .quo .i64 a b=a / b:=IntWalk.i64_quo a b h
theorem vp{t:Ty}{l r:List t.T}{x:t.T}:da t (l++x::r)=(l.length:Int)+(r.length+1):=by
 unfold da;simp
theorem Wu{t:Ty}{l r:List t.T}{x:t.T}:rd t (l++x::r) (l.length:Int)=x:=by
 unfold rd;rw[Int.toNat_natCast,List.getD_eq_getElem?_getD];simp
theorem Xu{t:Ty}{l r:List t.T}{x:t.T}:inb (l.length:Int) (da t (l++x::r)):=by
 rw[vp];unfold inb;omega
theorem Yu{t:Ty}{l r:List t.T}{x:t.T}:cmp .lss (l.length:Int) (da t (l++x::r))=true:=by
 rw[vp,Ha];simp;omega
theorem kg{t:Ty}{l:List t.T}:cmp .lss (l.length:Int) (da t l)=false:=by
 rw[Ha];simp[da]
theorem lg{t:Ty}{xs l r:List t.T}{x:t.T}(h:xs=l++x::r):xs.length=l.length+(r.length+1)/\rd t xs (l.length:Int)=x/\inb (l.length:Int) (da t xs)/\cmp .lss (l.length:Int) (da t xs)=true:=by
 subst h;exact⟨by simp,Wu,Xu,Yu⟩
theorem yi{t:Ty}{o:List t.T}{y:t.T}(h:o.length<1099511627776):lim (da t o) (da t [y]):=by
 simp only[lim,da,List.length_singleton];omega
theorem Hd{α:Type}{l:List α}(h:l.length<1099511627776):ar .add .i64 (l.length:Int) 1=((l.length+1:Nat):Int):=by
 rw[Ab (by omega)];omega
structure Ma{σ ρ:Type}[Inhabited ρ](step:σ->Lp σ ρ)(ob:σ->Prop)(s:σ)(r:ρ):Prop where
 t:LpT step ob s
 v:lpV step s=r
abbrev Ub{R A X Y Z:Type}[Inhabited R](T:A->Tr R A X Y Z)(s:A)(r:Oc Empty R X Y Z):Prop:=Ma (λs=>Ia (T s).val) (λs=>(T s).ob) s r
theorem Ma.out{σ ρ:Type}[Inhabited ρ]{step:σ->Lp σ ρ}{ob:σ->Prop}{s:σ}{r:ρ}(ho:ob s)(h:step s=.out r):Ma step ob s r:=⟨.mk s ho (λs' hs=>by rw[h]at hs;cases hs),nu h⟩
theorem Ma.go{σ ρ:Type}[Inhabited ρ]{step:σ->Lp σ ρ}{ob:σ->Prop}{s s':σ}{r:ρ}(ho:ob s)(h:step s=.go s')(hr:Ma step ob s' r):Ma step ob s r:=⟨.mk s ho (λs2 hs=>by rw[h]at hs;cases hs;exact hr.t),(pu h).trans hr.v⟩
theorem Ma.list{σ ρ α β:Type}[Inhabited ρ]{step:σ->Lp σ ρ}{ob:σ->Prop}(xs:List α)(st:Nat->β->σ)(I:List α->β->Prop){Q:ρ->Prop}{s0:σ}{b0:β}(hs:st 0 b0=s0)(h0:I [] b0)
  (hgo:∀l x r b,xs=l++x::r->I l b->ob (st l.length b)/\((∃b',step (st l.length b)=.go (st (l.length+1) b')/\I (l++[x]) b')\/∃q,step (st l.length b)=.out q/\Q q))
  (hout:∀b,I xs b->ob (st xs.length b)/\∃q,step (st xs.length b)=.out q/\Q q):∃q,Ma step ob s0 q/\Q q:=by
 subst hs
 suffices ∀(r l:List α) (b:β),xs=l++r->I l b->∃q,Ma step ob (st l.length b) q/\Q q from this xs [] b0 rfl h0
 intro r
 induction r with
 |nil=>
  intro l b hx hI;rw[List.append_nil]at hx;subst hx;obtain⟨ho,q,h1,h2⟩:=hout b hI;exact⟨q,.out ho h1,h2⟩
 |cons x r ih=>
  intro l b hx hI;obtain⟨ho,⟨b',h1,h2⟩|⟨q,h1,h2⟩⟩:=hgo l x r b hx hI
  .obtain⟨q,hq,hQ⟩:=ih (l++[x]) b' (by rw[hx,List.append_assoc];rfl) h2;rw[List.length_append,List.length_singleton]at hq;exact⟨q,.go ho h1 hq,hQ⟩
  .exact⟨q,.out ho h1,h2⟩
theorem Ma.fold{σ ρ α β:Type}[Inhabited ρ]{step:σ->Lp σ ρ}{ob:σ->Prop}(xs:List α)(st:Nat->β->σ)(f:List α->β){fin:ρ}{s0:σ}(hs:st 0 (f [])=s0)
  (hgo:∀l x r,xs=l++x::r->ob (st l.length (f l))/\step (st l.length (f l))=.go (st (l.length+1) (f (l++[x]))))
  (hout:ob (st xs.length (f xs))/\step (st xs.length (f xs))=.out fin):Ma step ob s0 fin:=by
 subst hs
 obtain⟨q,h1,h2⟩:=Ma.list (step:=step) (ob:=ob) (Q:=λq=>q=fin) xs st (λl b=>b=f l) (b0:=f []) rfl rfl
  (λl x r b hx hb=>by subst hb;exact⟨(hgo l x r hx).1,.inl ⟨_,(hgo l x r hx).2,rfl⟩⟩)
  (λb hb=>by subst hb;exact⟨hout.1,_,hout.2,rfl⟩)
 rw[h2]at h1;exact h1
structure se(b:List Int):Prop where
 byte:∀x∈b,0<=x/\x<=255
 len:b.length<=2000
def Xe(b:List Int)(i:Int):Int:=b.getD i.toNat 0
theorem Zu(b:List Int)(i:Int):rd .byte b i=Xe b i:=rfl
theorem mm{b:List Int}(h:se b)(i:Int):0<=Xe b i/\Xe b i<=255:=by
 unfold Xe;rw[List.getD_eq_getElem?_getD];cases hg:b[i.toNat]? with
 |none=>simp
 |some x=>exact h.byte x (List.mem_of_getElem? hg)
theorem bv{a b:Int}(ha:0<=a/\a<4611686018427387904)(hb:0<=b/\b<4611686018427387904):0<=xr .i64 a b/\xr .i64 a b<4611686018427387904:=by
 unfold xr;have h1:(BitVec.ofInt 64 a).toNat<2 ^ 62:=by rw[BitVec.toNat_ofInt];omega
 have h2:(BitVec.ofInt 64 b).toNat<2 ^ 62:=by rw[BitVec.toNat_ofInt];omega
 have h3:=Nat.xor_lt_two_pow h1 h2;show 0<=IntKind.i64.wrap ((BitVec.ofInt 64 a ^^^ BitVec.ofInt 64 b).toNat:Int)/\IntKind.i64.wrap ((BitVec.ofInt 64 a ^^^ BitVec.ofInt 64 b).toNat:Int)<4611686018427387904;rw[BitVec.toNat_xor];generalize (BitVec.ofInt 64 a).toNat ^^^ (BitVec.ofInt 64 b).toNat=m at h3;rw[IntWalk.i64_in _ (by omega)];omega
theorem gc{b:List Int}(hb:se b){p n:Int}(hp:0<=p/\p<=1000000)(hn:1<=n/\n<=1000000) :
  Pb (b,p) n/\(Fa (b,p) n).2=p+1/\0<=(Fa (b,p) n).1/\(Fa (b,p) n).1<n:=by
 have h1:ar .add .i64 p 1=p+1:=Ab (by omega);have h2:ar .sub .i64 (p+1) 1=p:=by rw[Ve (by omega)];omega
 have hj:cmp .lss n 1=false:=by rw[Ha];simp;omega
 have hl:n≠0:=by omega
 have hlen:=hb.len;have hi:da .byte b=(b.length:Int):=rfl;simp only[Pb,Fa,Di,Tr.val,Tr.ob,ga];simp only[h1,h2,hj,cond_false,Fd,hi,Zu];by_cases h0:(b.length:Int)=0
 .simp only[h0,decide_true,ocR];refine⟨by simp,trivial,Int.le_refl _,by omega⟩
 .have hL:1<=(b.length:Int):=by omega
  have hh:b≠[]:=by rintro rfl;exact h0 rfl
  by_cases h3:p<(b.length:Int)
  .have hc:cmp .lss p (b.length:Int)=true:=by rw[Ha];simpa using h3
   simp only[h0,decide_false,hc,ocR];have hx:=mm hb p;rw[IntWalk.i64_in _ (by omega)];exact⟨by simp[inb,hp.1,h3,hl],trivial,Int.tmod_nonneg _ hx.1,Int.tmod_lt_of_pos _ (by omega)⟩
  .have hc:cmp .lss p (b.length:Int)=false:=by rw[Ha];simpa using h3
   have hm:ar .mul .i64 p 7=p*7:=We (by omega);have hk:ar .add .i64 (p*7) 3=p*7+3:=Ab (by omega);simp only[h0,decide_false,hc,ocR,hm,hk,tp];have i1:inb (p.tmod b.length) b.length:=⟨Int.tmod_nonneg _ hp.1,Int.tmod_lt_of_pos _ (by omega)⟩;have i2:inb ((p*7+3).tmod b.length) b.length:=⟨Int.tmod_nonneg _ (by omega),Int.tmod_lt_of_pos _ (by omega)⟩;refine⟨by simp[hh,i1,i2,hl],trivial,?_⟩;have x1:=mm hb (p.tmod b.length);have x2:=mm hb ((p*7+3).tmod b.length);generalize Xe b (p.tmod b.length)=y1 at x1⊢;generalize Xe b ((p*7+3).tmod b.length)=y2 at x2⊢;rw[IntWalk.i64_in y1 (by omega),IntWalk.i64_in y2 (by omega)];have m1:ar .mul .i64 y1 131=y1*131:=We (by omega);have m2:ar .mul .i64 y2 1117=y2*1117:=We (by omega);have m3:ar .mul .i64 p 29=p*29:=We (by omega);have m4:ar .quo .i64 p b.length=p / b.length:=lm (by omega);have q0:0<=p / (b.length:Int):=Int.ediv_nonneg hp.1 (by omega);have q1:p / (b.length:Int)<=p:=Int.ediv_le_self _ hp.1;rw[m4];generalize p / (b.length:Int)=pl at q0 q1⊢;have m5:ar .mul .i64 pl 53=pl*53:=We (by omega);simp only[m1,m2,m3,m5];rw[Ab (a:=y1*131) (b:=y2*1117) (by omega),Ab (a:=y1*131+y2*1117) (b:=p*29) (by omega),Ab (a:=y1*131+y2*1117+p*29) (b:=pl*53) (by omega)];have hX:0<=y1*131+y2*1117+p*29+pl*53/\y1*131+y2*1117+p*29+pl*53<=1000000000000:=by omega
   generalize y1*131+y2*1117+p*29+pl*53=X at hX⊢;rw[lm (by omega)];have ho:=bv (a:=X) (b:=X / 64) (by omega) (by omega);exact⟨Int.tmod_nonneg _ ho.1,Int.tmod_lt_of_pos _ (by omega)⟩
theorem xp{c:List Int}(hc:∀x∈c,0<=x/\x<=255):ng c/\∃b,mg c=(b,0)/\se b:=by
 have hl:da .byte c=(c.length:Int):=rfl;simp only[ng,mg,Bi,zp,Ai,pcT,Tr.val,Tr.ob,ga];by_cases h:2000<(c.length:Int)
 .have hg:cmp .gtr (da .byte c) 2000=true:=by rw[Tb,hl];simpa using h
  have h3:le3 0 2000 (da .byte c):=⟨by omega,by omega,by rw[hl];omega⟩;simp only[hg,ocR];exact⟨by simp[h3],_,rfl,λx hx=>hc x (List.mem_of_mem_take (List.mem_of_mem_drop hx)),by simp;omega⟩
 .have hg:cmp .gtr (da .byte c) 2000=false:=by rw[Tb,hl];simpa using h
  simp only[hg,ocR];exact⟨by simp,_,rfl,hc,by omega⟩
def Dc{α:Type}(bad:Option α->α->Bool):Option α->List α->Bool
 |_,[]=>true
 |y,x::r=>!bad y x&&Dc bad (some x) r
theorem om{α:Type}(ok:α->Bool):∀(xs:List α) (y:Option α),Dc (λ_ x=>!ok x) y xs=xs.all ok
 |[],_=>rfl
 |x::r,y=>by simp only[Dc,List.all_cons,om ok r (some x),Bool.not_not]
theorem Ma.scan{ρ α:Type}[Inhabited ρ]{step:Int->Lp Int ρ}{ob:Int->Prop}(xs:List α)(bad:Option α->α->Bool){no yes:ρ}
  (hstep:∀l x r,xs=l++x::r->ob (l.length:Int)/\step (l.length:Int)=(if bad l.getLast? x=true then .out no else .go (((l.length+1:Nat)):Int))) (hend:ob (xs.length:Int)/\step (xs.length:Int)=.out yes) :
  Ma step ob 0 (if Dc bad none xs=true then yes else no):=by
 obtain⟨q,h1,h2⟩:=Ma.list (step:=step) (ob:=ob) (Q:=λq=>q=if Dc bad none xs=true then yes else no) xs (λi (_:Unit)=>(i:Int)) (λl _=>Dc bad none xs=Dc bad l.getLast? (xs.drop l.length)) (b0:=()) rfl rfl
  (λl x r _ hx hI=>by
    obtain⟨a1,a2⟩:=hstep l x r hx;have hh:xs.drop l.length=x::r:=by rw[hx];simp
    have hi:xs.drop (l++[x]).length=r:=by rw[hx];simp
    rw[hh]at hI;simp only[Dc]at hI;refine⟨a1,?_⟩;cases hb:bad l.getLast? x with
    |true=>
     rw[hb]at hI a2;exact .inr ⟨no,a2,by rw[hI];rfl⟩
    |false=>
     rw[hb]at hI a2;exact .inl ⟨(),a2,by rw[hi,hI];simp⟩)
  (λ_ hI=>by
    rw[List.drop_length]at hI;exact⟨hend.1,yes,hend.2,by rw[hI];rfl⟩)
 rw[h2]at h1;exact h1
theorem fb(p:Plan):Plan.mk p.Kind p.Num p.Kids=p:=by cases p;rfl
def kd(k:Int):Int×Int×Int:=if k=1 then(0,0,1) else if k=2 then(1,1,7) else if k=3\/k=5 then(2,0,0) else if k=4 then(1,0,0) else if k=6 then(1,1,3) else(-1,0,0)
theorem pm(k:Int):k=1\/k=2\/k=3\/k=4\/k=5\/k=6\/(k≠1/\k≠2/\k≠3/\k≠4/\k≠5/\k≠6):=by omega
theorem qm(k:Int):og k/\Pc k=((kd k).1,(kd k).2.1,(kd k).2.2,()):=by
 simp only[og,Pc,Pi,Oi,Hp,Ni,Gp,pcT,Tr.val,Tr.ob,Fd];rcases pm k with rfl|rfl|rfl|rfl|rfl|rfl|⟨h1,h2,h3,h4,h5,h6⟩
 .exact⟨by simp,rfl⟩
 .exact⟨by simp,rfl⟩
 .exact⟨by simp,rfl⟩
 .exact⟨by simp,rfl⟩
 .exact⟨by simp,rfl⟩
 .exact⟨by simp,rfl⟩
 .simp[h1,h2,h3,h4,h5,h6,kd,ocR]
theorem zi(k:Int):kf k/\Qc k=((kd k).1,(kd k).2.1,(kd k).2.2,()):=by
 simp only[kf,Qc,ij,gj,Wp,fj,Vp,pcT,Tr.val,Tr.ob,Fd];rcases pm k with rfl|rfl|rfl|rfl|rfl|rfl|⟨h1,h2,h3,h4,h5,h6⟩
 .exact⟨by simp,rfl⟩
 .exact⟨by simp,rfl⟩
 .exact⟨by simp,rfl⟩
 .exact⟨by simp,rfl⟩
 .exact⟨by simp,rfl⟩
 .exact⟨by simp,rfl⟩
 .simp[h1,h2,h3,h4,h5,h6,kd,ocR]
def Va(p:Plan):Bool:=decide ((p.Kids.length:Int)=(kd p.Kind).1/\(kd p.Kind).2.1<=p.Num/\p.Num<=(kd p.Kind).2.2)
def okM:Nat->Plan->Bool
 |0,_=>false
 |d+1,p=>Va p&&p.Kids.all (okM d)
theorem cv(k:Int):(kd k).1<=2:=by
 unfold kd;repeat' split
 all_goals simp
theorem rm{p:Plan}(h:Va p=true):p.Kids.length<=2:=by
 simp only[Va,decide_eq_true_eq]at h;have:=cv p.Kind;omega
theorem dv:∀(d n:Nat),d<n->d<=1000->∀p:Plan,(mb n).2 p d/\(mb n).1 p d=okM d p:=by
 intro d
 induction d with
 |zero=>
  intro n hn _ p;obtain⟨m,rfl⟩ : ∃m,n=m+1:=⟨n - 1,by omega⟩;obtain⟨k1,k2⟩:=qm p.Kind;have hl:cmp .lss ((0:Nat):Int) 1=true:=rfl;simp only[mb,Id,Tr.val,Tr.ob,ga,hl,cond_true,ocR];exact⟨by simp[k1],rfl⟩
 |succ d ih=>
  intro n hn hd p;obtain⟨m,rfl⟩ : ∃m,n=m+1:=⟨n - 1,by omega⟩;obtain⟨k1,k2⟩:=qm p.Kind;generalize hD:((d+1:Nat):Int)=D;have hl:cmp .lss D 1=false:=by rw[Ha];simp;omega
  have ho:ar .sub .i64 D 1=(d:Int):=by rw[Ve (by omega)];omega
  have hc:cond (cond (cond (cond (cmp .lss D 1) true (cmp .lss (Pc p.Kind).1 0)) true (cmp .neq (da .plan p.Kids) (Pc p.Kind).1)) true (cmp .lss p.Num (Pc p.Kind).2.1)) true (cmp .gtr p.Num (Pc p.Kind).2.2.1)=!Va p:=by
   rw[hl,k2];simp only[Ha,im,Tb,Va,da];rw[Bool.eq_iff_iff];simp;omega
  by_cases hh:Va p=true
  .have hlen:=rm hh
   have k:Ub (λs:Int=>Ti (mb m).1 (mb m).2 D p.Kids (da .plan p.Kids) s) 0 (if Dc (λ_ x=>!okM d x) none p.Kids=true then .x () else .r false):=by
    refine Ma.scan p.Kids _ (λl x r hx=>?_) ?_
    .obtain⟨hlen2,hm,hj,hk⟩:=lg (t:=.plan) hx;obtain⟨i1,i2⟩:=ih m (by omega) (by omega) x;simp only[Ti,Tr.val,Tr.ob,ga,hk,hm,fb,ho,i2,Hd (l:=l) (by omega)];refine⟨by simp[hj,i1],?_⟩;cases okM d x<;>rfl
    .have hi:cmp .lss (p.Kids.length:Int) (da .plan p.Kids)=false:=kg (t:=.plan);simp only[Ti,Tr.val,Tr.ob,ga,hi];exact⟨by simp,rfl⟩
   have a2:(qg (mb m).1 (mb m).2 D p.Kids (da .plan p.Kids)).o=_:=k.v;have b2:(qg (mb m).1 (mb m).2 D p.Kids (da .plan p.Kids)).ob:=k.t;rw[om]at a2;simp only[mb,Id,Ui,Jp,pcT,Tr.val,Tr.ob,ga,hc,hh,Bool.not_true,a2,okM];refine⟨by simp[k1,b2],?_⟩;cases p.Kids.all (okM d)<;>rfl
  .have hh:Va p=false:=by simpa using hh
   simp only[mb,Id,Tr.val,Tr.ob,ga,hc,hh,Bool.not_false,ocR,okM,Bool.false_and];exact⟨by simp[k1],trivial⟩
theorem ev:∀(d n:Nat),d<n->d<=1000->∀p:Plan,(nb n).2 p d/\(nb n).1 p d=okM d p:=by
 intro d
 induction d with
 |zero=>
  intro n hn _ p;obtain⟨m,rfl⟩ : ∃m,n=m+1:=⟨n - 1,by omega⟩;obtain⟨k1,k2⟩:=zi p.Kind;have hl:cmp .lss ((0:Nat):Int) 1=true:=rfl;simp only[nb,Jd,Tr.val,Tr.ob,ga,hl,cond_true,ocR];exact⟨by simp[k1],rfl⟩
 |succ d ih=>
  intro n hn hd p;obtain⟨m,rfl⟩ : ∃m,n=m+1:=⟨n - 1,by omega⟩;obtain⟨k1,k2⟩:=zi p.Kind;generalize hD:((d+1:Nat):Int)=D;have hl:cmp .lss D 1=false:=by rw[Ha];simp;omega
  have hp:ar .sub .i64 D 1=(d:Int):=by rw[Ve (by omega)];omega
  have hk:∀a b c,Gm a b c/\jj a b c=decide (b<=a/\a<=c):=λa b c=>by
   refine⟨trivial,?_⟩;show cond (cmp .geq a b) (cmp .leq a c) false=_;rw[jm,jg,Bool.eq_iff_iff];simp
  have hc:cond (cond (cmp .lss D 1) true (cmp .neq (da .plan p.Kids) (Qc p.Kind).1)) true (!(jj p.Num (Qc p.Kind).2.1 (Qc p.Kind).2.2.1))=!Va p:=by
   rw[hl,k2,(hk _ _ _).2];simp only[im,Va,da];rw[Bool.eq_iff_iff];simp
  by_cases hh:Va p=true
  .have hlen:=rm hh
   have k:Ub (λs:Int=>nj (nb m).1 (nb m).2 D p.Kind p.Num p.Kids s) 0 (if Dc (λ_ x=>!okM d x) none p.Kids=true then .x () else .r false):=by
    refine Ma.scan p.Kids _ (λl x r hx=>?_) ?_
    .obtain⟨hlen2,ho,hj,hm⟩:=lg (t:=.plan) hx;obtain⟨i1,i2⟩:=ih m (by omega) (by omega) x;simp only[nj,Tr.val,Tr.ob,ga,hm,ho,fb,hp,i2,Hd (l:=l) (by omega)];refine⟨by simp[hj,i1],?_⟩;cases okM d x<;>rfl
    .have hi:cmp .lss (p.Kids.length:Int) (da .plan p.Kids)=false:=kg (t:=.plan);simp only[nj,Tr.val,Tr.ob,ga,hi];exact⟨by simp,rfl⟩
   have a2:(yg (nb m).1 (nb m).2 D p.Kind p.Num p.Kids).o=_:=k.v;have b2:(yg (nb m).1 (nb m).2 D p.Kind p.Num p.Kids).ob:=k.t;rw[om]at a2;simp only[nb,Jd,pj,Zp,pcT,Tr.val,Tr.ob,ga,hc,hh,Bool.not_true,a2,okM];refine⟨by simp[k1,b2,(hk _ _ _).1],?_⟩;cases p.Kids.all (okM d)<;>rfl
  .have hh:Va p=false:=by simpa using hh
   simp only[nb,Jd,Tr.val,Tr.ob,ga,hc,hh,Bool.not_false,ocR,okM,Bool.false_and];exact⟨by simp[k1,(hk _ _ _).1],trivial⟩
theorem ue{d:Nat}{p:Plan}(h:okM (d+1) p=true):p.Kids.length<=2/\∀x∈p.Kids,okM d x=true:=by
 simp only[okM,Bool.and_eq_true,List.all_eq_true]at h;exact⟨rm h.1,h.2⟩
theorem sm(p:Plan):bf p/\Ze p=okM 4 p:=by
 obtain⟨h1,h2⟩:=dv 4 xa (by decide) (by decide) p;simp only[bf,Ze,Vi,Tr.val,Tr.ob,ga,fb,ocR];exact⟨⟨⟨h1,trivial⟩,trivial⟩,h2⟩
theorem fv(p:Plan):sj p/\rj p=okM 4 p:=by
 obtain⟨h1,h2⟩:=ev 4 xa (by decide) (by decide) p;simp only[sj,rj,qj,Tr.val,Tr.ob,ga,fb,ocR];exact⟨⟨⟨h1,trivial⟩,trivial⟩,h2⟩
def smM:Nat->Plan->Bool
 |0,_=>false
 |d+1,p=>decide (p.Kids.length<=2)&&p.Kids.all (smM d)
theorem iB{d:Nat}{p:Plan}(h:smM (d+1) p=true):p.Kids.length<=2/\∀x∈p.Kids,smM d x=true:=by
 simp only[smM,Bool.and_eq_true,List.all_eq_true,decide_eq_true_eq]at h;exact h
theorem En:∀ {d:Nat}{p:Plan},okM d p=true->smM d p=true
 |0,_,h=>by cases h
 |d+1,p,h=>by
  obtain⟨h1,h2⟩:=ue h;simp only[smM,Bool.and_eq_true,List.all_eq_true,decide_eq_true_eq];exact⟨h1,λx hx=>En (h2 x hx)⟩
theorem jB:∀(d n:Nat),d<=n->∀p:Plan,smM d p=true->(Cb n).2 p p/\(Cb n).1 p p=true:=by
 intro d
 induction d with
 |zero=>intro n _ p h;cases h
 |succ d ih=>
  intro n hn p hp;obtain⟨m,rfl⟩ : ∃m,n=m+1:=⟨n - 1,by omega⟩;obtain⟨hlen,hk⟩:=iB hp
  have k:Ub (λs:Int=>Mj (Cb m).1 (Cb m).2 p.Kind p.Num p.Kids p.Kind p.Num p.Kids s) 0 (.x ()):=by
   refine Ma.fold p.Kids (λi (_:Unit)=>(i:Int)) (λ_=>()) rfl (λl x r hx=>?_) ?_
   .obtain⟨hlen2,hl,hi,hj⟩:=lg (t:=.plan) hx;obtain⟨i1,i2⟩:=ih m (by omega) x (hk x (by rw[hx];simp));simp only[Mj,Tr.val,Tr.ob,ga,hj,hl,fb,i2,Bool.not_true,Hd (l:=l) (by omega)];exact⟨by simp[hi,i1],rfl⟩
   .have hh:cmp .lss (p.Kids.length:Int) (da .plan p.Kids)=false:=kg (t:=.plan);simp only[Mj,Tr.val,Tr.ob,ga,hh];exact⟨by simp,rfl⟩
  have a2:(Lg (Cb m).1 (Cb m).2 p.Kind p.Num p.Kids p.Kind p.Num p.Kids).o=.x ():=k.v;have b2:(Lg (Cb m).1 (Cb m).2 p.Kind p.Num p.Kids p.Kind p.Num p.Kids).ob:=k.t;have hc:cond (cond (cmp .neq p.Kind p.Kind) true (cmp .neq p.Num p.Num)) true (cmp .neq (da .plan p.Kids) (da .plan p.Kids))=false:=by simp[im]
  simp only[Cb,xf,Nj,xq,pcT,Tr.val,Tr.ob,hc,a2,ocR];exact⟨by simp[b2],trivial⟩
theorem Gn{p:Plan}(h:smM 4 p=true):Ng p p/\Mg p p=true:=jB 4 xa (by decide) p h
def bl(s:ByteArray):List UInt8:=s.data.toList
def mkB(l:List UInt8):ByteArray:=⟨l.toArray⟩
@[simp] theorem Nd (l:List UInt8):bl (mkB l)=l:=rfl
@[simp] theorem sc (l:List UInt8):bl (bs l)=l:=rfl
@[simp] theorem Cf (s:ByteArray):mkB (bl s)=s:=by cases s;rfl
theorem Tc{a b:ByteArray}(h:bl a=bl b):a=b:=by rw[<-Cf a,<-Cf b,h]
@[simp] theorem Hb (a b:ByteArray):bl (a++b)=bl a++bl b:=by
  show(a++b).data.toList=_;rw[ByteArray.data_append,Array.toList_append];rfl
@[simp] theorem Cr:bl ByteArray.empty=[]:=rfl
theorem ab(s:ByteArray):ca s=((bl s).length:Int):=by show((s.data.size:Nat):Int)=_;rw[<-Array.length_toList];rfl
theorem nn(s:ByteArray):s.toList=bl s:=Lib.toList_data s
theorem rA{a b:ByteArray}:seq a b=true↔a=b:=by
 unfold seq;rw[nn,nn,beq_iff_eq];exact⟨Tc,λh=>by rw[h]⟩
theorem Ae(a b:ByteArray):seq a b=decide (a=b):=by
 rw[Bool.eq_iff_iff,rA,decide_eq_true_eq]
theorem qn(s:ByteArray)(i:Int):Qb s i=(((bl s).getD i.toNat 0).toNat:Int):=by unfold Qb;rw[nn]
theorem jh(s:ByteArray)(i j:Int):bl (za s i j)=((bl s).take j.toNat).drop i.toNat:=by
 show(s.extract i.toNat j.toNat).data.toList=_;rw[ByteArray.data_extract,Array.toList_extract,List.drop_take];rfl
theorem rn(a b c:ByteArray):a++b++c=a++(b++c):=Tc (by simp)
theorem Dr(a:ByteArray):a++ByteArray.empty=a:=Tc (by simp)
def spl(c:UInt8):List UInt8->List (List UInt8)
 |[]=>[[]]
 |x::r=>if x=c then []::spl c r else match spl c r with
  |h::t=>(x::h)::t
  |[]=>[[x]]
theorem Uc(c x:UInt8)(r:List UInt8):spl c (x::r)=if x=c then []::spl c r else match spl c r with
 |h::t=>(x::h)::t
 |[]=>[[x]]:=rfl
theorem tn(c:UInt8):∀l,spl c l≠[]
 |[]=>by simp[spl]
 |x::r=>by
  unfold spl;split
  .simp
  .split<;>simp
theorem Er{c:UInt8}:∀ {l:List UInt8},c ∉ l->spl c l=[l]
 |[],_=>rfl
 |x::r,h=>by
  simp only[List.mem_cons,not_or]at h;rw[Uc,if_neg (λe=>h.1 e.symm),Er h.2]
theorem Be{c:UInt8}:∀ {l r:List UInt8},c ∉ l->spl c (l++c::r)=l::spl c r
 |[],r,_=>by simp[spl]
 |x::l,r,h=>by
  simp only[List.mem_cons,not_or]at h;rw[List.cons_append,Uc,if_neg (λe=>h.1 e.symm),Be h.2]
theorem Gr(c:UInt8):∀l,spl c (l++[c])=spl c l++[[]]
 |[]=>by simp[spl]
 |x::r=>by
  rw[List.cons_append,Uc,Uc,Gr c r];split
  .simp
  .cases h:spl c r with
   |nil=>exact absurd h (tn c r)
   |cons a t=>simp
theorem tk{c x:UInt8}(hx:x≠c):∀ {l:List UInt8}{A:List (List UInt8)}{b:List UInt8},spl c l=A++[b]->spl c (l++[x])=A++[b++[x]]
 |[],A,b,h=>by
  have h : [[]]=A++[b]:=h;cases A with
  |nil=>simp at h;subst h;simp[spl,hx]
  |cons a t=>simp at h
 |y::r,A,b,h=>by
  rw[List.cons_append,Uc];rw[Uc]at h;split
  .rename_i hy;rw[if_pos hy]at h;cases A with
   |nil=>simp at h;exact absurd h.2 (tn c r)
   |cons a t=>
    simp only[List.cons_append,List.cons.injEq]at h;rw[tk hx h.2,h.1];rfl
  .rename_i hy;rw[if_neg hy]at h;cases hr:spl c r with
   |nil=>exact absurd hr (tn c r)
   |cons a t=>
    rw[hr]at h;cases A with
    |nil=>
     simp only[List.nil_append,List.cons.injEq]at h;obtain⟨rfl,rfl⟩:=h;rw[tk hx (A:=[]) (b:=a) (by rw[hr];rfl)];simp
    |cons a' t'=>
     simp only[List.cons_append,List.cons.injEq]at h;obtain⟨rfl,rfl⟩:=h;rw[tk hx (A:=a::t') (b:=b) (by rw[hr];rfl)];simp
theorem uk(c:UInt8):∀l,(spl c l).length<=l.length+1
 |[]=>Nat.le_refl _
 |x::r=>by
  have:=uk c r;unfold spl;split
  .simp;exact this
  .split
   .rename_i h;rw[h]at this;simp at this⊢;omega
   .simp
theorem un(c:UInt8):∀l:List UInt8,(Lib.indexByte l c=-1/\l.count c=0/\spl c l=[l])\/∃i:Nat,Lib.indexByte l c=i/\i<l.length/\l.count c=(l.drop (i+1)).count c+1/\spl c l=l.take i::spl c (l.drop (i+1))
 |[]=>.inl ⟨rfl,rfl,rfl⟩
 |x::r=>by
  by_cases hx:x=c
  .subst hx;refine .inr ⟨0,?_,by simp,?_,?_⟩
   .simp[Lib.indexByte]
   .simp
   .simp[spl]
  .have hc:(x::r).count c=r.count c:=by rw[List.count_cons];simp[hx]
   rcases un c r with⟨h1,h2,h3⟩|⟨i,h1,h2,h3,h4⟩
   .refine .inl ⟨?_,by rw[hc];exact h2,?_⟩
    .simp[Lib.indexByte,hx,h1]
    .rw[Uc,if_neg hx,h3]
   .refine .inr ⟨i+1,?_,by simp;omega,by rw[hc];exact h3,?_⟩
    .simp only[Lib.indexByte,h1];simp[hx]
    .rw[Uc,if_neg hx,h4];simp
theorem Hr(c:UInt8):∀(n:Nat) (l:List UInt8),l.count c=n->Lib.splitK [c] 0 n l=spl c l
 |0,l,h=>by
  rcases un c l with⟨_,_,h3⟩|⟨i,_,_,h3,_⟩
  .rw[h3];rfl
  .omega
 |n+1,l,h=>by
  rcases un c l with⟨_,h2,_⟩|⟨i,h1,_,h3,h4⟩
  .omega
  .unfold Lib.splitK;rw[Lib.index_one,h1,if_neg (by simp),h4];simp only[Int.toNat_natCast,Nat.add_zero,List.length_singleton];rw[Hr c n _ (by omega)]
theorem sA(s:ByteArray)(c:UInt8):ze s (bs [c])=(spl c (bl s)).map mkB:=by
 unfold ze;have h:=Lib.splitB_data (bs [c]) 0 (Lib.countB s (bs [c])) s;have hc:Lib.countB s (bs [c])=(bl s).count c:=by show Lib.count (bl s) [c]=_;exact Lib.count_one _ _
 rw[show(bs [c]).data.toList=[c] from rfl,show s.data.toList=bl s from rfl,Hr c _ _ hc.symm]at h;rw[show spl c (bl s)=_ from h.symm,List.map_map];have:(mkB ∘ λ(x:ByteArray)=>x.data.toList)=id:=funext λx=>Cf x;rw[this,List.map_id]
theorem split_ok{s:ByteArray}(c:UInt8)(h:(bl s).length<4294967281):ln s (bs [c])/\ze s (bs [c])=(spl c (bl s)).map mkB:=⟨⟨rfl,by have:=ab s;unfold ca at this;omega⟩,sA s c⟩
theorem Ir{n:Int}(h:0<=n/\n<10):Ec n=bs [UInt8.ofNat (48+n.toNat)]:=by
 unfold Ec Lib.itoa;rw[if_neg (by omega)];unfold Lib.decDigits;rw[dif_pos (by omega)]
theorem tA{n:Int}(h:0<=n/\n<10):gh n:=⟨h.1,by omega⟩
def dig(n:Int):ByteArray:=bs [UInt8.ofNat (48+n.toNat)]
def nameB(k n:Int):ByteArray:=if k=1 then bs [105,110]++dig n else if k=2 then bs [101,97,99,104]++dig n else if k=3 then bs [98,111,116,104] else if k=4 then bs [108,101,115,115] else if k=5 then bs [106,111,105,110] else bs [115,117,109]++dig n
def Wa:List (Int×Int):=[(1,0),(1,1),(2,1),(2,2),(2,3),(2,4),(2,5),(2,6),(2,7),(3,0),(4,0),(5,0),(6,1),(6,2),(6,3)]
theorem Jr{k n:Int}(h0:0<=(kd k).1)(h1:(kd k).2.1<=n)(h2:n<=(kd k).2.2):(k,n)∈Wa:=by
 rcases pm k with rfl|rfl|rfl|rfl|rfl|rfl|⟨g1,g2,g3,g4,g5,g6⟩
 .have h1:0<=n:=h1;have h2:n<=1:=h2;rcases (show n=0\/n=1 by omega) with rfl|rfl<;>decide
 .have h1:1<=n:=h1;have h2:n<=7:=h2;rcases (show n=1\/n=2\/n=3\/n=4\/n=5\/n=6\/n=7 by omega) with rfl|rfl|rfl|rfl|rfl|rfl|rfl<;>decide
 .have h1:0<=n:=h1;have h2:n<=0:=h2;obtain rfl:n=0:=by omega
  decide
 .have h1:0<=n:=h1;have h2:n<=0:=h2;obtain rfl:n=0:=by omega
  decide
 .have h1:0<=n:=h1;have h2:n<=0:=h2;obtain rfl:n=0:=by omega
  decide
 .have h1:1<=n:=h1;have h2:n<=3:=h2;rcases (show n=1\/n=2\/n=3 by omega) with rfl|rfl|rfl<;>decide
 .exfalso
  unfold kd at h0;rw[if_neg g1,if_neg g2,if_neg (by omega),if_neg g4,if_neg g6]at h0;simp at h0
theorem kh:∀h∈Wa,0<=(kd h.1).1/\(kd h.1).2.1<=h.2/\h.2<=(kd h.1).2.2/\0<=h.2/\h.2<10:=by decide
theorem Vc{p:Plan}(h:Va p=true):(p.Kind,p.Num)∈Wa:=by
 simp only[Va,decide_eq_true_eq]at h;exact Jr (by omega) h.2.1 h.2.2
theorem vk:∀h∈Wa,32 ∉ bl (nameB h.1 h.2)/\0<(bl (nameB h.1 h.2)).length/\(bl (nameB h.1 h.2)).length<=5:=by decide +kernel
theorem Kr{p:Plan}(h:0<=p.Num/\p.Num<10):sg p/\cf p=nameB p.Kind p.Num:=by
 have hd:Ec p.Num=dig p.Num:=Ir h;have hp:=tA h
 have hl:∀l:List UInt8,l.length<=10->lim (ca (bs l)) (ca (dig p.Num)):=λl h=>by
  unfold lim;rw[ab,ab,sc];show(l.length:Int)+((1:Nat):Int)<=_;omega
 have h1:=hl [105,110] (by decide);have h2:=hl [101,97,99,104] (by decide);have h3:=hl [115,117,109] (by decide);simp only[sg,cf,Wi,Tr.val,Tr.ob,ga,Fd,hd,nameB];by_cases e1:p.Kind=1
 .simp[e1,hp,h1,ocR]
 .by_cases e2:p.Kind=2
  .simp[e2,hp,h2,ocR]
  .by_cases e3:p.Kind=3
   .simp[e3,ocR]
   .by_cases e4:p.Kind=4
    .simp[e4,ocR]
    .by_cases e5:p.Kind=5
     .simp[e5,ocR]
     .simp[e1,e2,e3,e4,e5,hp,h3,ocR]
def Ra:Nat->Plan->List ByteArray
 |0,_=>[]
 |d+1,p=>nameB p.Kind p.Num::p.Kids.flatMap (Ra d)
def jc(l:List ByteArray):ByteArray:=l.foldl (·++·) ByteArray.empty
theorem Lr:∀(l:List ByteArray) (a:ByteArray),bl (l.foldl (·++·) a)=bl a++l.flatMap bl
 |[],a=>by simp
 |x::r,a=>by rw[List.foldl_cons,Lr,Hb,List.flatMap_cons,List.append_assoc]
theorem vn(l:List ByteArray):bl (jc l)=l.flatMap bl:=by unfold jc;rw[Lr];rfl
def ia:Nat->Plan->ByteArray
 |0,_=>ByteArray.empty
 |d+1,p=>nameB p.Kind p.Num++jc (p.Kids.map λk=>bs [32]++ia d k)
def sz:Nat->Nat
 |0=>0
 |d+1=>5+2*(1+sz d)
theorem wn{d:Nat}:∀ {l:List Plan},(∀x∈l,(bl (ia d x)).length<=sz d)->((l.map λk=>bs [32]++ia d k).flatMap bl).length<=l.length*(1+sz d)
 |[],_=>by simp
 |a::r,h=>by
  have h1:=h a (by simp);have h2:=wn (l:=r) (λx hx=>h x (by simp[hx]));simp only[List.map_cons,List.flatMap_cons,List.length_append,Hb,List.length_cons,sc,List.length_nil];rw[Nat.add_mul];omega
theorem Ce:∀ {d:Nat}{p:Plan},okM d p=true->(bl (ia d p)).length<=sz d/\0<(bl (ia d p)).length
 |0,_,h=>by cases h
 |d+1,p,h=>by
  obtain⟨hlen,hk⟩:=ue h;have hr:Va p=true:=by simp only[okM,Bool.and_eq_true]at h;exact h.1
  obtain⟨_,n1,n2⟩:=vk _ (Vc hr);have ih:∀x∈p.Kids,(bl (ia d x)).length<=sz d:=λx hx=>(Ce (hk x hx)).1;simp only[ia,Hb,List.length_append,vn];have:=wn ih;have h2:p.Kids.length*(1+sz d)<=2*(1+sz d):=Nat.mul_le_mul_right _ hlen;show _<=5+2*(1+sz d)/\_;simp only[]at n1 n2;constructor<;>omega
theorem Mr{d:Nat}(ih:∀p:Plan,okM d p=true->∀r,spl 32 (bl (ia d p)++32::r)=(Ra d p).map bl++spl 32 r)(ih2:∀p:Plan,okM d p=true->spl 32 (bl (ia d p))=(Ra d p).map bl) :
  ∀ (ks:List Plan),(∀x∈ks,okM d x=true)->∀nm:List UInt8,32 ∉ nm ->
    (∀r,spl 32 (nm++(ks.map λk=>bs [32]++ia d k).flatMap bl++32::r)=nm::(ks.flatMap (Ra d)).map bl++spl 32 r)/\spl 32 (nm++(ks.map λk=>bs [32]++ia d k).flatMap bl)=nm::(ks.flatMap (Ra d)).map bl
 |[],_,nm,hn=>⟨λr=>by simp[Be hn],by simp[Er hn]⟩
 |a::ks,hk,nm,hn=>by
  have ha:=hk a (by simp);have hh:∀x∈ks,okM d x=true:=λx hx=>hk x (by simp[hx]);have key:∀q,(∀r',spl 32 (bl (ia d a)++(ks.map λk=>bs [32]++ia d k).flatMap bl++q)=r'->spl 32 (nm++(32::(bl (ia d a)++(ks.map λk=>bs [32]++ia d k).flatMap bl++q))) =nm::r'):=λq r' h=>by rw[Be hn,h]
  have body:(∀r,spl 32 (bl (ia d a)++(ks.map λk=>bs [32]++ia d k).flatMap bl++32::r)=(Ra d a).map bl++(ks.flatMap (Ra d)).map bl++spl 32 r)/\spl 32 (bl (ia d a)++(ks.map λk=>bs [32]++ia d k).flatMap bl)=(Ra d a).map bl++(ks.flatMap (Ra d)).map bl:=by
   cases ks with
   |nil=>exact⟨λr=>by simp[ih a ha],by simp[ih2 a ha]⟩
   |cons b ks'=>
    obtain⟨h1,h2⟩:=Mr ih ih2 (b::ks') hh [] (by simp);simp only[List.map_cons,List.flatMap_cons,Hb,sc,List.nil_append,List.cons_append,List.append_assoc]at h1 h2⊢;constructor
    .intro r;have:=h1 r;rw[show(32:UInt8)::(bl (ia d b)++((ks'.map λk=>bs [32]++ia d k).flatMap bl++32::r))=[]++32::(bl (ia d b)++((ks'.map λk=>bs [32]++ia d k).flatMap bl++32::r)) from rfl,Be (by simp)]at this;rw[ih a ha];simp only[List.cons.injEq,true_and]at this;rw[this]
    .rw[show(32:UInt8)::(bl (ia d b)++(ks'.map λk=>bs [32]++ia d k).flatMap bl)=[]++32::(bl (ia d b)++(ks'.map λk=>bs [32]++ia d k).flatMap bl) from rfl,Be (by simp)]at h2;rw[ih a ha];simp only[List.cons.injEq,true_and]at h2;rw[h2]
  simp only[List.map_cons,List.flatMap_cons,Hb,sc,List.cons_append,List.nil_append,List.append_assoc,List.map_append]at body key⊢;exact⟨λr=>by rw[Be hn,body.1 r],by rw[Be hn,body.2]⟩
theorem xn:∀(d:Nat) (p:Plan),okM d p=true->(∀r,spl 32 (bl (ia d p)++32::r)=(Ra d p).map bl++spl 32 r)/\spl 32 (bl (ia d p))=(Ra d p).map bl
 |0,_,h=>by cases h
 |d+1,p,h=>by
  obtain⟨_,hk⟩:=ue h;have hr:Va p=true:=by simp only[okM,Bool.and_eq_true]at h;exact h.1
  obtain⟨n0,_,_⟩:=vk _ (Vc hr);obtain⟨h1,h2⟩:=Mr (d:=d) (λp h=>(xn d p h).1) (λp h=>(xn d p h).2) p.Kids hk _ n0;simp only[ia,Ra,Hb,vn,List.map_cons];exact⟨λr=>h1 r,h2⟩
theorem lh{p:Plan}{d:Nat}(h:okM d p=true):(spl 32 (bl (ia d p))).map mkB=Ra d p:=by
 rw[(xn d p h).2,List.map_map];have:(mkB ∘ bl)=id:=funext Cf;rw[this,List.map_id]
theorem Nr(l:List ByteArray)(x:ByteArray):jc (l++[x])=jc l++x:=by unfold jc;rw[List.foldl_append];rfl
theorem Pr{d:Nat}{l:List Plan}(h:∀x∈l,okM d x=true):(bl (jc (l.map λk=>bs [32]++ia d k))).length<=l.length*(1+sz d):=by
 rw[vn];exact wn λx hx=>(Ce (h x hx)).1
theorem uA:∀(d n:Nat),d<=n->d<=4->∀p:Plan,okM d p=true->(Bb n).2 p/\(Bb n).1 p=ia d p:=by
 intro d
 induction d with
 |zero=>intro n _ _ p h;cases h
 |succ d ih=>
  intro n hn hd p hp;obtain⟨m,rfl⟩ : ∃m,n=m+1:=⟨n - 1,by omega⟩;obtain⟨hlen,hk⟩:=ue hp;have hr:Va p=true:=by simp only[okM,Bool.and_eq_true]at hp;exact hp.1
  obtain⟨_,_,_,q1,q2⟩:=kh _ (Vc hr);obtain⟨n1,n2⟩:=Kr (p:=p) ⟨q1,q2⟩;have n3:(bl (nameB p.Kind p.Num)).length<=5:=(vk _ (Vc hr)).2.2
  have hs:sz d<=2000:=by
   rcases (show d=0\/d=1\/d=2\/d=3 by omega) with rfl|rfl|rfl|rfl<;>decide
  have k:Ub (λs:ByteArray×Int=>aj (Bb m).1 (Bb m).2 (nameB p.Kind p.Num) p.Kids (da .plan p.Kids) s.1 s.2) (nameB p.Kind p.Num,0) (.x (ia (d+1) p)):=by
   refine Ma.fold p.Kids (λi b=>(b,(i:Int))) (λl=>nameB p.Kind p.Num++jc (l.map λk=>bs [32]++ia d k)) (by show(nameB p.Kind p.Num++ByteArray.empty,_)=_;rw[Dr];rfl) (λl x r hx=>?_) ?_
   .obtain⟨hlen2,ho,hi,hm⟩:=lg (t:=.plan) hx;obtain⟨i1,i2⟩:=ih m (by omega) (by omega) x (hk x (by rw[hx];simp));have hx1:=(Ce (hk x (by rw[hx];simp))).1
    have hj:lim (ca (bs [32])) (ca (ia d x)):=by
     unfold lim;rw[ab,ab,sc];show((1:Nat):Int)+_<=_;omega
    have hl:lim (ca (nameB p.Kind p.Num++jc (l.map λk=>bs [32]++ia d k))) (ca (bs [32]++ia d x)):=by
     have hc:=Pr (d:=d) (l:=l) (λy hy=>hk y (by rw[hx];simp[hy]));have:l.length*(1+sz d)<=2*2001:=Nat.mul_le_mul (by omega) (by omega);unfold lim;simp only[ab,Hb,sc,List.length_append,List.length_cons,List.length_nil];omega
    simp only[aj,Tr.val,Tr.ob,ga,hm,ho,fb,i2,Hd (l:=l) (by omega),List.map_append,List.map_cons,List.map_nil,Nr,<-rn];rw[rn _ (bs [32])];exact⟨by simp[hi,i1,hj,hl],rfl⟩
   .have hh:cmp .lss (p.Kids.length:Int) (da .plan p.Kids)=false:=kg (t:=.plan);simp only[aj,Tr.val,Tr.ob,ga,hh];exact⟨by simp,rfl⟩
  have a2:(ug (Bb m).1 (Bb m).2 (nameB p.Kind p.Num) p.Kids (da .plan p.Kids)).o=.x (ia (d+1) p):=k.v;have b2:(ug (Bb m).1 (Bb m).2 (nameB p.Kind p.Num) p.Kids (da .plan p.Kids)).ob:=k.t;simp only[Bb,ef,bj,Sp,pcT,Tr.val,Tr.ob,ga,fb,n2,a2,ocR];exact⟨by simp[b2,n1],trivial⟩
def Ta(p:Plan):ByteArray:=if okM 4 p=true then ia 4 p else ByteArray.empty
theorem yn(p:Plan):jf p/\ff p=Ta p:=by
 obtain⟨h1,h2⟩:=sm p;simp only[jf,ff,cj,Tr.val,Tr.ob,ga,fb,h2,Ta];cases h:okM 4 p with
 |false=>exact⟨by simp[h1],rfl⟩
 |true=>
  obtain⟨t1,t2⟩:=uA 4 xa (by decide) (Nat.le_refl _) p h;have t1:Dm p:=t1;have t2:Cm p=ia 4 p:=t2;simp only[Bool.not_true,ocR,t2];exact⟨by simp[h1,t1],by simp⟩
theorem vA{n:Int}(h:0<=n/\n<10):zg n/\mf n=dig n:=by
 have e1:cmp .lss n (-9223372036854775807)=false:=by rw[Ha];simp;omega
 have e2:cmp .lss n 0=false:=by rw[Ha];simp;omega
 have e3:cmp .lss n 10=true:=by rw[Ha];simp;omega
 have e4:ed [IntKind.wrap .u8 (ar .add .i64 48 n)]=dig n:=by
  rw[Ab (by omega)];rcases (show n=0\/n=1\/n=2\/n=3\/n=4\/n=5\/n=6\/n=7\/n=8\/n=9 by omega) with rfl|rfl|rfl|rfl|rfl|rfl|rfl|rfl|rfl|rfl<;>rfl
 have key:∀m,(pb (m+1)).2 n/\(pb (m+1)).1 n=dig n:=λm=>by
  simp only[pb,Rc,Tr.val,Tr.ob,ga,e1,e2,e3,e4,ocR];exact⟨by simp,trivial⟩
 exact key 2097199
theorem wA{k n:Int}(h:(k,n)∈Wa)(T:List ByteArray)(hT:T=[ByteArray.empty,bs [105,110],bs [101,97,99,104],bs [98,111,116,104],bs [108,101,115,115],bs [106,111,105,110],bs [115,117,109]]) :
  inb k (da .str T)/\(bl (rd .str T k)).length<=4/\(if 0<(kd k).2.2 then rd .str T k++dig n else rd .str T k)=nameB k n:=by
 subst hT
 have key:∀h∈Wa,(0<=h.1/\h.1<7)/\(bl (rd .str [ByteArray.empty,bs [105,110],bs [101,97,99,104],bs [98,111,116,104],bs [108,101,115,115],bs [106,111,105,110],bs [115,117,109]] h.1)).length<=4 /\
  bl (if 0<(kd h.1).2.2 then rd .str [ByteArray.empty,bs [105,110],bs [101,97,99,104],bs [98,111,116,104],bs [108,101,115,115],bs [106,111,105,110],bs [115,117,109]] h.1++dig h.2 else rd .str [ByteArray.empty,bs [105,110],bs [101,97,99,104],bs [98,111,116,104],bs [108,101,115,115],bs [106,111,105,110],bs [115,117,109]] h.1)=bl (nameB h.1 h.2):=by decide +kernel
 obtain⟨h1,h2,h3⟩:=key _ h;exact⟨h1,h2,Tc h3⟩
theorem xA:∀(d n:Nat),d<=n->d<=4->∀p:Plan,okM d p=true->(Za n).2 p/\(Za n).1 p=ia d p:=by
 intro d
 induction d with
 |zero=>intro n _ _ p h;cases h
 |succ d ih=>
  intro n hn hd p hp;obtain⟨m,rfl⟩ : ∃m,n=m+1:=⟨n - 1,by omega⟩;obtain⟨hlen,hk⟩:=ue hp;have hr:Va p=true:=by simp only[okM,Bool.and_eq_true]at hp;exact hp.1
  obtain⟨_,_,_,q1,q2⟩:=kh _ (Vc hr);obtain⟨d1,d2⟩:=vA (n:=p.Num) ⟨q1,q2⟩;obtain⟨l1,l2⟩:=zi p.Kind;have n3:(bl (nameB p.Kind p.Num)).length<=5:=(vk _ (Vc hr)).2.2
  have hs:sz d<=2000:=by
   rcases (show d=0\/d=1\/d=2\/d=3 by omega) with rfl|rfl|rfl|rfl<;>decide
  generalize hT : [ByteArray.empty,bs [105,110],bs [101,97,99,104],bs [98,111,116,104],bs [108,101,115,115],bs [106,111,105,110],bs [115,117,109]]=T;obtain⟨s1,s2,s3⟩:=wA (Vc hr) T hT.symm
  have hi:(wj (Za m).1 (Za m).2 p.Kind p.Num p.Kids (rd .str T p.Kind) (kd p.Kind).2.2).ob/\(wj (Za m).1 (Za m).2 p.Kind p.Num p.Kids (rd .str T p.Kind) (kd p.Kind).2.2).val=.n (nameB p.Kind p.Num):=by
   simp only[wj,Tr.val,Tr.ob,ga,Tb,d2];rw[<-s3];by_cases hg:0<(kd p.Kind).2.2
   .have hl:lim (ca (rd .str T p.Kind)) (ca (dig p.Num)):=by
     unfold lim;rw[ab,ab];show _+((1:Nat):Int)<=_;omega
    simp[hg,d1,hl]
   .simp[hg]
  have k:Ub (λs:ByteArray×Int=>yj (Za m).1 (Za m).2 p.Kind p.Num p.Kids (nameB p.Kind p.Num) s.1 s.2) (nameB p.Kind p.Num,0) (.x (ia (d+1) p)):=by
   refine Ma.fold p.Kids (λi b=>(b,(i:Int))) (λl=>nameB p.Kind p.Num++jc (l.map λk=>bs [32]++ia d k)) (by show(nameB p.Kind p.Num++ByteArray.empty,_)=_;rw[Dr];rfl) (λl x r hx=>?_) ?_
   .obtain⟨hlen2,ht,hj,hq⟩:=lg (t:=.plan) hx;obtain⟨i1,i2⟩:=ih m (by omega) (by omega) x (hk x (by rw[hx];simp));have hx1:=(Ce (hk x (by rw[hx];simp))).1;have hc:=Pr (d:=d) (l:=l) (λy hy=>hk y (by rw[hx];simp[hy]));have:l.length*(1+sz d)<=2*2001:=Nat.mul_le_mul (by omega) (by omega)
    have hm:lim (ca (nameB p.Kind p.Num++jc (l.map λk=>bs [32]++ia d k))) (ca (bs [32])):=by
     unfold lim;simp only[ab,Hb,sc,List.length_append,List.length_cons,List.length_nil];omega
    have ho:lim (ca (nameB p.Kind p.Num++jc (l.map λk=>bs [32]++ia d k)++bs [32])) (ca (ia d x)):=by
     unfold lim;simp only[ab,Hb,sc,List.length_append,List.length_cons,List.length_nil];omega
    simp only[yj,Tr.val,Tr.ob,ga,hq,ht,fb,i2,Hd (l:=l) (by omega),List.map_append,List.map_cons,List.map_nil,Nr,<-rn];exact⟨by simp[hj,i1,hm,ho],rfl⟩
   .have hh:cmp .lss (p.Kids.length:Int) (da .plan p.Kids)=false:=kg (t:=.plan);simp only[yj,Tr.val,Tr.ob,ga,hh];exact⟨by simp,rfl⟩
  have a3:(Bg (Za m).1 (Za m).2 p.Kind p.Num p.Kids (nameB p.Kind p.Num)).o=.x (ia (d+1) p):=k.v;have b3:(Bg (Za m).1 (Za m).2 p.Kind p.Num p.Kids (nameB p.Kind p.Num)).ob:=k.t;simp only[Za,qf,xj,zj,jq,pcT,Tr.val,Tr.ob,ga,hT,l2,hi.2,a3,ocR];exact⟨by simp[b3,s1,l1,hi.1],trivial⟩
theorem zn(p:Plan):we p/\tf p=Ta p:=by
 obtain⟨h1,h2⟩:=fv p;simp only[we,tf,Aj,Tr.val,Tr.ob,ga,fb,h2,Ta];cases h:okM 4 p with
 |false=>exact⟨by simp[h1],rfl⟩
 |true=>
  obtain⟨t1,t2⟩:=xA 4 xa (by decide) (Nat.le_refl _) p h;have t1:Lm p:=t1;have t2:Km p=ia 4 p:=t2;simp only[Bool.not_true,ocR,t2];exact⟨by simp[h1,t1],by simp⟩
theorem Qr(A B:Prop)[Decidable A][Decidable B]:cond (decide A) true (decide B)=decide (A\/B):=by
 by_cases a:A<;>simp[a]
def itB(n:Int):ByteArray:=mkB (Lib.itoa n)
theorem Bn:∀ {L u:Nat},1<=L->u<10 ^ L->(Lib.decDigits u).length<=L
 |0,_,h,_=>by omega
 |L+1,u,_,h=>by
  unfold Lib.decDigits;split
  .simp
  .rename_i h10;rw[Nat.pow_succ]at h
   have h1:1<=L:=by
    rcases Nat.eq_zero_or_pos L with rfl|h
    .simp at h;omega
    .exact h
   have:=Bn h1 (u:=u / 10) (by omega);simp;omega
theorem Rr{n:Int}(h:0<=n/\n<10):ed [IntKind.wrap .u8 (ar .add .i64 48 n)]=mkB [UInt8.ofNat (48+n.toNat)]:=by
 rw[Ab (by omega)];rcases (show n=0\/n=1\/n=2\/n=3\/n=4\/n=5\/n=6\/n=7\/n=8\/n=9 by omega) with rfl|rfl|rfl|rfl|rfl|rfl|rfl|rfl|rfl|rfl<;>rfl
theorem Ur:∀(L m u:Nat),1<=L->L<=100->u<10 ^ L->u<=9223372036854775807->L<=m->(pb m).2 (u:Int)/\(pb m).1 (u:Int)=mkB (Lib.decDigits u):=by
 intro L
 induction L with
 |zero=>intro m u h;omega
 |succ L ih=>
  intro m u _ hL hu hh hm;obtain⟨k,rfl⟩ : ∃k,m=k+1:=⟨m - 1,by omega⟩;have e1:cmp .lss (u:Int) (-9223372036854775807)=false:=by rw[Ha];exact decide_eq_false (by omega)
  have e2:cmp .lss (u:Int) 0=false:=by rw[Ha];exact decide_eq_false (by omega)
  have hm:(u:Int).tmod 10=((u % 10:Nat):Int):=by rw[Int.tmod_eq_emod_of_nonneg (by omega)];rfl
  have hq:ar .quo .i64 (u:Int) 10=((u / 10:Nat):Int):=by rw[lm (by omega)];rfl
  by_cases h10:u<10
  .have e3:cmp .lss (u:Int) 10=true:=by rw[Ha];exact decide_eq_true (by omega)
   have e4:=Rr (n:=(u:Int)) (by omega);simp only[pb,Rc,Tr.val,Tr.ob,ga,e1,e2,e3,e4,ocR];refine⟨by simp,?_⟩;unfold Lib.decDigits;rw[dif_pos h10];rfl
  .have e3:cmp .lss (u:Int) 10=false:=by rw[Ha];exact decide_eq_false (by omega)
   rw[Nat.pow_succ]at hu
   have h1:1<=L:=by
    rcases Nat.eq_zero_or_pos L with rfl|h
    .simp at hu;omega
    .exact h
   obtain⟨i1,i2⟩:=ih k (u / 10) h1 (by omega) (by omega) (by omega) (by omega);have hlen:=Bn h1 (u:=u / 10) (by omega);have e4:ed [IntKind.wrap .u8 (ar .add .i64 48 ((u % 10:Nat):Int))]=mkB [UInt8.ofNat (48+u % 10)]:=Rr (n:=((u % 10:Nat):Int)) (by omega)
   have hl:lim (ca (mkB (Lib.decDigits (u / 10)))) (ca (mkB [UInt8.ofNat (48+u % 10)])):=by
    unfold lim;simp only[ab,Nd,List.length_cons,List.length_nil];omega
   simp only[pb,Rc,Tr.val,Tr.ob,ga,e1,e2,e3,hq,tp,hm,e4,i2,ocR];generalize ((u / 10:Nat):Int)=U at i1;generalize hW:mkB [UInt8.ofNat (48+u % 10)]=W at hl;refine⟨by simp[i1,hl],?_⟩
   conv=>rhs;rw[Lib.decDigits,dif_neg h10]
   rw[<-hW];apply Tc;simp only[Hb,Nd]
theorem yA{n:Int}(h : -9223372036854775807<=n/\n<=9223372036854775807):zg n/\mf n=itB n:=by
 by_cases h0:0<=n
 .obtain⟨u,rfl⟩ : ∃u:Nat,n=u:=⟨n.toNat,by omega⟩;obtain⟨h1,h2⟩:=Ur 19 xa u (by decide) (by decide) (by omega) (by omega) (by decide);refine⟨h1,h2.trans ?_⟩;unfold itB Lib.itoa;rw[if_neg (by omega)];rfl
 .have e1:cmp .lss n (-9223372036854775807)=false:=by rw[Ha];exact decide_eq_false (by omega)
  have e2:cmp .lss n 0=true:=by rw[Ha];exact decide_eq_true (by omega)
  obtain⟨u,hu⟩ : ∃u:Nat,-n=u:=⟨(-n).toNat,by omega⟩;have hw:IntKind.wrap .i64 (0 - n)=(u:Int):=by rw[IntWalk.i64_in _ (by omega)];omega
  have key:∀m,19<=m->(pb (m+1)).2 n/\(pb (m+1)).1 n=itB n:=λm hm=>by
   obtain⟨i1,i2⟩:=Ur 19 m u (by decide) (by decide) (by omega) (by omega) hm;have hlen:=Bn (L:=19) (by decide) (u:=u) (by omega)
   have hl:lim (ca (bs [45])) (ca (mkB (Lib.decDigits u))):=by
    unfold lim;simp only[ab,Nd,sc,List.length_cons,List.length_nil];omega
   simp only[pb,Rc,Tr.val,Tr.ob,ga,e1,e2,hw,i2,ocR];refine⟨by simp[i1,hl],?_⟩;unfold itB Lib.itoa;rw[if_pos (by omega),show n.natAbs=u by omega];apply Tc;simp
  exact key 2097199 (by decide)
theorem zA{n:Int}(h:0<=n/\n<10):itB n=dig n:=Ir h
def tc:List UInt8->Int->Option Int
 |[],n=>some n
 |x::r,n=>if x.toNat<48\/57<x.toNat then none else tc r (n*10+((x.toNat:Int) - 48))
def frm(l:List UInt8):Nat:=if 1<l.length/\l.head? = some 45 then 1 else 0
def sgn(l:List UInt8)(n:Int):Int:=if 0<frm l then -n else n
def Od(l:List UInt8):Int×Bool:=if l.length<1\/frm l+2<l.length then(0,false) else match tc (l.drop (frm l)) 0 with
  |none=>(0,false)
  |some n=>(sgn l n,decide (itB (sgn l n)=mkB l))
theorem Vr:∀(l:List UInt8) (n m:Int) (k:Nat),0<=n->n<10 ^ k->tc l n=some m->0<=m/\m<10 ^ (k+l.length)
 |[],n,m,k,h0,h1,h=>by cases h;exact⟨h0,h1⟩
 |x::r,n,m,k,h0,h1,h=>by
  unfold tc at h;split at h
  .cases h
  .rename_i hx;have:=Vr r _ m (k+1) (by omega) (by rw[Int.pow_succ];omega) h;rw[List.length_cons,show k+(r.length+1)=k+1+r.length by omega];exact this
theorem AA(s:ByteArray)(hs:(bl s).length<1000000000):Yg s/\Xg s=((Od (bl s)).1,(Od (bl s)).2,()):=by
 have hsz:=ab s;generalize hl:bl s=l at hsz hs
 have c1:(Xj s).ob/\(Xj s).val=.n (frm l:Int):=by
  simp only[Xj,Tr.val,Tr.ob,ga,hsz,Tb,Fd,qn,hl];by_cases h1:1<l.length
  .have hh:(1:Int)<(l.length:Int):=by omega
   have hr:inb 0 (l.length:Int):=⟨by omega,by omega⟩;cases l with
   |nil=>simp at h1
   |cons x r=>
    have e:(((List.getD (x::r) (Int.toNat 0) 0).toNat:Int)=45)↔x=45:=by
     show((x.toNat:Int)=45)↔x=45;constructor
     .intro h;have:x.toNat=45:=by omega
      exact UInt8.toNat_inj.1 (by rw[this];rfl)
     .rintro rfl;rfl
    by_cases hx:x=45
    .have hf:frm (x::r)=1:=if_pos ⟨h1,by rw[hx];rfl⟩;simp only[decide_eq_true (e.2 hx),decide_eq_true hh,Bool.and_true,cond_true,hf];exact⟨by simpa using hr,rfl⟩
    .have hf:frm (x::r)=0:=if_neg (by simp[hx]);simp only[decide_eq_false (mt e.1 hx),decide_eq_true hh,Bool.and_true,cond_true,hf];exact⟨by simpa using hr,rfl⟩
  .have hh:¬ (1:Int)<(l.length:Int):=by omega
   simp only[hh,decide_false,Bool.false_and,cond_false,frm];rw[if_neg (by simp[h1])];exact⟨by simp,rfl⟩
 have hf:frm l<=1:=by unfold frm;split<;>simp
 have hj:ar .add .i64 (frm l:Int) 2=((frm l+2:Nat):Int):=by rw[Ab (by omega)];rfl
 have hg:cond (cmp .lss (ca s) 1) true (cmp .gtr (ca s) (ar .add .i64 (frm l:Int) 2))=decide (l.length<1\/frm l+2<l.length):=by
  rw[hsz,hj,Ha,Tb,Qr];exact decide_eq_decide.2 (by omega)
 by_cases hbad:l.length<1\/frm l+2<l.length
 .simp only[Yg,Xg,Wg,Ug,pcT,Tr.val,Tr.ob,ga,c1.2,Oc.n.injEq,forall_eq',hg,hbad,decide_true,ocR,Od,if_true];exact⟨by simp[c1.1],trivial⟩
 .have k3:∃q,Ub (λs':Int×Int=>Yj s (frm l:Int) s'.1 s'.2) (0,(frm l:Int)) q/\q=(match tc (l.drop (frm l)) 0 with
    |none=>.r (0,(false,()))
    |some n=>.x n):=by
   refine Ma.list (l.drop (frm l)) (λi n=>(n,((frm l+i:Nat):Int))) (λa n=>tc (l.drop (frm l)) 0=tc ((l.drop (frm l)).drop a.length) n/\0<=n/\n<10 ^ a.length) (b0:=0) rfl ⟨rfl,by omega,by simp⟩ (λa x r n hx hI=>?_) (λn hI=>?_)
   .obtain⟨i1,i2,i3⟩:=hI;have hlen:=congrArg List.length hx;simp only[List.length_drop,List.length_append,List.length_cons]at hlen;have hr:inb ((frm l+a.length:Nat):Int) (l.length:Int):=⟨by omega,by omega⟩;have ht:inb ((frm l:Int)+(a.length:Int)) (l.length:Int):=⟨by omega,by omega⟩;have hu:cmp .lss ((frm l+a.length:Nat):Int) (ca s)=true:=by rw[hsz,Ha];exact decide_eq_true (by omega)
    have he:Qb s ((frm l+a.length:Nat):Int)=(x.toNat:Int):=by
     rw[qn,hl,Int.toNat_natCast,List.getD_eq_getElem?_getD];have:(l.drop (frm l))[a.length]? = some x:=by rw[hx];simp
     rw[List.getElem?_drop]at this;rw[this];rfl
    have hk:(l.drop (frm l)).drop a.length=x::r:=by rw[hx];simp
    have hm:(l.drop (frm l)).drop (a++[x]).length=r:=by rw[hx];simp
    rw[hk]at i1;have ih:=x.toNat_lt
    have hc:cond (cmp .lss (x.toNat:Int) 48) true (cmp .gtr (x.toNat:Int) 57)=decide (x.toNat<48\/57<x.toNat):=by
     rw[Ha,Tb,Qr];exact decide_eq_decide.2 (by omega)
    have hi:a.length<=2:=by omega
    have hp:(10:Int) ^ a.length<=100:=by
     rcases (show a.length=0\/a.length=1\/a.length=2 by omega) with h|h|h<;>rw[h]<;>decide
    have hy:ar .add .i64 ((frm l+a.length:Nat):Int) 1=((frm l+(a.length+1):Nat):Int):=by rw[Ab (by omega)];omega
    simp only[Yj,Tr.val,Tr.ob,ga,hu,he,hc];rw[hsz];by_cases hbx:x.toNat<48\/57<x.toNat
    .rw[decide_eq_true hbx];refine⟨by simp[ht],.inr ⟨_,rfl,?_⟩⟩;rw[i1];unfold tc;rw[if_pos hbx]
    .have hw:ar .add .i64 (ar .mul .i64 n 10) (IntKind.wrap .i64 (ar .sub .u8 (x.toNat:Int) 48))=n*10+((x.toNat:Int) - 48):=by
      have h1:ar .sub .u8 (x.toNat:Int) 48=(x.toNat:Int) - 48:=by
       show IntKind.u8.wrap ((x.toNat:Int) - 48)=_;exact IntWalk.u8_in _ (by omega)
      rw[h1,IntWalk.i64_in _ (by omega),We (by omega),Ab (by omega)]
     rw[decide_eq_false hbx];refine⟨by simp[ht],.inl ⟨n*10+((x.toNat:Int) - 48),?_,?_,by omega,?_⟩⟩
     .simp only[hw,hy,Ia]
     .rw[i1,hm]
      conv=>lhs;unfold tc
      rw[if_neg hbx]
     .rw[List.length_append,List.length_singleton,Int.pow_succ];omega
   .obtain⟨i1,i2,i3⟩:=hI;have ho:cmp .lss ((frm l+(l.drop (frm l)).length:Nat):Int) (ca s)=false:=by rw[hsz,Ha,List.length_drop];exact decide_eq_false (by omega)
    rw[List.drop_length]at i1;simp only[Yj,Tr.val,Tr.ob,ga,ho];exact⟨by simp,_,rfl,by rw[i1];rfl⟩
  obtain⟨q,k3,hq⟩:=k3;have a3:(Vg s (frm l:Int)).o=q:=k3.v;have b3:(Vg s (frm l:Int)).ob:=k3.t;simp only[Yg,Xg,Wg,Ug,Zj,Gq,pcT,Tr.val,Tr.ob,ga,c1.2,Oc.n.injEq,forall_eq',hg,hbad,decide_false,a3,Od,if_false];cases hd:tc (l.drop (frm l)) 0 with
  |none=>
   rw[hd]at hq;subst hq;simp only[ocR];exact⟨by simp[c1.1,b3],trivial⟩
  |some n=>
   rw[hd]at hq;subst hq;have hb:=Vr _ 0 n 0 (by omega) (by decide) hd;rw[List.length_drop]at hb
   have hn:0<=n/\n<1000:=by
    have:(10:Int) ^ (0+(l.length - frm l))<=1000:=by
     rcases (show l.length - frm l=0\/l.length - frm l=1\/l.length - frm l=2 by omega) with h|h|h<;>rw[h]<;>decide
    omega
   have c4:(ak s n (frm l:Int)).ob/\(ak s n (frm l:Int)).val=.n (sgn l n):=by
    simp only[ak,Tr.val,Tr.ob,Tb,sgn];by_cases hz:0<frm l
    .have io:(0:Int)<(frm l:Int):=by omega
     have hw:IntKind.wrap .i64 (-n)=-n:=IntWalk.i64_in _ (by omega);simp[hz,hw]
    .have io:¬ (0:Int)<(frm l:Int):=by omega
     simp[hz]
   have ha : -9223372036854775807<=sgn l n/\sgn l n<=9223372036854775807:=by unfold sgn;split<;>omega
   obtain⟨d1,d2⟩:=yA ha;have hv:mkB l=s:=by rw[<-hl];exact Cf s
   simp only[bk,pcT,c4.2,d2,ocR,Ae,hv];exact⟨by simp[c1.1,b3,c4.1,c4.2,d1],trivial⟩
theorem BA{n:Int}(h:0<=n/\n<10):Od (bl (dig n))=(n,true):=by
 rcases (show n=0\/n=1\/n=2\/n=3\/n=4\/n=5\/n=6\/n=7\/n=8\/n=9 by omega) with rfl|rfl|rfl|rfl|rfl|rfl|rfl|rfl|rfl|rfl <;>
  (simp only[Od,dig,sc,frm,sgn];simp[tc,zA,dig,mkB,bs])
theorem CA(s:ByteArray)(c:UInt8)(hs:(bl s).length<1000000000):Sg s (c.toNat:Int)/\Rg s (c.toNat:Int)=(spl c (bl s)).map mkB:=by
 have hsz:=ab s;generalize hl:bl s=l at hsz hs;have hh:∀(i j:Nat),bl (za s i j)=(l.take j).drop i:=λi j=>by rw[jh,hl];rfl
 have k2:∃q,Ub (λt:(List ByteArray)×Int×Int=>Uj s (c.toNat:Int) t.1 t.2.1 t.2.2) ([],0,0) q/\∃(out:List ByteArray) (f:Nat),q=.x (out,(f:Int))/\spl c l=out.map bl++[l.drop f]/\f<=l.length/\out.length<=l.length:=by
  refine Ma.list l (λi (b:List ByteArray×Nat)=>(b.1,(b.2:Int),(i:Int))) (λa b=>spl c a=b.1.map bl++[a.drop b.2]/\b.2<=a.length/\b.1.length<=a.length) (b0:=([],0)) rfl ⟨rfl,Nat.le_refl _,Nat.le_refl _⟩ (λa x r b hx hI=>?_) (λb hI=>?_)
  .obtain⟨out,f⟩:=b;obtain⟨i1,i2,i3⟩:=hI;simp only[]at i1 i2 i3;have hlen:l.length=a.length+(r.length+1):=by rw[hx];simp
   have hn:cmp .lss (a.length:Int) (ca s)=true:=by rw[hsz,Ha];exact decide_eq_true (by omega)
   have hj:inb (a.length:Int) (ca s):=by rw[hsz];exact⟨by omega,by omega⟩
   have hp:Qb s (a.length:Int)=(x.toNat:Int):=by rw[qn,hl,hx];simp
   have hk:le3 (f:Int) (a.length:Int) (ca s):=by rw[hsz];exact⟨by omega,by omega,by omega⟩
   have hm:∀y,lim (da .str out) (da .str [y]):=λy=>yi (t:=.str) (show out.length<1099511627776 by omega)
   have e:(cmp .eql (x.toNat:Int) (c.toNat:Int))=decide (x=c):=by
    rw[Fd];exact decide_eq_decide.2 ⟨λh=>UInt8.toNat_inj.1 (by omega),λh=>by rw[h]⟩
   have ho:ar .add .i64 (a.length:Int) 1=((a.length+1:Nat):Int):=Hd (l:=a) (by omega);simp only[Uj,Tj,Cq,pcT,Tr.val,Tr.ob,ga,hn,hp,e];by_cases hxc:x=c
   .rw[decide_eq_true hxc];refine⟨by simp[hj,hk,hm],.inl ⟨(out++[za s f a.length],a.length+1),by simp only[ho,Ia],?_,by simp,by simp;omega⟩⟩;simp only[List.map_append,List.map_cons,List.map_nil];rw[hh,hxc,Gr,i1,hx];simp
   .rw[decide_eq_false hxc];refine⟨by simp[hj],.inl ⟨(out,f),by simp only[ho,Ia],?_,by simp;omega,by simp;omega⟩⟩;rw[tk hxc i1,List.drop_append_of_le_length i2]
  .obtain⟨out,f⟩:=b;obtain⟨i1,i2,i3⟩:=hI;have hi:cmp .lss (l.length:Int) (ca s)=false:=by rw[hsz,Ha];exact decide_eq_false (by omega)
   simp only[Uj,Tr.val,Tr.ob,hi];exact⟨by simp,_,rfl,out,f,rfl,i1,i2,i3⟩
 obtain⟨_,k2,out,f,rfl,k3,k4,k5⟩:=k2;have a2:(Qg s (c.toNat:Int)).o=.x (out,(f:Int)):=k2.v;have b2:(Qg s (c.toNat:Int)).ob:=k2.t;have hk:le3 (f:Int) (ca s) (ca s):=by rw[hsz];exact⟨by omega,by omega,by omega⟩
 have hm:∀y,lim (da .str out) (da .str [y]):=λy=>yi (t:=.str) (show out.length<1099511627776 by omega);simp only[Sg,Rg,Wj,Vj,Eq,pcT,Tr.val,Tr.ob,ga,a2,ocR];refine⟨by simp[b2,hk,hm],?_⟩;rw[k3,List.map_append,List.map_map,List.map_cons,List.map_nil];have:(mkB ∘ bl)=id:=funext Cf;rw[this,List.map_id]
 congr 2
 apply Tc;rw[hsz,hh,Nd,List.take_length]
theorem DA:∀a∈Wa,∀b∈Wa,bl (nameB a.1 a.2)=bl (nameB b.1 b.2)->a=b:=by decide +kernel
theorem mh:∀h∈Wa,(kd h.1).1<=2/\1<=h.1/\h.1<=6:=by decide
abbrev Ib(d:Nat)(ks:List Plan):List ByteArray:=ks.flatMap (Ra d)
theorem drop_cons{α:Type}{l:List α}{i:Nat}(h:i<l.length):∃x,l[i]? = some x/\l.drop i=x::l.drop (i+1)/\x∈l:=⟨l[i],List.getElem?_eq_getElem h,List.drop_eq_getElem_cons h,List.getElem_mem h⟩
section
variable {d m:Nat} (ih:∀w:List ByteArray,w.length<=1000000->(oa m).2 w (d:Int)/\((oa m).1 w (d:Int)).2.1.length<=w.length/\∀p r,okM d p=true->w=Ra d p++r->(oa m).1 w (d:Int)=(p,r,true,()))
 {D:Int} (hsub:ar .sub .i64 D 1=(d:Int)) {w1:List ByteArray} (hw:w1.length<=1000000)
include ih hsub hw
def Cn(d:Nat)(w1:List ByteArray)(k j:Int)(v:Plan×(List ByteArray)×Bool×Unit):Prop:=v.2.1.length<=w1.length/\∀ks r,(ks.length:Int)=(kd k).1->(∀x∈ks,okM d x=true)->w1=Ib d ks++r->v=(⟨k,j,ks⟩,r,true,())
theorem FA{many:Nat}(hm:many<=2)(k j:Int):∃q,Ub (λs:LP×(List ByteArray)×Int=>Cj (oa m).1 (oa m).2 D (many:Int) k j w1 s.1 s.2.1 s.2.2) ([],w1,0) q /\
  ((∃ks' r',q=.x (ks',r')/\r'.length<=w1.length/\∀ks r,ks.length=many->(∀x∈ks,okM d x=true)->w1=Ib d ks++r->ks'=ks/\r'=r) \/
   (q=.r (⟨0,0,[]⟩,[],false,())/\∀ks r,ks.length=many->(∀x∈ks,okM d x=true)->w1=Ib d ks++r->False)):=by
 refine Ma.list (List.replicate many ()) (λi (b:LP×List ByteArray)=>(b.1,b.2,(i:Int))) (λl b=>b.2.length<=w1.length/\b.1.length=l.length/\∀ks r,ks.length=many->(∀x∈ks,okM d x=true)->w1=Ib d ks++r->b.1=ks.take l.length/\b.2=Ib d (ks.drop l.length)++r) (b0:=([],w1)) rfl ⟨Nat.le_refl _,rfl,λks r _ _ h=>⟨rfl,h⟩⟩ (λl x r b hx hI=>?_) (λb hI=>?_)
 .obtain⟨ks',r'⟩:=b;obtain⟨i1,i0,i2⟩:=hI;simp only[]at i0 i1 i2;have hlen:=congrArg List.length hx;simp only[List.length_replicate,List.length_append,List.length_cons]at hlen;have hj:cmp .lss (l.length:Int) (many:Int)=true:=by rw[Ha];exact decide_eq_true (by omega)
  obtain⟨h1,h2,h3⟩:=ih r' (by omega);have hk:ar .add .i64 (l.length:Int) 1=((l.length+1:Nat):Int):=Hd (l:=l) (by omega);have hi:∀y,lim (da .plan ks') (da .plan [y]):=λy=>yi (t:=.plan) (show ks'.length<1099511627776 by omega);simp only[Cj,Tr.val,Tr.ob,ga,hj,hsub,fb]
  have key:∀ks rr,ks.length=many->(∀x∈ks,okM d x=true)->w1=Ib d ks++rr->∃y,ks.drop l.length=y::ks.drop (l.length+1)/\ks.take (l.length+1)=ks.take l.length++[y]/\(oa m).1 r' (d:Int)=(y,Ib d (ks.drop (l.length+1))++rr,true,()):=λks rr g1 g2 g3=>by
   obtain⟨y,y0,y1,y2⟩:=drop_cons (l:=ks) (i:=l.length) (by omega);refine⟨y,y1,by rw[List.take_add_one,y0];rfl,h3 y _ (g2 y y2) ?_⟩;rw[(i2 ks rr g1 g2 g3).2,y1];simp[Ib]
  cases hok:((oa m).1 r' (d:Int)).2.2.1 with
  |false=>
   refine⟨by simp[h1],.inr ⟨_,rfl,.inr ⟨rfl,λks rr g1 g2 g3=>?_⟩⟩⟩;obtain⟨y,_,_,y2⟩:=key ks rr g1 g2 g3;rw[y2]at hok;cases hok
  |true=>
   refine⟨by simp[h1,hi],.inl ⟨(ks'++[((oa m).1 r' (d:Int)).1],((oa m).1 r' (d:Int)).2.1),by simp only[Bool.not_true,hk,Ia],by simp only[];omega,by simp[i0],λks rr g1 g2 g3=>?_⟩⟩;obtain⟨y,y1,y2,y3⟩:=key ks rr g1 g2 g3;rw[y3];simp only[List.length_append,List.length_singleton];exact⟨by rw[y2,(i2 ks rr g1 g2 g3).1],trivial⟩
 .obtain⟨ks',r'⟩:=b;obtain⟨i1,i0,i2⟩:=hI;have hh:cmp .lss (((List.replicate many ()).length:Nat):Int) (many:Int)=false:=by rw[List.length_replicate,Ha];exact decide_eq_false (by omega)
  simp only[Cj,Tr.val,Tr.ob,hh];refine⟨by simp,_,rfl,.inl ⟨ks',r',rfl,i1,λks rr g1 g2 g3=>?_⟩⟩;have:=i2 ks rr g1 g2 g3;simp only[List.length_replicate]at this;rw[<-g1,List.take_length,List.drop_length]at this;exact⟨this.1,this.2⟩
variable {w0:ByteArray}
theorem GA{k j:Int}(h:(k,j)∈Wa)(high:Int) :
  (Eg (oa m).1 (oa m).2 (w0::w1) D k (kd k).1 high j).ob /\
  (if nameB k j=w0 then ∃v,(Eg (oa m).1 (oa m).2 (w0::w1) D k (kd k).1 high j).val=.r v/\Cn d w1 k j v else(Eg (oa m).1 (oa m).2 (w0::w1) D k (kd k).1 high j).val=.n ()):=by
 obtain⟨q0,_,_,q1,q2⟩:=kh _ h;have q3:(kd k).1<=2:=(mh _ h).1;obtain⟨n1,n2⟩:=Kr (p:=⟨k,j,[]⟩) ⟨q1,q2⟩;have n2:cf ⟨k,j,[]⟩=nameB k j:=n2;obtain⟨many,hj⟩ : ∃many:Nat,(kd k).1=many:=⟨(kd k).1.toNat,by simp only[]at q0;omega⟩;obtain⟨q,k7,hq⟩:=FA ih hsub hw (many:=many) (by omega) k j;have a7:(Dg (oa m).1 (oa m).2 D (many:Int) k j w1).o=q:=k7.v;have b7:(Dg (oa m).1 (oa m).2 D (many:Int) k j w1).ob:=k7.t;have hh:inb 0 (da .str (w0::w1)):=⟨by omega,by show(0:Int)<((w1.length+1:Nat):Int);omega⟩;have hi:le3 1 (da .str (w0::w1)) (da .str (w0::w1)):=⟨by omega,by show(1:Int)<=((w1.length+1:Nat):Int);omega,Int.le_refl _⟩;have hk:rd .str (w0::w1) 0=w0:=rfl;have hdr:List.drop (Int.toNat 1) (w0::w1)=w1:=rfl;simp only[Eg,Dj,pq,pcT,Tr.val,Tr.ob,ga,n2,hk,hdr,hj,a7,Ae];by_cases hn:nameB k j=w0
 .rw[if_pos hn,decide_eq_true hn];rcases hq with⟨hl,r',rfl,g1,g2⟩|⟨rfl,g2⟩
  .refine⟨by simp[n1,hh,hi,b7],_,rfl,g1,λks r e1 e2 e3=>?_⟩;obtain⟨rfl,rfl⟩:=g2 ks r (by omega) e2 e3;rfl
  .refine⟨by simp[n1,hh,hi,b7],_,rfl,Nat.zero_le _,λks r e1 e2 e3=>(g2 ks r (by omega) e2 e3).elim⟩
 .rw[if_neg hn,decide_eq_false hn];exact⟨by simp[n1,hh],rfl⟩
theorem HA{k:Int}(hk:1<=k/\k<=6):∃q,Ub (λs:Int=>Gg (oa m).1 (oa m).2 (w0::w1) D k (kd k).1 (kd k).2.2 (kd k).2.1 s) (kd k).2.1 q /\
  ((q=.x ()/\∀j,(k,j)∈Wa->nameB k j≠w0)\/∃v j,q=.r v/\(k,j)∈Wa/\nameB k j=w0/\Cn d w1 k j v):=by
 have hb:0<=(kd k).1/\0<=(kd k).2.1/\(kd k).2.1<=(kd k).2.2/\(kd k).2.2<=10:=by
  rcases (show k=1\/k=2\/k=3\/k=4\/k=5\/k=6 by omega) with rfl|rfl|rfl|rfl|rfl|rfl<;>decide
 generalize hlo:(kd k).2.1=low at hb⊢;generalize hhi:(kd k).2.2=high at hb⊢;refine Ma.list (List.replicate (high - low+1).toNat ()) (λi (_:Unit)=>low+(i:Int)) (λl _=>∀j,low<=j->j<low+l.length->nameB k j≠w0) (b0:=()) (by simp) (λj h1 h2=>by simp at h2;omega) (λl x r _ hx hI=>?_) (λ_ hI=>?_)
 .have hlen:=congrArg List.length hx;simp only[List.length_replicate,List.length_append,List.length_cons]at hlen;have hl:cmp .leq (low+(l.length:Int)) high=true:=by rw[jg];exact decide_eq_true (by omega)
  have hh:(k,low+(l.length:Int))∈Wa:=Jr hb.1 (by omega) (by omega);obtain⟨c1,c2⟩:=GA ih hsub hw (w0:=w0) hh high;have hm:ar .add .i64 (low+(l.length:Int)) 1=low+((l.length+1:Nat):Int):=by rw[Ab (by omega)];omega
  by_cases hn:nameB k (low+(l.length:Int))=w0
  .rw[if_pos hn]at c2;obtain⟨v,c2,c3⟩:=c2;simp only[Gg,Fg,pcT,Tr.val,Tr.ob,hl,c2];exact⟨by simp[c1],.inr ⟨_,rfl,.inr ⟨v,_,rfl,hh,hn,c3⟩⟩⟩
  .rw[if_neg hn]at c2;simp only[Gg,Fg,pcT,Tr.val,Tr.ob,hl,c2];refine⟨by simp[c1],.inl ⟨(),by simp only[hm,Ia],λj h1 h2=>?_⟩⟩;simp only[List.length_append,List.length_singleton]at h2;by_cases hj:j=low+(l.length:Int)
   .rw[hj];exact hn
   .exact hI j h1 (by omega)
 .have hi:cmp .leq (low+(((List.replicate (high - low+1).toNat ()).length:Nat):Int)) high=false:=by rw[List.length_replicate,jg];exact decide_eq_false (by omega)
  simp only[Gg,Tr.val,Tr.ob,hi];refine⟨by simp,_,rfl,.inl ⟨rfl,λj hj=>?_⟩⟩;obtain⟨_,g1,g2,_,_⟩:=kh _ hj;simp only[]at g1 g2;exact hI j (by omega) (by simp;omega)
theorem IA:∃q,Ub (λs:Int=>Fj (oa m).1 (oa m).2 (w0::w1) D s) 1 q /\
  ((q=.x ()/\∀k j,(k,j)∈Wa->nameB k j≠w0)\/∃v k j,q=.r v/\(k,j)∈Wa/\nameB k j=w0/\Cn d w1 k j v):=by
 refine Ma.list (List.replicate 6 ()) (λi (_:Unit)=>1+(i:Int)) (λl _=>∀k j,(k,j)∈Wa->k<1+l.length->nameB k j≠w0) (b0:=()) (by simp) (λk j h1 h2=>by have:=(mh _ h1).2.1;simp at h2 this;omega) (λl x r _ hx hI=>?_) (λ_ hI=>?_)
 .have hlen:=congrArg List.length hx;simp only[List.length_replicate,List.length_append,List.length_cons]at hlen;have hi:cmp .leq (1+(l.length:Int)) 6=true:=by rw[jg];exact decide_eq_true (by omega)
  obtain⟨o1,o2⟩:=qm (1+(l.length:Int));obtain⟨q,k4,hq⟩:=HA ih hsub hw (w0:=w0) (k:=1+(l.length:Int)) (by omega);generalize hK:1+(l.length:Int)=K at *;have a4:(Hg (oa m).1 (oa m).2 (w0::w1) D K (kd K).1 (kd K).2.2 (kd K).2.1).o=q:=k4.v;have b4:(Hg (oa m).1 (oa m).2 (w0::w1) D K (kd K).1 (kd K).2.2 (kd K).2.1).ob:=k4.t;have hj:ar .add .i64 K 1=1+((l.length+1:Nat):Int):=by rw[Ab (by omega)];omega
  simp only[Fj,Ej,rq,pcT,Tr.val,Tr.ob,ga,hi,o2,a4];rcases hq with⟨rfl,hq⟩|⟨v,j,rfl,h1,h2,h3⟩
  .refine⟨by simp[o1,b4],.inl ⟨(),by simp only[hj,Ia],λk j g1 g2=>?_⟩⟩;simp only[List.length_append,List.length_singleton]at g2;by_cases hkk:k=K
   .subst hkk;exact hq j g1
   .exact hI k j g1 (by omega)
  .exact⟨by simp[o1,b4],.inr ⟨_,rfl,.inr ⟨v,_,j,rfl,h1,h2,h3⟩⟩⟩
 .have hh:cmp .leq (1+(((List.replicate 6 ()).length:Nat):Int)) 6=false:=by decide
  simp only[Fj,Tr.val,Tr.ob,hh];refine⟨by simp,_,rfl,.inl ⟨rfl,λk j g1=>hI k j g1 ?_⟩⟩;have:=(mh _ g1).2.2;simp only[List.length_replicate]at this⊢;omega
end
theorem Wr:∀(d m:Nat),d<m->d<=1000->∀w:List ByteArray,w.length<=1000000 ->
  (oa m).2 w (d:Int)/\((oa m).1 w (d:Int)).2.1.length<=w.length/\∀p r,okM d p=true->w=Ra d p++r->(oa m).1 w (d:Int)=(p,r,true,()):=by
 intro d
 induction d with
 |zero=>
  intro m hm _ w _;obtain⟨m,rfl⟩ : ∃k,m=k+1:=⟨m - 1,by omega⟩;have hl:cmp .lss ((0:Nat):Int) 1=true:=rfl;have hc:cond (cmp .eql (da .str w) 0) true true=true:=by cases cmp .eql (da .str w) 0<;>rfl
  simp only[oa,Kd,Tr.val,Tr.ob,hl,hc,ocR];exact⟨by simp,Nat.zero_le _,λp r h=>by cases h⟩
 |succ d ih=>
  intro m hm hd w hw;obtain⟨m,rfl⟩ : ∃k,m=k+1:=⟨m - 1,by omega⟩;generalize hD:((d+1:Nat):Int)=D;have hh:ar .sub .i64 D 1=(d:Int):=by rw[Ve (by omega)];omega
  have hl:cmp .lss D 1=false:=by rw[Ha];exact decide_eq_false (by omega)
  cases w with
  |nil=>
   simp only[oa,Kd,Tr.val,Tr.ob,show cmp .eql (da .str []) 0=true from rfl,cond_true,ocR];refine⟨by simp,Nat.zero_le _,λp r h e=>?_⟩;cases e
  |cons w0 w1=>
   have hi:w1.length<=1000000:=by simp at hw;omega
   obtain⟨q,k2,hq⟩:=IA (λw hw=>ih m (by omega) (by omega) w hw) hh hi (w0:=w0);have a2:(Ig (oa m).1 (oa m).2 (w0::w1) D).o=q:=k2.v;have b2:(Ig (oa m).1 (oa m).2 (w0::w1) D).ob:=k2.t
   have hc:cond (cmp .eql (da .str (w0::w1)) 0) true (cmp .lss D 1)=false:=by
    rw[hl,Fd,show decide (da .str (w0::w1)=0)=false from decide_eq_false (by show((w1.length+1:Nat):Int)≠0;omega)];rfl
   simp only[oa,Kd,Gj,tq,pcT,Tr.val,Tr.ob,hc,a2]
   have fin:∀p r,okM (d+1) p=true->w0::w1=Ra (d+1) p++r->(p.Kind,p.Num)∈Wa/\nameB p.Kind p.Num=w0/\(p.Kids.length:Int)=(kd p.Kind).1/\(∀x∈p.Kids,okM d x=true)/\w1=Ib d p.Kids++r:=λp r h e=>by
    have hr:Va p=true:=by simp only[okM,Bool.and_eq_true]at h;exact h.1
    simp only[Ra,List.cons_append,List.cons.injEq]at e;have h2:=hr;simp only[Va,decide_eq_true_eq]at h2;exact⟨Vc hr,e.1.symm,h2.1,(ue h).2,e.2⟩
   rcases hq with⟨rfl,hq⟩|⟨v,k,j,rfl,h1,h2,h3,h4⟩
   .refine⟨by simp[b2],Nat.zero_le _,λp r h e=>?_⟩;obtain⟨g1,g2,_⟩:=fin p r h e;exact absurd g2 (hq _ _ g1)
   .refine⟨by simp[b2],Nat.le_trans h3 (by simp),λp r h e=>?_⟩;obtain⟨g1,g2,g3,g4,g5⟩:=fin p r h e;have:=DA _ h1 _ g1 (by simp only[];rw[h2,g2]);simp only[Prod.mk.injEq]at this;obtain⟨rfl,rfl⟩:=this;exact(show _=v from rfl).trans ((h4 p.Kids r g3 g4 g5).trans (by rw[fb]))
abbrev nmT:List ByteArray:=[ByteArray.empty,bs [105,110],bs [101,97,99,104],bs [98,111,116,104],bs [108,101,115,115],bs [106,111,105,110],bs [115,117,109]]
def wk(w:List UInt8)(i:Nat):Bool:=(w.take (bl (rd .str nmT i)).length == bl (rd .str nmT i))
def Df(w:List UInt8)(i:Nat):List UInt8:=w.drop (bl (rd .str nmT i)).length
theorem JA:∀h∈Wa,∀i∈[1,2,3,4,5,6],wk (bl (nameB h.1 h.2)) i=decide ((i:Int)=h.1):=by decide +kernel
theorem PA:∀h∈Wa,Df (bl (nameB h.1 h.2)) h.1.toNat=if 0<(kd h.1).2.2 then bl (dig h.2) else []:=by decide +kernel
theorem QA:∀h∈Wa,(kd h.1).2.2<=0->h.2=0:=by decide
theorem RA:∀i∈[1,2,3,4,5,6],(bl (rd .str nmT (i:Nat))).length<=4:=by decide +kernel
section
variable {d m:Nat}{D:Int}{w0:ByteArray}{w1:List ByteArray} (h0:(bl w0).length<=1000000)
include h0
theorem SA(i:Nat)(hi:1<=i/\i<=6)(k n:Int) :
  (Zg (ua m).1 (ua m).2 (w0::w1) D k n nmT (i:Int)).ob /\
  (Zg (ua m).1 (ua m).2 (w0::w1) D k n nmT (i:Int)).val =
    .n (if wk (bl w0) i=true then((i:Int),if 0<(Df (bl w0) i).length then(Od (Df (bl w0) i)).1 else n) else(k,n)):=by
 have ho:i∈[1,2,3,4,5,6]:=by
  rcases (show i=1\/i=2\/i=3\/i=4\/i=5\/i=6 by omega) with rfl|rfl|rfl|rfl|rfl|rfl<;>simp
 have ht:=RA i ho;have hh:inb (i:Int) (da .str nmT):=⟨by omega,by show(i:Int)<7;omega⟩;have hj:inb 0 (da .str (w0::w1)):=⟨by omega,by show(0:Int)<((w1.length+1:Nat):Int);omega⟩;have hr:rd .str (w0::w1) 0=w0:=rfl;unfold wk Df;generalize hT:nmT=T at *;generalize hN:rd .str T (i:Int)=N at *;have hz:=ab w0;have hu:=ab N;generalize hl:bl w0=l at *;generalize hn:bl N=b at *;have hs:za w0 (ca N) (ca w0)=mkB (l.drop b.length):=Tc (by rw[jh,hz,hu,hl,Nd];simp)
 have hpre:cond (cmp .geq (ca w0) (ca N)) (seq (za w0 0 (ca N)) N) false=(l.take b.length == b):=by
  rw[hz,hu,jm,Ae,Bool.eq_iff_iff]
  have e:za w0 0 (b.length:Int)=N↔l.take b.length=b:=by
   constructor
   .intro h;have:=congrArg bl h;rw[jh,hl,hn]at this;simpa using this
   .intro h;apply Tc;rw[jh,hl,hn];simpa using h
  by_cases hb:(b.length:Int)<=(l.length:Int)
  .simp[hb,e]
  .simp only[decide_eq_false hb,cond_false,beq_iff_eq,Bool.false_eq_true,false_iff];intro h;have:=congrArg List.length h;rw[List.length_take]at this;omega
 obtain⟨d1,d2⟩:=AA (mkB (l.drop b.length)) (by rw[Nd,List.length_drop];omega);rw[Nd]at d2;simp only[Zg,Tr.val,Tr.ob,ga,hN,hr,hpre,hs,d2]
 have hg:cmp .gtr (ca w0) (ca N)=decide (0<(l.drop b.length).length):=by
  rw[hz,hu,Tb,List.length_drop];exact decide_eq_decide.2 (by omega)
 have hm:cmp .geq (ca w0) (ca N)=true->le3 0 (ca N) (ca w0):=λh=>by
  rw[jm,decide_eq_true_eq]at h;exact⟨by omega,by omega,h⟩
 cases hp:(l.take b.length == b) with
 |false=>exact⟨by simp[hh,hj];exact hm,rfl⟩
 |true=>
  have hb:b.length<=l.length:=by
   have:=congrArg List.length (beq_iff_eq.1 hp);rw[List.length_take]at this;omega
  have hk:le3 (ca N) (ca w0) (ca w0):=⟨by omega,by rw[hz,hu];omega,Int.le_refl _⟩;rw[hg];by_cases hq:0<(l.drop b.length).length
  .rw[decide_eq_true hq,if_pos hq];exact⟨by simp[hh,hj,hk,d1];exact hm,rfl⟩
  .rw[decide_eq_false hq,if_neg hq];exact⟨by simp[hh,hj];exact hm,rfl⟩
theorem VA:∃q,Ub (λs:Int×Int×Int=>Bf (ua m).1 (ua m).2 (w0::w1) D nmT s.1 s.2.1 s.2.2) (0,0,1) q /\
  ∃k n,q=.x (k,n)/\(0<=k/\k<=6)/\∀h∈Wa,w0=nameB h.1 h.2->k=h.1/\n=h.2:=by
 refine Ma.list (List.replicate 6 ()) (λi (b:Int×Int)=>(b.1,b.2,((i+1:Nat):Int))) (λl b=>(0<=b.1/\b.1<=6)/\∀h∈Wa,w0=nameB h.1 h.2->b=if h.1<=l.length then h else(0,0)) (b0:=(0,0)) rfl ⟨by simp,λh hh _=>?_⟩ (λl x r b hx hI=>?_) (λb hI=>?_)
 .have:=(mh _ hh).2.1;rw[if_neg (by simp;omega)]
 .obtain⟨k,n⟩:=b;obtain⟨i1,i2⟩:=hI;simp only[]at i1;have hlen:=congrArg List.length hx;simp only[List.length_replicate,List.length_append,List.length_cons]at hlen;have hn:cmp .leq ((l.length+1:Nat):Int) 6=true:=by rw[jg];exact decide_eq_true (by omega)
  obtain⟨c1,c2⟩:=SA (m:=m) (D:=D) (w1:=w1) h0 (l.length+1) (by omega) k n;have ho:ar .add .i64 ((l.length+1:Nat):Int) 1=(((l.length+1)+1:Nat):Int):=by rw[Ab (by omega)];omega
  obtain⟨b',hj,c2⟩ : ∃b',b'=(if wk (bl w0) (l.length+1)=true then(((l.length+1:Nat):Int),if 0<(Df (bl w0) (l.length+1)).length then(Od (Df (bl w0) (l.length+1))).1 else n) else(k,n))/\(Zg (ua m).1 (ua m).2 (w0::w1) D k n nmT ((l.length+1:Nat):Int)).val=.n b':=⟨_,rfl,c2⟩
  have key:∀I,I=((l.length+1:Nat):Int)->(Bf (ua m).1 (ua m).2 (w0::w1) D nmT k n I).ob/\Ia (Bf (ua m).1 (ua m).2 (w0::w1) D nmT k n I).val=.go (b'.1,b'.2,((l.length+1+1:Nat):Int)):=λI hI=>by
   rw[<-hI]at c1 c2 hn ho;simp only[Bf,ik,pcT,Tr.val,Tr.ob,hn,c2,ho];exact⟨by simp[c1],rfl⟩
  refine⟨(key _ rfl).1,.inl ⟨b',(key _ rfl).2,?_,λh hh hw=>?_⟩⟩
  all_goals rw[hj]
  .split
   .exact⟨by simp only[];omega,by simp only[];omega⟩
   .exact i1
  .have hb:=JA h hh (l.length+1) (by rcases (show l.length=0\/l.length=1\/l.length=2\/l.length=3\/l.length=4\/l.length=5 by omega) with h|h|h|h|h|h<;>rw[h]<;>simp);have hi:=i2 h hh hw;rw[<-hw]at hb;rw[hb];obtain⟨_,_,_,q1,q2⟩:=kh _ hh;simp only[List.length_append,List.length_singleton];by_cases e:((l.length+1:Nat):Int)=h.1
   .have hm:h.1<=((l.length+1:Nat):Int):=by omega
    rw[decide_eq_true e,if_pos rfl,if_pos hm];have ht:=PA h hh;rw[<-hw,show h.1.toNat=l.length+1 by omega]at ht;rw[ht];rw[if_neg (by omega)]at hi;simp only[Prod.mk.injEq]at hi;by_cases hp:0<(kd h.1).2.2
    .rw[if_pos hp,if_pos (show 0<(bl (dig h.2)).length from Nat.one_pos),BA ⟨q1,q2⟩,e]
    .rw[if_neg hp,if_neg (by simp),e,hi.2];exact Prod.ext rfl (QA h hh (by omega)).symm
   .rw[decide_eq_false e,if_neg (by simp),hi];by_cases g:h.1<=(l.length:Int)
    .rw[if_pos g,if_pos (by omega)]
    .rw[if_neg g,if_neg (by omega)]
 .obtain⟨k,n⟩:=b;obtain⟨i1,i2⟩:=hI;have hl:cmp .leq ((((List.replicate 6 ()).length+1:Nat)):Int) 6=false:=by decide
  simp only[Bf,Tr.val,Tr.ob,hl];refine⟨by simp,_,rfl,k,n,rfl,i1,λh hh hw=>?_⟩;have:=i2 h hh hw;have hk:=(mh _ hh).2.2;rw[List.length_replicate,if_pos (by omega)]at this;rw[<-this];exact⟨rfl,rfl⟩
end
section
variable {d m:Nat} (ih:∀w:List ByteArray,w.length<=1000000->(∀x∈w,(bl x).length<=1000000)->(ua m).2 w (d:Int)/\(∃k,((ua m).1 w (d:Int)).2.1=w.drop k)/\∀p r,okM d p=true->w=Ra d p++r->(ua m).1 w (d:Int)=(p,r,()))
 {D:Int} (hsub:ar .sub .i64 D 1=(d:Int)) {w1:List ByteArray} (hw:w1.length<=1000000) (hb:∀x∈w1,(bl x).length<=1000000)
include ih hsub hw hb
theorem WA(many:Nat)(hm:many<=2)(k n:Int):∃q,Ub (λs:LP×(List ByteArray)×Int=>ye (ua m).1 (ua m).2 D k n (many:Int) w1 s.1 s.2.1 s.2.2) ([],w1,0) q /\
  ∃ks' j,q=.x (ks',w1.drop j)/\∀ks r,ks.length=many->(∀x∈ks,okM d x=true)->w1=Ib d ks++r->ks'=ks/\w1.drop j=r:=by
 refine Ma.list (List.replicate many ()) (λi (b:LP×Nat)=>(b.1,w1.drop b.2,(i:Int))) (λl b=>b.1.length=l.length/\∀ks r,ks.length=many->(∀x∈ks,okM d x=true)->w1=Ib d ks++r->b.1=ks.take l.length/\w1.drop b.2=Ib d (ks.drop l.length)++r) (b0:=([],0)) rfl ⟨rfl,λks r _ _ h=>⟨rfl,h⟩⟩ (λl x r b hx hI=>?_) (λb hI=>?_)
 .obtain⟨ks',j⟩:=b;obtain⟨i0,i2⟩:=hI;simp only[]at i0 i2;have hlen:=congrArg List.length hx;simp only[List.length_replicate,List.length_append,List.length_cons]at hlen;have hj:cmp .lss (l.length:Int) (many:Int)=true:=by rw[Ha];exact decide_eq_true (by omega)
  obtain⟨h1,⟨j',h2⟩,h3⟩:=ih (w1.drop j) (by rw[List.length_drop];omega) (λx hx=>hb x (List.mem_of_mem_drop hx));have hk:ar .add .i64 (l.length:Int) 1=((l.length+1:Nat):Int):=Hd (l:=l) (by omega);have hi:∀y,lim (da .plan ks') (da .plan [y]):=λy=>yi (t:=.plan) (show ks'.length<1099511627776 by omega);simp only[ye,Tr.val,Tr.ob,ga,hj,hsub,fb];refine⟨by simp[h1,hi],.inl ⟨(ks'++[((ua m).1 (w1.drop j) (d:Int)).1],j+j'),by simp only[hk,Ia,h2,List.drop_drop],by simp[i0],λks rr g1 g2 g3=>?_⟩⟩;obtain⟨y,y0,y1,y2⟩:=drop_cons (l:=ks) (i:=l.length) (by omega);have hv:=h3 y (Ib d (ks.drop (l.length+1))++rr) (g2 y y2) (by rw[(i2 ks rr g1 g2 g3).2,y1];simp[Ib]);rw[hv]at h2⊢;simp only[List.length_append,List.length_singleton];rw[List.drop_drop]at h2;exact⟨by rw[List.take_add_one,y0,(i2 ks rr g1 g2 g3).1];rfl,h2.symm⟩
 .obtain⟨ks',j⟩:=b;obtain⟨i0,i2⟩:=hI;have hh:cmp .lss (((List.replicate many ()).length:Nat):Int) (many:Int)=false:=by rw[List.length_replicate,Ha];exact decide_eq_false (by omega)
  simp only[ye,Tr.val,Tr.ob,hh];refine⟨by simp,_,rfl,ks',j,rfl,λks rr g1 g2 g3=>?_⟩;have:=i2 ks rr g1 g2 g3;simp only[List.length_replicate]at this;rw[<-g1,List.take_length,List.drop_length]at this;exact⟨this.1,this.2⟩
end
theorem XA:∀(d m:Nat),d<m->d<=1000->∀w:List ByteArray,w.length<=1000000->(∀x∈w,(bl x).length<=1000000) ->
  (ua m).2 w (d:Int)/\(∃k,((ua m).1 w (d:Int)).2.1=w.drop k)/\∀p r,okM d p=true->w=Ra d p++r->(ua m).1 w (d:Int)=(p,r,()):=by
 intro d
 induction d with
 |zero=>
  intro m hm _ w _ _;obtain⟨m,rfl⟩ : ∃k,m=k+1:=⟨m - 1,by omega⟩;have hl:cmp .lss ((0:Nat):Int) 1=true:=rfl;have hc:cond (cmp .eql (da .str w) 0) true true=true:=by cases cmp .eql (da .str w) 0<;>rfl
  simp only[ua,Md,Tr.val,Tr.ob,hl,hc,ocR];exact⟨by simp,⟨0,rfl⟩,λp r h=>by cases h⟩
 |succ d ih=>
  intro m hm hd w hw hb;obtain⟨m,rfl⟩ : ∃k,m=k+1:=⟨m - 1,by omega⟩;generalize hD:((d+1:Nat):Int)=D;have hq:ar .sub .i64 D 1=(d:Int):=by rw[Ve (by omega)];omega
  have hl:cmp .lss D 1=false:=by rw[Ha];exact decide_eq_false (by omega)
  cases w with
  |nil=>
   simp only[ua,Md,Tr.val,Tr.ob,show cmp .eql (da .str []) 0=true from rfl,cond_true,ocR];refine⟨by simp,⟨0,rfl⟩,λp r h e=>?_⟩;cases e
  |cons w0 w1=>
   have hs:w1.length<=1000000:=by simp at hw;omega
   have hi:∀x∈w1,(bl x).length<=1000000:=λx hx=>hb x (by simp[hx]);obtain⟨_,k2,k,n,rfl,hk,hh⟩:=VA (m:=m) (D:=D) (w1:=w1) (hb w0 (by simp));have a2:(ah (ua m).1 (ua m).2 (w0::w1) D nmT).o=.x (k,n):=k2.v;have b2:(ah (ua m).1 (ua m).2 (w0::w1) D nmT).ob:=k2.t;obtain⟨l1,l2⟩:=zi k
   have hn : -1<=(kd k).1/\(kd k).1<=2:=by
    rcases (show k=0\/k=1\/k=2\/k=3\/k=4\/k=5\/k=6 by omega) with rfl|rfl|rfl|rfl|rfl|rfl|rfl<;>decide
   have hc:cond (cmp .eql (da .str (w0::w1)) 0) true (cmp .lss D 1)=false:=by
    rw[hl,Fd,show decide (da .str (w0::w1)=0)=false from decide_eq_false (by show((w1.length+1:Nat):Int)≠0;omega)];rfl
   have ho:le3 1 (da .str (w0::w1)) (da .str (w0::w1)):=⟨by omega,by show(1:Int)<=((w1.length+1:Nat):Int);omega,Int.le_refl _⟩;have hdr:List.drop (Int.toNat 1) (w0::w1)=w1:=rfl
   have key:∃q,Ub (λs:LP×(List ByteArray)×Int=>ye (ua m).1 (ua m).2 D k n (kd k).1 w1 s.1 s.2.1 s.2.2) ([],w1,0) q /\
     ∃ht j,q=.x (ht,w1.drop j)/\∀ks r,(ks.length:Int)=(kd k).1->(∀x∈ks,okM d x=true)->w1=Ib d ks++r->ht=ks/\w1.drop j=r:=by
    by_cases hz:0<=(kd k).1
    .obtain⟨hu,hp⟩ : ∃hu:Nat,(kd k).1=hu:=⟨(kd k).1.toNat,by omega⟩;rw[hp];obtain⟨q,g1,ht,j,g2,g3⟩:=WA (λw hw hb=>ih m (by omega) (by omega) w hw hb) hq hs hi hu (by omega) k n;exact⟨q,g1,ht,j,g2,λks r e=>g3 ks r (by omega)⟩
    .have hj:cmp .lss 0 (kd k).1=false:=by rw[Ha];exact decide_eq_false (by omega)
     exact⟨.x ([],w1),.out (by simp only[ye,Tr.ob,hj];simp) (by simp only[ye,Tr.val,hj];rfl),[],0,rfl,λks r e=>by omega⟩
   obtain⟨_,k5,ht,j,rfl,h5⟩:=key;have a5:(bh (ua m).1 (ua m).2 D k n (kd k).1 w1).o=.x (ht,w1.drop j):=k5.v;have b5:(bh (ua m).1 (ua m).2 D k n (kd k).1 w1).ob:=k5.t;simp only[ua,Md,jk,Iq,nk,Kq,pcT,Tr.val,Tr.ob,ga,hc,a2,l2,hdr,a5,ocR];refine⟨by simp[b2,l1,l2,ho,b5],⟨j+1,rfl⟩,λp r h e=>?_⟩;have hr:Va p=true:=by simp only[okM,Bool.and_eq_true]at h;exact h.1
   simp only[Ra,List.cons_append,List.cons.injEq]at e;have h2:=hr;simp only[Va,decide_eq_true_eq]at h2;obtain⟨rfl,rfl⟩:=hh _ (Vc hr) e.1;obtain⟨rfl,h7⟩:=h5 p.Kids r h2.1 (ue h).2 e.2;rw[h7,fb]
open Classical in
noncomputable def Wb(s:ByteArray):Option Plan:=if h:∃p,okM 4 p=true/\ia 4 p=s then some h.choose else none
theorem YA{p q:Plan}(hp:okM 4 p=true)(hq:okM 4 q=true)(h:ia 4 p=ia 4 q):p=q:=by
 have e:Ra 4 p=Ra 4 q:=by rw[<-lh hp,<-lh hq,h]
 have h4:=(Ce hp).1
 obtain⟨_,_,h1⟩:=Wr 4 xa (by decide) (by decide) (Ra 4 p) (by
  rw[<-lh hp,List.length_map];have:=uk 32 (bl (ia 4 p));have:sz 4=105:=rfl;omega)
 have a:=h1 p [] hp (by simp);have b:=h1 q [] hq (by rw[e];simp);rw[a]at b;simp only[Prod.mk.injEq]at b;exact b.1
theorem Dn{p:Plan}(hp:okM 4 p=true):Wb (ia 4 p)=some p:=by
 have h:∃q,okM 4 q=true/\ia 4 q=ia 4 p:=⟨p,hp,rfl⟩;unfold Wb;rw[dif_pos h];exact congrArg some (YA h.choose_spec.1 hp h.choose_spec.2)
theorem nh{s:ByteArray}{p:Plan}(h:Wb s=some p):okM 4 p=true/\ia 4 p=s:=by
 unfold Wb at h;split at h
 .rename_i hh;cases h;exact hh.choose_spec
 .cases h
def oh:Option Plan->Plan×Bool×Unit
 |some p=>(p,true,())
 |none=>(⟨0,0,[]⟩,false,())
theorem xk{c:UInt8}:∀ {l x:List UInt8},x∈spl c l->x.length<=l.length
 |[],x,h=>by simp[spl]at h;rw[h];exact Nat.le_refl _
 |y::r,x,h=>by
  rw[Uc]at h;split at h
  .rcases List.mem_cons.1 h with rfl|h
   .exact Nat.zero_le _
   .exact Nat.le_succ_of_le (xk h)
  .cases hr:spl c r with
   |nil=>rw[hr]at h;simp at h;rw[h];simp
   |cons a t=>
    rw[hr]at h;rcases List.mem_cons.1 h with rfl|h
    .have:=xk (c:=c) (l:=r) (x:=a) (by rw[hr];simp);simp;exact this
    .exact Nat.le_succ_of_le (xk (by rw[hr];simp[h]))
theorem Ef{p:Plan}(hp:okM 4 p=true):(bl (ia 4 p)).length<=105/\ia 4 p≠ByteArray.empty:=by
 obtain⟨h1,h2⟩:=Ce hp;exact⟨h1,λe=>by rw[e]at h2;simp[Cr]at h2⟩
theorem Xr(s:ByteArray)(hs:(bl s).length<1000000000):vf s/\uf s=oh (Wb s):=by
 have hz:=ab s;by_cases hbig:2000<(bl s).length
 .have hg:cmp .gtr (ca s) 2000=true:=by rw[Tb,hz];exact decide_eq_true (by omega)
  have hi:Wb s=none:=by
   cases h:Wb s with
   |none=>rfl
   |some p=>
    obtain⟨h1,h2⟩:=nh h;have:=(Ef h1).1;rw[h2]at this;omega
  simp only[vf,uf,Jg,Tr.val,Tr.ob,hg,ocR,hi];exact⟨by simp,rfl⟩
 .have hg:cmp .gtr (ca s) 2000=false:=by rw[Tb,hz];exact decide_eq_false (by omega)
  obtain⟨s1,s2⟩:=split_ok (s:=s) 32 (by omega);have hj:((spl 32 (bl s)).map mkB).length<=1000000:=by rw[List.length_map];have:=uk 32 (bl s);omega
  obtain⟨r1,r2,r3⟩:=Wr 4 xa (by decide) (by decide) _ hj;have r1:Mm ((spl 32 (bl s)).map mkB) 4:=r1;have hv:(oa xa).1 ((spl 32 (bl s)).map mkB) ((4:Nat):Int)=Ij ((spl 32 (bl s)).map mkB) 4:=rfl;rw[hv]at r2 r3;simp only[vf,uf,Jg,Tr.val,Tr.ob,ga,hg,s2,fb,Ae];generalize Ij ((spl 32 (bl s)).map mkB) 4=V at r2 r3⊢;obtain⟨p1,p2⟩:=sm V.1;obtain⟨t1,t2⟩:=yn V.1;simp only[p2,t2];refine⟨by simp[s1,r1,p1,t1],?_⟩;cases hr:Wb s with
  |some p=>
   obtain⟨h1,h2⟩:=nh hr;have e:=r3 p [] h1 (by rw[<-h2,lh h1,List.append_nil]);rw[e];simp only[h1,Ta,if_true,h2];rfl
  |none=>
   have hh:¬ (okM 4 V.1=true/\Ta V.1=s):=λ⟨h1,h2⟩=>by
    unfold Ta at h2;rw[if_pos h1]at h2;rw[<-h2,Dn h1]at hr;cases hr
   have hA:cond (cond (cond (!V.2.2.1) true (cmp .gtr (da .str V.2.1) 0)) true (!okM 4 V.1)) true (!decide (Ta V.1=s))=true:=by
    cases V.2.2.1<;>cases cmp .gtr (da .str V.2.1) 0<;>cases ho:okM 4 V.1<;>simp;exact λh=>hh ⟨ho,h⟩
   rw[hA];rfl
theorem ZA(s:ByteArray)(hs:(bl s).length<1000000000):fh s/\eh s=oh (Wb s):=by
 have hz:=ab s;by_cases hbig:2000<(bl s).length
 .have hg:cmp .gtr (ca s) 2000=true:=by rw[Tb,hz];exact decide_eq_true (by omega)
  have hj:Wb s=none:=by
   cases h:Wb s with
   |none=>rfl
   |some p=>
    obtain⟨h1,h2⟩:=nh h;have:=(Ef h1).1;rw[h2]at this;omega
  simp only[fh,eh,dh,Tr.val,Tr.ob,hg,ocR,hj];exact⟨by simp,rfl⟩
 .have hg:cmp .gtr (ca s) 2000=false:=by rw[Tb,hz];exact decide_eq_false (by omega)
  obtain⟨s1,s2⟩:=CA s 32 (by omega);have s1:Sg s 32:=s1;have s2:Rg s 32=(spl 32 (bl s)).map mkB:=s2;have hl:((spl 32 (bl s)).map mkB).length<=1000000:=by rw[List.length_map];have:=uk 32 (bl s);omega
  have hk:∀x∈(spl 32 (bl s)).map mkB,(bl x).length<=1000000:=λx hx=>by
   obtain⟨y,hy,rfl⟩:=List.mem_map.1 hx;have:=xk hy;rw[Nd];omega
  obtain⟨r1,_,r3⟩:=XA 4 xa (by decide) (by decide) _ hl hk;have r1:Um ((spl 32 (bl s)).map mkB) 4:=r1;have hv:(ua xa).1 ((spl 32 (bl s)).map mkB) ((4:Nat):Int)=qk ((spl 32 (bl s)).map mkB) 4:=rfl;rw[hv]at r3;simp only[fh,eh,dh,Tr.val,Tr.ob,ga,hg,s2,fb,Ae];generalize qk ((spl 32 (bl s)).map mkB) 4=V at r3⊢;obtain⟨t1,t2⟩:=zn V.1;simp only[t2];refine⟨by simp[s1,r1,t1],?_⟩;cases hr:Wb s with
  |some p=>
   obtain⟨h1,h2⟩:=nh hr;have e:=r3 p [] h1 (by rw[<-h2,lh h1,List.append_nil]);have hi:=(Ef h1).2;rw[h2]at hi;rw[e,decide_eq_false hi];simp only[h1,Ta,if_true,h2];rfl
  |none=>
   have hA:cond (decide (s=ByteArray.empty)) true (!decide (Ta V.1=s))=true:=by
    by_cases h0:s=ByteArray.empty
    .rw[decide_eq_true h0];rfl
    .have hh:¬ Ta V.1=s:=λh2=>by
      unfold Ta at h2;split at h2
      .rename_i h1;rw[<-h2,Dn h1]at hr;cases hr
      .exact h0 h2.symm
     rw[decide_eq_false h0,decide_eq_false hh];rfl
   rw[hA];rfl
def Bd:Nat->Int
 |0=>2
 |d+1=>2*Bd d+4
theorem Yr:∀d,2<=Bd d
 |0=>Int.le_refl _
 |d+1=>by have:=Yr d;simp only[Bd];omega
theorem De{d:Nat}{k n:Int}{ks:List Plan}(h1:(ks.length:Int)=(kd k).1)(h2:(kd k).2.1<=n/\n<=(kd k).2.2)(h3:∀x∈ks,okM d x=true):okM (d+1) ⟨k,n,ks⟩=true:=by
 simp only[okM,Bool.and_eq_true,List.all_eq_true,Va,decide_eq_true_eq];exact⟨⟨h1,h2⟩,h3⟩
theorem aB{b:List Int}(hb:se b):∀(d n:Nat),d<n->d<=4->∀p:Int,0<=p/\p+Bd d<=500000 ->
  (ib n).2 (b,p) d/\p<=((ib n).1 (b,p) d).2/\((ib n).1 (b,p) d).2<=p+Bd d/\okM (max d 1) ((ib n).1 (b,p) d).1=true:=by
 intro d
 induction d with
 |zero=>
  intro n hn _ p hp;obtain⟨m,rfl⟩ : ∃m,n=m+1:=⟨n - 1,by omega⟩;have hB:Bd 0=2:=rfl;obtain⟨x1,x2,x3,x4⟩:=gc hb (p:=p) (n:=2) (by omega) (by omega);have hl:cmp .lss ((0:Nat):Int) 2=true:=rfl;simp only[ib,ve,Tr.val,Tr.ob,ga,hl,cond_true,Bool.not_true,Bool.false_and,cond_false,ocR,x2];exact⟨by simp[x1],by omega,by omega,De (d:=0) rfl ⟨x3,by show _<=(1:Int);omega⟩ (by simp)⟩
 |succ d ih=>
  intro n hn hd p hp;obtain⟨m,rfl⟩ : ∃m,n=m+1:=⟨n - 1,by omega⟩;have hh:=Yr d;have hB:Bd (d+1)=2*Bd d+4:=rfl;generalize hD:((d+1:Nat):Int)=D;have hj:ar .sub .i64 D 1=(d:Int):=by rw[Ve (by omega)];omega
  obtain⟨x1,x2,_,_⟩:=gc hb (p:=p) (n:=6) (by omega) (by omega)
  have hP:p<=cond ((!(cmp .lss D 2))&&true) (Fa (b,p) 6).2 p/\cond ((!(cmp .lss D 2))&&true) (Fa (b,p) 6).2 p<=p+1:=by
   rw[x2];cases cmp .lss D 2<;>simp<;>omega
  simp only[ib,ve,Tr.val,Tr.ob,ga,hj];generalize cond ((!(cmp .lss D 2))&&true) (Fa (b,p) 6).2 p=P at hP⊢;obtain⟨y1,y2,y3,y4⟩:=gc hb (p:=P) (n:=2) (by omega) (by omega);obtain⟨z1,z2,_,_⟩:=gc hb (p:=P) (n:=6) (by omega) (by omega);obtain⟨u1,u2,u3,u4⟩:=gc hb (p:=P+1) (n:=7) (by omega) (by omega);obtain⟨w1,w2,w3,w4⟩:=gc hb (p:=P+1) (n:=3) (by omega) (by omega)
  have R:∀q,P+1<=q->q<=P+2+Bd d->(ib m).2 (b,q) d/\q<=((ib m).1 (b,q) d).2/\((ib m).1 (b,q) d).2<=q+Bd d/\okM (max d 1) ((ib m).1 (b,q) d).1=true:=λq h1 h2=>ih m (by omega) (by omega) q (by omega)
  obtain⟨r1,r2,r3,r4⟩:=R (P+1) (by omega) (by omega);obtain⟨s1,s2,s3,s4⟩:=R (P+1+1) (by omega) (by omega);obtain⟨t1,t2,t3,t4⟩:=R ((ib m).1 (b,P+1) d).2 (by omega) (by omega);have hm:max (d+1) 1=d+1:=by omega
  rw[hm];simp only[z2,u2,w2,y2,fb];cases hc:cond (cmp .lss D 2) true (cmp .eql (Fa (b,p) 6).1 0) with
  |true=>exact⟨by simp[x1,y1],by simp only[ocR];omega,by simp only[ocR];omega,De rfl ⟨y3,by show _<=(1:Int);omega⟩ (by simp)⟩
  |false=>
   have hi:max d 1=d:=by
    cases h2:cmp .lss D 2 with
    |true=>rw[h2]at hc;cases hc
    |false=>rw[Ha]at h2;have:=of_decide_eq_false h2;omega
   rw[hi]at r4 s4 t4;have a7:ar .add .i64 1 (Fa (b,P+1) 7).1=1+(Fa (b,P+1) 7).1:=Ab (by omega);have a3:ar .add .i64 1 (Fa (b,P+1) 3).1=1+(Fa (b,P+1) 3).1:=Ab (by omega);simp only[a7,a3];cases cmp .eql (Fa (b,P) 6).1 0 with
   |true=>exact⟨by simp[x1,z1,u1,s1],by simp only[ocR];omega,by simp only[ocR];omega,De rfl ⟨by show(1:Int)<=_;omega,by show _<=(7:Int);omega⟩ (by simp[s4])⟩
   |false=>
    cases cmp .eql (Fa (b,P) 6).1 1 with
    |true=>exact⟨by simp[x1,z1,r1,t1],by simp only[ocR];omega,by simp only[ocR];omega,De rfl ⟨Int.le_refl _,Int.le_refl _⟩ (by simp[r4,t4])⟩
    |false=>
     cases cmp .eql (Fa (b,P) 6).1 2 with
     |true=>exact⟨by simp[x1,z1,r1],by simp only[ocR];omega,by simp only[ocR];omega,De rfl ⟨Int.le_refl _,Int.le_refl _⟩ (by simp[r4])⟩
     |false=>
      cases cmp .eql (Fa (b,P) 6).1 3 with
      |true=>exact⟨by simp[x1,z1,r1,t1],by simp only[ocR];omega,by simp only[ocR];omega,De rfl ⟨Int.le_refl _,Int.le_refl _⟩ (by simp[r4,t4])⟩
      |false=>exact⟨by simp[x1,z1,w1,s1],by simp only[ocR];omega,by simp only[ocR];omega,De rfl ⟨by show(1:Int)<=_;omega,by show _<=(3:Int);omega⟩ (by simp[s4])⟩
theorem Zr{b:List Int}(hb:se b){p:Int}(hp:0<=p/\p<=1000):Fi (b,p) 4/\p<=(Vb (b,p) 4).2/\(Vb (b,p) 4).2<=p+92/\okM 4 (Vb (b,p) 4).1=true:=aB hb 4 xa (by decide) (by decide) p (by have:Bd 4=92:=rfl;omega)
theorem bB{b:List Int}(hb:se b){p:Int}(hp:0<=p/\p<=100000){l:List ByteArray}(h0:0<l.length)(h1:l.length<=100):Qj (b,p) l/\(yf (b,p) l).2=p+1/\(yf (b,p) l).1∈l:=by
 have hl:da .str l=(l.length:Int):=rfl;obtain⟨x1,x2,x3,x4⟩:=gc hb (p:=p) (n:=(l.length:Int)) (by omega) (by omega);simp only[Qj,yf,Pj,Tr.val,Tr.ob,ga,hl,ocR];refine⟨⟨⟨x1,⟨x3,x4⟩,trivial⟩,trivial⟩,x2,?_⟩;show l.getD _ _∈l;rw[List.getD_eq_getElem?_getD,List.getElem?_eq_getElem (by omega)];exact List.getElem_mem _
theorem cB{b:List Int}(hb:se b):Ji (b,0):=by
 obtain⟨a1,a2,a3,_⟩:=Zr hb (p:=0) (by omega);generalize hq:(Vb (b,0) 4).2=q at a2 a3;obtain⟨x1,x2,_,_⟩:=gc hb (p:=q) (n:=24) (by omega) (by omega);obtain⟨y1,_,_,_⟩:=gc hb (p:=q+1) (n:=9) (by omega) (by omega)
 have k:∀x y z,(xm b q x y z).ob:=λx y z=>by
  simp only[xm,Tr.ob,ga,x2];simp[x1,y1]
 simp only[Ji,Ii,Gi,pcT,Tr.ob,ga,hq];simp[a1,k]
theorem dB(c:List Int)(hc:∀x∈c,0<=x/\x<=255):Pm c/\Om c=true:=by
 obtain⟨o1,b,o2,hb⟩:=xp hc
 have hd:Li c:=by
  simp only[Li,Ki,Tr.ob,ga,o2];exact⟨⟨o1,cB hb,trivial⟩,trivial⟩
 simp only[Pm,Om,Oj,Tr.val,Tr.ob,ga,fb,Ae];cases cmp .gtr (da .byte c) 1048576 with
 |true=>exact⟨by simp,rfl⟩
 |false=>
  generalize zm c=p;obtain⟨t1,t2⟩:=yn p;obtain⟨s1,s2⟩:=zn p;simp only[t2,s2]
  have ht:(bl (Ta p)).length<1000000000:=by
   unfold Ta;split
   .rename_i h;have:=(Ef h).1;omega
   .simp[Cr]
  obtain⟨l1,l2⟩:=Xr (Ta p) ht;simp only[l2];cases ho:okM 4 p with
  |false=>
   have e:Ta p=ByteArray.empty:=by unfold Ta;rw[ho];rfl
   rw[e];exact⟨by simp[hd,t1,s1],by simp[ocR]⟩
  |true=>
   have e:Ta p=ia 4 p:=by unfold Ta;rw[ho];rfl
   have hh:=(Ef ho).2;obtain⟨w1,w2⟩:=Gn (En ho);rw[e]at l1⊢;rw[Dn ho];simp only[oh,decide_eq_false hh,w2];exact⟨by simp[hd,t1,s1,l1,w1],by simp[ocR]⟩
theorem eB{c:List Int}(hc:∀x∈c,0<=x/\x<=255):Sj c/\(bl (Og c)).length<100000:=by
 obtain⟨o1,b,o2,hb⟩:=xp hc;obtain⟨a1,a2,a3,a4⟩:=Zr hb (p:=0) (by omega);obtain⟨t1,t2⟩:=zn (Vb (b,0) 4).1;have te:Ta (Vb (b,0) 4).1=ia 4 (Vb (b,0) 4).1:=by unfold Ta;rw[if_pos a4]
 obtain⟨n1,_⟩:=Ef a4;have n0:=(Ce a4).2;rw[te]at t2;have hz:=ab (ia 4 (Vb (b,0) 4).1);simp only[Sj,Og,Rj,Tr.val,Tr.ob,ga,fb,o2,t2];generalize ia 4 (Vb (b,0) 4).1=s at n0 n1 hz⊢;generalize (Vb (b,0) 4).2=q at a2 a3⊢;obtain⟨x1,x2,_,_⟩:=gc hb (p:=q) (n:=3) (by omega) (by omega);obtain⟨y1,y2,y3,y4⟩:=gc hb (p:=q+1) (n:=ca s) (by omega) (by omega);obtain⟨z1,z2,_,_⟩:=gc hb (p:=q+2) (n:=4) (by omega) (by omega);obtain⟨w1,_,w2⟩:=bB hb (p:=q+3) (by omega) (l:=[bs [32],bs [105,110,48],bs [48],bs [101,97,99,104,57,32]]) (by decide) (by decide);simp only[x2,y2,show q+1+1=q+2 by omega,z2,show q+2+1=q+3 by omega];generalize (Fa (b,q+1) (ca s)).1=i at y3 y4⊢;generalize (yf (b,q+3) [bs [32],bs [105,110,48],bs [48],bs [101,97,99,104,57,32]]).1=u at w2⊢
 have hu:(bl u).length<=6:=by
  simp only[List.mem_cons,List.not_mem_nil,or_false]at w2;rcases w2 with rfl|rfl|rfl|rfl<;>decide
 have hh:ar .add .i64 i 1=i+1:=Ab (by omega);have hi:le3 0 i (ca s):=⟨by omega,y3,by omega⟩;have hj:le3 (i+1) (ca s) (ca s):=⟨by omega,by omega,by omega⟩;have hk:le3 i (ca s) (ca s):=⟨y3,by omega,by omega⟩;have hl:∀i j,(bl (za s i j)).length<=105:=λi j=>by rw[jh,List.length_drop,List.length_take];omega
 have h1:=hl 0 i;have h2:=hl (i+1) (ca s);have h3:=hl i (ca s)
 have L:∀a b:ByteArray,(bl a).length<=10000->(bl b).length<=10000->lim (ca a) (ca b):=λa b h1 h2=>by
  unfold lim;rw[ab,ab];omega
 simp only[hh];have m1:=L _ _ (show(bl (za s 0 i)).length<=10000 by omega) (show(bl (za s (i+1) (ca s))).length<=10000 by omega);have m2:=L _ _ (show(bl (za s 0 i)).length<=10000 by omega) (show(bl u).length<=10000 by omega);have m3:=L _ _ (show(bl (za s 0 i++u)).length<=10000 by rw[Hb,List.length_append];omega) (show(bl (za s i (ca s))).length<=10000 by omega);have m4:=L s (bs [32]) (by omega) (by decide);have m5:=L (s++bs [32]) s (by rw[Hb,List.length_append];have:(bl (bs [32])).length=1:=rfl;omega) (by omega);cases cmp .gtr (Fa (b,q) 3).1 0 with
 |true=>exact⟨by simp[o1,a1,t1,x1],by simp only[ocR];omega⟩
 |false=>
  cases cmp .eql (Fa (b,q+2) 4).1 0 with
  |true=>exact⟨by simp[o1,a1,t1,x1,y1,z1,hi,hj,m1],by simp only[ocR,Hb,List.length_append];omega⟩
  |false=>
   cases cmp .eql (Fa (b,q+2) 4).1 1 with
   |true=>exact⟨by simp[o1,a1,t1,x1,y1,z1,hi,hk,w1,m2,m3],by simp only[ocR,Hb,List.length_append];omega⟩
   |false=>
    cases cmp .eql (Fa (b,q+2) 4).1 2 with
    |true=>exact⟨by simp[o1,a1,t1,x1,y1,z1,m4,m5],by simp only[ocR,Hb,List.length_append,sc,List.length_cons,List.length_nil];omega⟩
    |false=>exact⟨by simp[o1,a1,t1,x1,y1,z1,hi],by simp only[ocR];omega⟩
theorem fB(c:List Int)(hc:∀x∈c,0<=x/\x<=255):Xm c/\Wm c=true:=by
 obtain⟨d1,d2⟩:=eB hc;simp only[Xm,Wm,rk,Tr.val,Tr.ob,ga,fb,Ae];cases cmp .gtr (da .byte c) 1048576 with
 |true=>exact⟨by simp,rfl⟩
 |false=>
  generalize Og c=s at d2⊢;obtain⟨i1,i2⟩:=Xr s (by omega);obtain⟨s1,s2⟩:=ZA s (by omega);simp only[i2,s2];cases hr:Wb s with
  |none=>
   obtain⟨w1,w2⟩:=Gn (p:=⟨0,0,[]⟩) (by decide);simp only[oh,w2];exact⟨by simp[d1,i1,s1,w1],by simp[ocR]⟩
  |some p=>
   obtain⟨h1,h2⟩:=nh hr;obtain⟨w1,w2⟩:=Gn (En h1);obtain⟨o1,o2⟩:=sm p;obtain⟨t1,t2⟩:=yn p;have te:Ta p=s:=by unfold Ta;rw[if_pos h1,h2]
   simp only[oh,w2,o2,h1,t2,te];exact⟨by simp[d1,i1,s1,w1,o1,t1],by simp[ocR]⟩
theorem Fy:Ya Tryd.prog tt:=Yo (by kernel_rfl)
theorem Gy : Tryd.prog.follows .mixedOrders=true:=by kernel_rfl
theorem g0:Gd []:=.nil Fy Gy
theorem Pq:CP 18 Ci:=lv (g0)
theorem sk:CP 25 Ye:=sv (g0)
theorem Qq:∀n,CP 24 (Ei (ib n).1 (ib n).2)
 |0=>Nc (fn:=Tryd.f24) (c:=dc Tryd.f24) (by kernel_rfl) (by kernel_rfl) (by kernel_rfl) λ_ h=>h
 |n+1=>xv (.cons sk (.cons (Qq n) g0))
theorem Rq:CP 24 vm:=(Qq xa)
theorem Hy:CP 17 ym:=Cv (.cons Rq (.cons sk g0))
theorem Iy:CP 6 Am:=Fv (.cons Pq (.cons Hy g0))
theorem Sq:CP 37 Qi:=Kv (g0)
theorem Tq:∀n,CP 29 (Ri (mb n).1 (mb n).2)
 |0=>Nc (fn:=Tryd.f29) (c:=dc Tryd.f29) (by kernel_rfl) (by kernel_rfl) (by kernel_rfl) λ_ h=>h
 |n+1=>Qv (.cons Sq (.cons (Tq n) g0))
theorem Jy:CP 29 Np:=(Tq xa)
theorem Ym:CP 13 rg:=Uv (.cons Jy g0)
theorem Uq:CP 33 Xi:=Yv (.cons dz g0)
theorem Vq:∀n,CP 19 (Yi (Bb n).1 (Bb n).2)
 |0=>Nc (fn:=Tryd.f19) (c:=dc Tryd.f19) (by kernel_rfl) (by kernel_rfl) (by kernel_rfl) λ_ h=>h
 |n+1=>ew (.cons Uq (.cons (Vq n) g0))
theorem Ky:CP 19 Tp:=(Vq xa)
theorem Zm:CP 7 vg:=iw (.cons Ym (.cons Ky g0))
theorem bn:CP 35 wg:=nw (g0)
theorem Ly:CP 41 Hm:=tw (g0)
theorem Wq:∀n,CP 34 (lj (nb n).1 (nb n).2)
 |0=>Nc (fn:=Tryd.f34) (c:=dc Tryd.f34) (by kernel_rfl) (by kernel_rfl) (by kernel_rfl) λ_ h=>h
 |n+1=>zw (.cons bn (.cons Ly (.cons (Wq n) g0)))
theorem My:CP 34 dq:=(Wq xa)
theorem Ny:CP 20 Im:=Dw (.cons My g0)
theorem Xq:∀n,CP 36 (tj (pb n).1 (pb n).2)
 |0=>Nc (fn:=Tryd.f36) (c:=dc Tryd.f36) (by kernel_rfl) (by kernel_rfl) (by kernel_rfl) λ_ h=>h
 |n+1=>Hw (.cons (Xq n) g0)
theorem Yq:CP 36 Jm:=(Xq xa)
theorem Zq:∀n,CP 21 (uj (Za n).1 (Za n).2)
 |0=>Nc (fn:=Tryd.f21) (c:=dc Tryd.f21) (by kernel_rfl) (by kernel_rfl) (by kernel_rfl) λ_ h=>h
 |n+1=>Ow (.cons bn (.cons Yq (.cons (Zq n) g0)))
theorem Oy:CP 21 lq:=(Zq xa)
theorem cn:CP 8 Cg:=Sw (.cons Ny (.cons Oy g0))
theorem br:∀n,CP 22 (Bj (oa n).1 (oa n).2)
 |0=>Nc (fn:=Tryd.f22) (c:=dc Tryd.f22) (by kernel_rfl) (by kernel_rfl) (by kernel_rfl) λ_ h=>h
 |n+1=>nx (.cons Sq (.cons Uq (.cons (br n) g0)))
theorem Py:CP 22 uq:=(br xa)
theorem gr:CP 9 Jj:=tx (.cons ez (.cons Py (.cons Ym (.cons Zm g0))))
theorem ir:∀n,CP 10 (Kj (Cb n).1 (Cb n).2)
 |0=>Nc (fn:=Tryd.f10) (c:=dc Tryd.f10) (by kernel_rfl) (by kernel_rfl) (by kernel_rfl) λ_ h=>h
 |n+1=>Cx (.cons (ir n) g0)
theorem jr:CP 10 Nm:=(ir xa)
theorem Qy:CP 3 zq:=Gx (.cons Iy (.cons Zm (.cons cn (.cons gr (.cons jr g0)))))
theorem Ry:CP 26 Qm:=Kx (.cons sk g0)
theorem Sy:CP 11 Rm:=Ox (.cons Pq (.cons Rq (.cons cn (.cons sk (.cons Ry g0)))))
theorem Uy:CP 28 Sm:=Vx (g0)
theorem Vy:CP 39 Tm:=ey (.cons Yq g0)
theorem lr:∀n,CP 27 (fk (ua n).1 (ua n).2)
 |0=>Nc (fn:=Tryd.f27) (c:=dc Tryd.f27) (by kernel_rfl) (by kernel_rfl) (by kernel_rfl) λ_ h=>h
 |n+1=>uy (.cons Vy (.cons bn (.cons (lr n) g0)))
theorem Wy:CP 27 Lq:=(lr xa)
theorem Xy:CP 12 Vm:=Ay (.cons Uy (.cons Wy (.cons cn g0)))
theorem Yy:CP 4 Oq:=Ey (.cons Sy (.cons Xy (.cons gr (.cons jr (.cons Ym (.cons Zm g0))))))
end Go.Proofs.YtlfflhpmkoiemaaDoor
