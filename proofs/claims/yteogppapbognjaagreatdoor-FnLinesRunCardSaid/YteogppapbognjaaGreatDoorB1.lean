/-
  What 'FlowTimes' computes: the times of a key's rows, and all their joins, in order. Calls into the library: strings.Split at a separator of one byte, strconv.Itoa of numbers below 100. Calls into the library: strings.CutPrefix, strings.TrimPrefix. No statement is proved here.
-/
import Derived.Test.YteogppapbognjaaGreatDoorAR
import Derived.Test.YteogppapbognjaaGreatDoorProg
import Derived.Shelf.Strings.Split
import Derived.Shelf.Strconv.Itoa3
import Derived.Shelf.Strings.Builder1
import Derived.Shelf.Strings.Prefix
import Derived.Shelf.Small.Wraps
import Derived.Tactics2
import Derived.IntWalk
namespace Go.Proofs.YteogppapbognjaaGreatDoor
open Go
open Go.Proofs.YteogppapbognjaaGreatDoor.Plan renaming mk→aal
open _root_.ByteArray renaming empty→aam
open Go.Proofs.YteogppapbognjaaGreatDoor.Sess renaming mk→aan
open Go.IntKind renaming wrap→aao,i64→aaW,wrap_i64→abw
open _root_.List renaming mem_map→aap,getD_eq_getElem?_getD→aau,pairwise_cons→aaw,foldl_cons→aax,length_map→aay,mem_cons→aaA,length_singleton→aaD,length_filter_le→aaG,length_append→aaJ,mem_filter→aaK,filter_append→aaM,append_assoc→aaN,length_cons→aaQ,map_map→aaU,replicate→aaV,cons_append→aaX,drop→aaY,append_nil→aba,mem_of_getElem?→abb,map_congr_left→abe,pairwise_map→abg,drop_eq_getElem_cons→abh,getElem?_eq_getElem→abi,map_append→abk,mem_append→abl,length→abm,mem_of_mem_take→abp,map_cons→abq
open Go.Proofs.YteogppapbognjaaGreatDoor.Time renaming mk→aaq
open Go.Proofs.YteogppapbognjaaGreatDoor.Row renaming mk→aar
open Go.Proofs.Tryz renaming prog→aas
open Go.Proofs.YteogppapbognjaaGreatDoor.Tr renaming val→aat,ob→aaF
open _root_.Int renaming toNat→aav,tmod_lt_of_pos→aaL,tmod_nonneg→abc,toNat_natCast→abf,le_refl→abn,zero_add→abt
open Go.Lib renaming countB→aaz,splitB→aaZ
open Go.Proofs.YteogppapbognjaaGreatDoor.Item renaming mk→aaB
open Go.IntWalk renaming i64_in→aaC
open Go.Result renaming andThen_ok→aaE
open _root_.Nat renaming le_refl→aaH,le_of_ble_eq_true→aaO
open _root_.BitVec renaming ofInt→aaI,toNat_ofInt→abu
open Go.Sem renaming run_bind→aaP
open _root_.Array renaming getElem?_append_left→aaR
open Go.Shelf renaming Ren→aaS
open Go.Value renaming string→aaT
open Go.Instr renaming mapUpdate→abd,findAsking→abj,findNow→abr
open Go renaming run_underlying→abo
open _root_.Ne renaming symm→abv
open Go.Ending renaming returned→abx
open _root_.Option.some renaming inj→aby
set_option maxRecDepth 100000
def Mb(x:Row):Bool:=decide (0<=x.Key/\x.Key<=3/\0<=x.Val/\x.Val<=99/\(0<=x.At.A/\x.At.A<=7/\0<=x.At.B/\x.At.B<=7)/\-99999<=x.Diff/\x.Diff<=99999)
def Nb(xs:List Row):Bool:=xs.all Mb&&decide (xs.length<=400)
def xa(t:Time):Bool:=decide (0<=t.A/\t.A<=7/\0<=t.B/\t.B<=7)
def jT(xs:List Row)(k:Int)(t:Time):Bool:=xs.any (λx=>decide (x.Key=k/\x.At.A=t.A/\x.At.B<=t.B))&&xs.any (λx=>decide (x.Key=k/\x.At.B=t.B/\x.At.A<=t.A))
def rowP(p:Time->Bool)(i:Int)(n:Nat):List Time:=((List.range n).filter λb:Nat=>p ⟨i,(b:Int)⟩).map λb:Nat=>(⟨i,(b:Int)⟩ : Time)
def Zc(p:Time->Bool):Nat->List Time
 |0=>[]
 |n+1=>Zc p n++rowP p n 8
def yb(xs:List Row)(k:Int):List Time:=if Nb xs=true then Zc (jT xs k) 8 else []
def AN(xs:List Row)(_:Int):Prop:=xs.length<=1000000
def DX:Spec:=⟨[.lst .row,.int .i64],.one .fr (.lst .time),false,λx=>(yb x.1 x.2.1,0),λx=>AN x.1 x.2.1⟩
section
open Go Go.Proofs Go.Shelf Go.RowKit Go.Lib Go.Sort
def uX:aaS:=⟨fun|146=>20|221=>31|268=>51|138=>52|143=>53|195=>77|197=>78|218=>79|219=>80|260=>106|217=>107|225=>108|224=>109|267=>110|266=>126|314=>127|n=>n,fun|9=>9|31=>40|3=>3|4=>4|0=>0|105=>114|21=>21|5=>5|46=>127|119=>132|139=>135|138=>134|146=>137|51=>136|n=>n,fun|1=>0|3=>1|4=>2|n=>n⟩
theorem wN:Go.Proofs.Lays.n146 aas uX:=by constructor<;>first|(constructor<;>(intros;kernel_rfl))|(intros;kernel_rfl)
def xah:aaS:=⟨fun|171=>59|243=>95|246=>120|283=>135|284=>136|285=>137|286=>138|129=>155|317=>154|318=>156|319=>157|320=>158|337=>183|338=>184|n=>n,fun|3=>3|9=>9|2=>2|4=>4|171=>144|0=>0|53=>145|37=>22|5=>5|173=>148|212=>170|51=>136|20=>20|213=>171|46=>127|232=>193|233=>194|n=>n,fun|17=>3|18=>4|19=>5|n=>n⟩
theorem xN:Go.Proofs.LaysM.n171 aas xah:=by constructor<;>first|(constructor<;>(intros;kernel_rfl))|(intros;kernel_rfl)
def yah:aaS:=⟨fun|103=>32|210=>54|206=>81|n=>n,fun|9=>9|4=>4|24=>67|3=>3|n=>n,fun|n=>n⟩
theorem zah:Go.Proofs.Lays.n103 aas yah:=by constructor<;>first|(constructor<;>(intros;kernel_rfl))|(intros;kernel_rfl)
def Aah:aaS:=⟨fun|101=>56|208=>84|206=>81|n=>n,fun|9=>9|4=>4|3=>3|n=>n,fun|n=>n⟩
theorem Bah:Go.Proofs.Lays.n101 aas Aah:=by constructor<;>first|(constructor<;>(intros;kernel_rfl))|(intros;kernel_rfl)
def vX:aaS:=⟨fun|169=>23|n=>n,fun|70=>48|9=>9|0=>0|72=>50|37=>22|127=>73|3=>3|5=>5|n=>n,fun|n=>n⟩
theorem Cah:Go.Proofs.Lays.n169 aas vX:=by constructor<;>first|(constructor<;>(intros;kernel_rfl))|(intros;kernel_rfl)
def wX:aaS:=⟨fun|166=>22|240=>38|276=>61|n=>n,fun|37=>22|70=>48|72=>50|75=>55|80=>58|164=>97|n=>n,fun|n=>n⟩
theorem xX:Go.Proofs.Lays.n166 aas wX:=by constructor<;>first|(constructor<;>(intros;kernel_rfl))|(intros;kernel_rfl)
theorem yX{F F':Fz}{w:World}(h:Live F w)(hs:∀b o,F b o->F' b o)(n:Nat)(os:Array Obj)(ho:∀b o,F' b o->((grow (w.drewN n) os).cell? ⟨b,o,none⟩).isSome):Live F' (grow (w.drewN n) os):=⟨ho,λg cs ht=>⟨λo h1=>hs _ _ ((h.tab g cs ht).1 o h1),by
   obtain⟨_,t,z,h2⟩:=h.tab g cs ht;refine⟨t,z,?_⟩;show(w.heap++os)[g]? = _;rw[aaR (Array.getElem?_eq_some_iff.1 h2).1];exact h2⟩⟩
theorem zX{F:Fz}{w:World}(h:Live F w)(n:Nat)(os:Array Obj):Live F (grow (w.drewN n) os):=yX h (λ_ _ h=>h) n os λb o hb=>by
 have:(w.heap++os)[b]? = w.heap[b]?:=aaR (h.lt hb);rw[cell_of_heap (w:=w) this];exact h b o hb
theorem rB{P:Program}{f:Nat}{s:Spec}(hfn:∃fn,P.funcs[f]? = some fn/\(fn.name == "runtime.NumGoroutine")=false/\fn.body.isNone=false)
  (h:∀(x:Ab s.pts),s.pre x->∀(w:World) (F:Fz) (vs:List Value) (io:Option Nat),Live F w->xe F w s.pts x vs io->io=none/\Calls P f vs.toArray w λe w'=>∃v F' n os,e=.returned v/\w'=grow (w.drewN n) os/\(∀b o,F b o->F' b o)/\(∀b o,F' b o->F b o\/w.heap.size<=b)/\Live F' w'/\VR F' w.heap.size w' (λ_=>none) (s.rt.av (s.val x).1) v):Con P f s:=⟨hfn,λx hp w F vs io hl ha=>by
   obtain⟨rfl,hc⟩:=h x hp w F vs io hl ha;refine hc.mono ?_;rintro e w' ⟨v,F',n,os,rfl,rfl,h1,h2,h3,h4⟩;refine⟨v,F',λ_=>none,rfl,⟨rfl,rfl,rfl,?_,?_,h1,h2,h3⟩,(λi b h=>by cases h),(λi i' b h=>by cases h),h4,λb bs h=>by cases h⟩
   .show w.heap.size<=(w.heap++os).size;simp
   .intro k hk _;show(w.heap++os)[k]? = _;rw[aaR hk]⟩
noncomputable def Fe(n:Int):ByteArray:=⟨(Lib.itoa n).toArray⟩
def tf(n:Int):Prop:=-9223372036854775808<=n/\n<=9223372036854775807
noncomputable def sB:Spec:=spF [.int .i64] (.one .fr .str) Fe tf
theorem yN:Con aas 59 sB:=by
 refine rB ⟨Tryz.f59,by kernel_rfl,by kernel_rfl,by kernel_rfl⟩ λ⟨n,u⟩ hp w F vs io hl ha=>?_;obtain⟨v,_,rfl,hv,rfl,rfl⟩:=ha;have hv:RC F 0 w (.int .i64 n) v:=hv;cases hv;obtain⟨h0,h1⟩ : -9223372036854775808<=(n:Int)/\(n:Int)<=9223372036854775807:=hp;refine⟨rfl,?_⟩
 have ht:Lib.TabIs aas w "internal/strconv.uint64pow10" .u64 Lib.pow10Tab:=by
  obtain⟨_,t,z,h2⟩:=hl.tab _ _ ⟨xN.m17,rfl⟩;unfold Lib.TabIs World.var?;rw[xN.m17];simp only[Option.bind_some,h2]
 refine(Any.strconv_Itoa xN n h0 h1 w ht).mono ?_;rintro e w' ⟨rfl,k,os,rfl⟩;exact⟨_,F,k,os,rfl,rfl,λ_ _ h=>h,λ_ _ h=>.inl h,zX hl k os,.str _⟩
noncomputable def se(s sep:ByteArray):List ByteArray:=aaZ sep 0 (aaz s sep) s
def Em(s sep:ByteArray):Prop:=sep.size=1/\s.size<4294967281
noncomputable def tB:Spec:=spF [.str,.str] (.one .fr (.lst .str)) se Em
set_option maxHeartbeats 1000000 in
theorem split_c(s:ByteArray)(c:UInt8)(w:World)(hs:s.size<4294967281) :
  Calls aas 20 #[.string s,.string ⟨#[c]⟩] w λe w'=>
   e=.returned (.slice (some ⟨w.heap.size,0,none⟩) (aaz s ⟨#[c]⟩+1) (aaz s ⟨#[c]⟩+1))/\w'=w.alloc (.cells ((aaZ ⟨#[c]⟩ 0 (aaz s ⟨#[c]⟩) s).map aaT).toArray 9):=by
 have h1:1<=(⟨#[c]⟩ : ByteArray).size:=aaH 1;have hh:=Lib.countB_le ⟨#[c]⟩ h1 s.size s (aaH _);have hlen:=Lib.splitB_all ⟨#[c]⟩ h1 0 _ s rfl
 have hC:Calls aas (uX.f 138) #[.string s,.string ⟨#[c]⟩] w λe w'=>e=.returned (.int .i64 (aaz s ⟨#[c]⟩))/\w'=w:=by
  refine(Any.strings_Count_one { wN with } s c w).mono λe w' ⟨he,hw⟩=>⟨?_,hw⟩;rw[he];show _=abx (Value.int .i64 ((Lib.count s.data.toList [c]:Nat):Int));rw[Lib.count_one];rfl
 have c1:=Any.strings_genSplit_core (P:=aas) { wN with } (by kernel_rfl) s ⟨#[c]⟩ 0 (-1) (aaz s ⟨#[c]⟩+1) w hs h1 (Nat.zero_le _)
  (λx cs _=>(Any.strings_Index_one { wN with } x c _).mono λe w' ⟨he,hw⟩=>⟨by rw[he];show _=abx (Value.int .i64 (Lib.index x.data.toList [c]));rw[Lib.index_one],hw⟩) hC (by decide) (by decide) (by rw[if_pos (by decide)];omega)
 rw[Nat.add_sub_cancel,hlen]at c1;have e2:Lib.cellsOf (aaZ ⟨#[c]⟩ 0 (aaz s ⟨#[c]⟩) s) (aaz s ⟨#[c]⟩+1)=((aaZ ⟨#[c]⟩ 0 (aaz s ⟨#[c]⟩) s).map aaT).toArray:=by rw[<-hlen];exact Lib.cellsOf_full _
 rw[e2]at c1;have c1:Calls aas 31 #[.string s,.string ⟨#[c]⟩,.int .i64 0,.int .i64 (-1)] w λe w'=>e=.returned (.slice (some ⟨w.heap.size,0,none⟩) (aaz s ⟨#[c]⟩+1) (aaz s ⟨#[c]⟩+1))/\w'=w.alloc (.cells ((aaZ ⟨#[c]⟩ 0 (aaz s ⟨#[c]⟩) s).map aaT).toArray 9):=c1
 go_enter Tryz.func20,Tryz.ntmps20
 go_wp2_with (go_at_call 31;refine c1.mono ?_;rintro e w' ⟨rfl,hw⟩;rw[hw])
 go_ret
 exact⟨rfl,rfl⟩
theorem zN:Con aas 20 tB:=by
 refine rB ⟨Tryz.f20,by kernel_rfl,by kernel_rfl,by kernel_rfl⟩ λx hp w F vs io hl ha=>?_;obtain⟨v1,_,rfl,hk,v2,_,rfl,hm,rfl,rfl⟩:=ha;have hk:RC F 0 w (.str x.1) v1:=hk;have hm:RC F 0 w (.str x.2.1) v2:=hm;cases hk;cases hm;obtain⟨h0,h1⟩ : x.2.1.size=1/\x.1.size<4294967281:=hp;obtain⟨c,hc⟩:=Lib.one_byte _ h0;refine⟨rfl,?_⟩;rw[hc];refine(split_c x.1 c w h1).mono ?_;rintro e w' ⟨rfl,rfl⟩;have hlen:=Lib.splitB_all ⟨#[c]⟩ (aaH 1) 0 _ x.1 rfl;generalize hxs:aaZ ⟨#[c]⟩ 0 (aaz x.1 ⟨#[c]⟩) x.1=xs at hlen⊢;rw[<-hlen]
 have hh:∀i,i<xs.length->(w.alloc (.cells (xs.map aaT).toArray 9)).cell? ⟨w.heap.size,i,none⟩=some (.string (xs.getD i aam)):=λi hi=>by
  rw[World.cell?_alloc_at _ _ _ _ (by simp)];simp[aau,hi]
 refine⟨_,λb o=>F b o\/b=w.heap.size/\o<xs.length,0,#[Obj.cells (xs.map aaT).toArray 9],rfl,?_,λ_ _ h=>.inl h,λ_ _ h=>h.imp id (λh=>by omega),?_,?_⟩
 .show w.alloc (.cells (xs.map aaT).toArray 9)=grow w _;rw[alloc_eq_grow]
 .rw[alloc_eq_grow]at hh⊢;refine yX hl (λ_ _ h=>.inl h) 0 _ ?_;rintro b o (h|⟨rfl,h⟩)
  .exact (zX hl 0 _).out b o h
  .exact (congrArg Option.isSome (hh o h)).trans rfl
 .show RC _ _ _ (.lst .str (se x.1 x.2.1)) _;rw[show se x.1 x.2.1=xs by rw[hc];exact hxs];refine .lst .str xs w.heap.size 0 xs.length (λi _=>.string (xs.getD i aam)) (aaH _) (aaH _) (λi j hi hj=>.inr ⟨rfl,?_⟩) (λi j hi hj=>?_) (λi j y cc hy hcc=>?_)
  .have hj:j<1:=hj;show 0+(i*1+j)<xs.length;omega
  .have hj:j<1:=hj;show(w.alloc _).cell? ⟨w.heap.size,0+(i*1+j),none⟩=_;rw[show 0+(i*1+j)=i by omega];exact hh i hi
  .match j,hcc with
   |0,hcc=>
    simp[cells]at hcc;subst hcc;rw[aau,hy];exact .str _
noncomputable def uB(s p:ByteArray):ByteArray:=⟨(Lib.trimPrefix s.data.toList p.data.toList).toArray⟩
def gr(_s _p:ByteArray):Prop:=True
noncomputable def AX:Spec:=spF [.str,.str] (.one .fr .str) uB gr
theorem Dah:Con aas 56 AX:=by
 refine rB ⟨Tryz.f56,by kernel_rfl,by kernel_rfl,by kernel_rfl⟩ λx _ w F vs io hl ha=>?_;obtain⟨v1,_,rfl,hh,v2,_,rfl,hi,rfl,rfl⟩:=ha;have hh:RC F 0 w (.str x.1) v1:=hh;have hi:RC F 0 w (.str x.2.1) v2:=hi;cases hh;cases hi;refine⟨rfl,(Any.strings_TrimPrefix Bah x.1 x.2.1 w).mono ?_⟩;rintro e w' ⟨rfl,rfl⟩;exact⟨_,F,0,#[],rfl,(grow_empty _).symm,λ_ _ h=>h,λ_ _ h=>.inl h,hl,.str _⟩
noncomputable def Jk(s p:ByteArray):ByteArray×Bool×Unit:=(⟨(Lib.trimPrefix s.data.toList p.data.toList).toArray⟩,Lib.hasPrefix s.data.toList p.data.toList,())
def ir(_s _p:ByteArray):Prop:=True
noncomputable def CX:Spec:=spF [.str,.str] (.tup [(true,.str),(true,.bool)]) Jk ir
theorem Eah:Con aas 32 CX:=by
 refine rB ⟨Tryz.f32,by kernel_rfl,by kernel_rfl,by kernel_rfl⟩ λx _ w F vs io hl ha=>?_;obtain⟨v1,_,rfl,hh,v2,_,rfl,hi,rfl,rfl⟩:=ha;have hh:RC F 0 w (.str x.1) v1:=hh;have hi:RC F 0 w (.str x.2.1) v2:=hi;cases hh;cases hi;refine⟨rfl,(Any.strings_CutPrefix zah x.1 x.2.1 w).mono ?_⟩;rintro e w' ⟨rfl,rfl⟩;refine⟨_,F,0,#[],rfl,(grow_empty _).symm,λ_ _ h=>h,λ_ _ h=>.inl h,hl,[_,_],rfl,?_⟩;exact .cons (.str _) (.cons (.bool _) .nil)
end
noncomputable section
set_option maxRecDepth 100000
def tt:TT:=[(2,⟨.scalar,1,[.int .i64 0],some .int,false⟩),
 (3,⟨.scalar,1,[.int .i64 0],some .int,false⟩),
 (4,⟨.scalar,1,[.bool false],some .bool,false⟩),
 (5,⟨.scalar,1,[.int .u8 0],some .byte,false⟩),
 (6,⟨.scalar,1,[.int .u8 0],some .byte,false⟩),
 (7,⟨(.struct [(0,1),(1,1),(2,1),(3,1)]),4,[.int .i64 0,.int .i64 0,.bool false,.int .u8 0],none,false⟩),
 (8,⟨(.struct [(0,1),(1,1),(2,1),(3,1)]),4,[.int .i64 0,.int .i64 0,.bool false,.int .u8 0],none,false⟩),
 (9,⟨.scalar,1,[.str aam],some .str,false⟩),
 (10,⟨.scalar,1,[.str aam],some .str,false⟩),
 (11,⟨.scalar,1,[.str aam],some .str,false⟩),
 (12,⟨.scalar,1,[.int .u64 0],none,false⟩),
 (13,⟨(.struct [(0,1),(1,1)]),2,[.str aam,.int .u64 0],none,false⟩),
 (14,⟨(.struct [(0,1),(1,1)]),2,[.str aam,.int .u64 0],none,false⟩),
 (21,⟨.scalar,1,[.int .i32 0],none,false⟩),
 (22,⟨(.slice 5),1,[.nl .byte],none,false⟩),
 (34,⟨(.slice 36),1,[.nl .plan],none,false⟩),
 (35,⟨(.struct [(0,1),(1,1),(2,1)]),3,[.int .i64 0,.int .i64 0,.nl .plan],some .plan,false⟩),
 (36,⟨(.struct [(0,1),(1,1),(2,1)]),3,[.int .i64 0,.int .i64 0,.nl .plan],some .plan,false⟩),
 (40,⟨(.slice 9),1,[.nl .str],none,false⟩),
 (41,⟨(.slice 43),1,[.nl .lrow],none,false⟩),
 (42,⟨(.slice 65),1,[.nl .time],none,false⟩),
 (43,⟨(.slice 79),1,[.nl .row],some .lrow,false⟩),
 (44,⟨(.struct [(0,3),(3,1),(4,1),(5,1)]),6,[.int .i64 0,.int .i64 0,.nl .plan,.nl .lrow,.nl .time,.nl .row],some .sess,false⟩),
 (45,⟨(.struct [(0,3),(3,1),(4,1),(5,1)]),6,[.int .i64 0,.int .i64 0,.nl .plan,.nl .lrow,.nl .time,.nl .row],some .sess,false⟩),
 (60,⟨(.struct [(0,1),(1,1)]),2,[.nl .byte,.int .i64 0],none,false⟩),
 (61,⟨(.struct [(0,1),(1,1)]),2,[.nl .byte,.int .i64 0],none,false⟩),
 (64,⟨(.struct [(0,1),(1,1)]),2,[.int .i64 0,.int .i64 0],some .time,true⟩),
 (65,⟨(.struct [(0,1),(1,1)]),2,[.int .i64 0,.int .i64 0],some .time,true⟩),
 (69,⟨(.slice 3),1,[.nl .int],none,false⟩),
 (78,⟨(.struct [(0,1),(1,1),(2,2),(4,1)]),5,[.int .i64 0,.int .i64 0,.int .i64 0,.int .i64 0,.int .i64 0],some .row,true⟩),
 (79,⟨(.struct [(0,1),(1,1),(2,2),(4,1)]),5,[.int .i64 0,.int .i64 0,.int .i64 0,.int .i64 0,.int .i64 0],some .row,true⟩),
 (85,⟨(.slice 96),1,[.nl .item],some .litem,false⟩),
 (95,⟨(.struct [(0,1),(1,1),(2,1)]),3,[.int .i64 0,.int .i64 0,.int .i64 0],some .item,true⟩),
 (96,⟨(.struct [(0,1),(1,1),(2,1)]),3,[.int .i64 0,.int .i64 0,.int .i64 0],some .item,true⟩),
 (127,⟨.scalar,1,[.int .u64 0],none,false⟩),
 (133,⟨(.struct [(0,1),(1,1)]),2,[.int .u8 0,.int .u8 0],none,false⟩),
 (134,⟨(.struct [(0,1),(1,1)]),2,[.int .u8 0,.int .u8 0],none,false⟩),
 (136,⟨.scalar,1,[.int .u32 0],none,false⟩),
 (145,⟨.scalar,1,[.int .u64 0],none,false⟩),
 (156,⟨.scalar,1,[.int .u64 0],none,false⟩),
 (179,⟨.scalar,1,[.int .i64 0],some .int,false⟩),
 (187,⟨.scalar,1,[.int .u64 0],none,false⟩),
 (203,⟨.scalar,1,[.int .u8 0],some .byte,false⟩),
 (204,⟨.scalar,1,[.int .u8 0],some .byte,false⟩),
 (206,⟨.scalar,1,[.int .i32 0],none,false⟩),
 (207,⟨.scalar,1,[.int .i32 0],none,false⟩),
 (210,⟨(.struct [(0,1),(1,1)]),2,[.str aam,.int .u8 0],none,false⟩),
 (211,⟨(.struct [(0,1),(1,1)]),2,[.str aam,.int .u8 0],none,false⟩)]
abbrev Gd(s:SP):=Good aas tt s
abbrev CP(f:Nat)(s:Spec):Prop:=Con aas f s
abbrev OkP(fn:Func)(F:Fnn){R:Type}(fr:Fr){A X Y Z:Type}(S:ac R A X Y Z):Prop:=OkF aas tt fn F R fr S
structure GdB(s:SP)(f:Nat)(v:Sess->Sess)(p:Sess->Prop):Prop where
 g:Gd s
 b:xl aas f v p
def l9:SP:=[]
abbrev F12:Fnn:=⟨[.tmp 2],.rdr,none,[]⟩
def gT(x:LB):TA ((LB×Int)) LB:=.c (cmp .gtr (ba .byte x) 2000) (.w [le3 0 2000 (ba .byte x)] (.l (.n (aaY (aav 0) (List.take (aav 2000) x)))))
 (.l (.n x))
def MF:=λx=>pcT (gT x) [0,1] [(0,.S .byte x)] (rvF F12) (λq=>[(0,.S .byte q)])
def QF(x:LB):TN ((LB×Int)):=.sn (MF x) (λy=>.l (.r (y,0)))
def Xt(x:LB):(LB×Int):=ocR (QF x).val
def Yt(x:LB):Prop:=(QF x).ob
def RF:Spec:=spF [(.lst .byte)] .rdr Xt Yt
theorem m9(G:Gd l9):CP 12 RF:=ma (F:=F12) (fn:=Tryz.f12) G λ_ _=>ia G (λe=>⟨MF (gL .byte e 0 0)⟩) λ_=>ka G
def n9:SP:=[]
abbrev F13:Fnn:=⟨[.tmp 4],.one .fr (.int .i64),some 0,[]⟩
def SF(x:(LB×Int))(y:Int):TN (Int×Int):=.c (cond (cmp .lss y 1) true (cmp .eql (ba .byte x.1) 0)) (.l (.r (0,(ar .add .i64 x.2 1))))
 (.c (cmp .lss (ar .sub .i64 (ar .add .i64 x.2 1) 1) (ba .byte x.1)) (.w [inb (ar .sub .i64 (ar .add .i64 x.2 1) 1) (ba .byte x.1),(y:Int)≠0] (.l (.r ((ar .rem .i64 (aao .i64 (rd .byte x.1 (ar .sub .i64 (ar .add .i64 x.2 1) 1))) y),(ar .add .i64 x.2 1)))))
 (.w [((ba .byte x.1):Int)≠0,inb (ar .rem .i64 (ar .sub .i64 (ar .add .i64 x.2 1) 1) (ba .byte x.1)) (ba .byte x.1),((ba .byte x.1):Int)≠0,inb (ar .rem .i64 (ar .add .i64 (ar .mul .i64 (ar .sub .i64 (ar .add .i64 x.2 1) 1) 7) 3) (ba .byte x.1)) (ba .byte x.1),((ba .byte x.1):Int)≠0] (.w [(64:Int)≠0] (.w [(y:Int)≠0] (.l (.r ((ar .rem .i64 (xr .i64 (ar .add .i64 (ar .add .i64 (ar .add .i64 (ar .mul .i64 (aao .i64 (rd .byte x.1 (ar .rem .i64 (ar .sub .i64 (ar .add .i64 x.2 1) 1) (ba .byte x.1)))) 131) (ar .mul .i64 (aao .i64 (rd .byte x.1 (ar .rem .i64 (ar .add .i64 (ar .mul .i64 (ar .sub .i64 (ar .add .i64 x.2 1) 1) 7) 3) (ba .byte x.1)))) 1117)) (ar .mul .i64 (ar .sub .i64 (ar .add .i64 x.2 1) 1) 29)) (ar .mul .i64 (ar .quo .i64 (ar .sub .i64 (ar .add .i64 x.2 1) 1) (ba .byte x.1)) 53)) (ar .quo .i64 (ar .add .i64 (ar .add .i64 (ar .add .i64 (ar .mul .i64 (aao .i64 (rd .byte x.1 (ar .rem .i64 (ar .sub .i64 (ar .add .i64 x.2 1) 1) (ba .byte x.1)))) 131) (ar .mul .i64 (aao .i64 (rd .byte x.1 (ar .rem .i64 (ar .add .i64 (ar .mul .i64 (ar .sub .i64 (ar .add .i64 x.2 1) 1) 7) 3) (ba .byte x.1)))) 1117)) (ar .mul .i64 (ar .sub .i64 (ar .add .i64 x.2 1) 1) 29)) (ar .mul .i64 (ar .quo .i64 (ar .sub .i64 (ar .add .i64 x.2 1) 1) (ba .byte x.1)) 53)) 64)) y),(ar .add .i64 x.2 1))))))))
def ib(x:(LB×Int))(y:Int):Int×Int:=ocR (SF x y).val
def Id(x:(LB×Int))(y:Int):Prop:=(SF x y).ob
def Io:Spec:=spR [.rdr,(.int .i64)] (.one .fr (.int .i64)) ib Id
theorem r9(G:Gd n9):CP 13 Io:=fE (pts:=[.rdr,(.int .i64)]) (F:=F13) (fn:=Tryz.f13) G (λx=>x.1.1) λ_ _=>ka G
def w9:SP:=[]
abbrev F14:Fnn:=⟨[.tmp 4],.one .fr .str,none,[]⟩
def iT(y:BA)(z:Int)(x:BA):TA BA BA:=.w [(2:Int)≠0] (.c (cmp .eql (ar .rem .i64 z 2) 1) (.w [lim (fa x) (fa y)] (.l (.n (x++y))))
 (.l (.n x)))
def VF:=λx y z=>pcT (iT x y z) [0,0,1,0,0,0,1,1] [(0,.v .fr (.str x)),(1,.I y),(5,.v .fr (.str z))] (rvF F14) (λq=>[(0,.v .fr (.str x)),(1,.I y),(5,.v .fr (.str q))])
def Zt(_:BA)(_:Int)(x:BA)(y:Int)(z:BA):TX BA (BA×Int×BA) BA:=.c (cmp .gtr y 0) (.sn (VF x y z) (λa=>.w [lim (fa x) (fa x)] (.w [(2:Int)≠0] (.l (.n ((x++x),(ar .quo .i64 y 2),a))))))
 (.l (.x z))
def A9:=λa b x y z=>pcR (Zt a b x y z) [0,0,0,1,1] (λq=>[(0,.v .fr (.str q.1)),(1,.I q.2.1),(5,.v .fr (.str q.2.2))]) (x,y,z) (rvF F14) (λq=>(0,[(5,.v .fr (.str q))]))
def au:=λx y=>pcL (λs:BA×Int×BA=>A9 x y s.1 s.2.1 s.2.2) (x,y,aam)
def lT(x:BA)(y:Int):TA BA BA:=.sx (au x y) (λz=>.l (.n z))
def WF:=λx y=>pcT (lT x y) [0,1,1] [(0,.v .fr (.str x)),(1,.I y),(5,.v .fr (.str aam))] (rvF F14) (λq=>[(5,.v .fr (.str q))])
def XF(x:BA)(y:Int):TN BA:=.sn (WF x y) (λz=>.l (.r z))
def Jo(x:BA)(y:Int):BA:=ocR (XF x y).val
def eu(x:BA)(y:Int):Prop:=(XF x y).ob
def YF:Spec:=spF [.str,(.int .i64)] (.one .fr .str) Jo eu
theorem B9(G:Gd w9):CP 14 YF:=ma (F:=F14) (fn:=Tryz.f14) G λ_ _=>ia G (λe=>⟨WF (gS e 0 0) (gI e 1 0)⟩) λ_=>ia G (λe=>⟨au (gS e 0 0) (gI e 1 0)⟩) λ_=>ra λ_=>ia G (λe=>⟨VF (gS e 0 0) (gI e 1 0) (gS e 5 0)⟩) λ_=>ka G
abbrev V16:=(LB×Int)->Int->Plan×Int
abbrev Q16:=(LB×Int)->Int->Prop
def fu(v:V16)(p:Q16):Spec:=⟨[.rdr,(.int .i64)],.one .fr (.st .plan),true,λx=>v x.1 x.2.1,λx=>p x.1 x.2.1⟩
def E9(x:V16)(y:Q16):SP:=[(13,Io),(16,fu x y)]
abbrev F16:Fnn:=⟨[.cell 4 36],.one .fr (.st .plan),some 0,[]⟩
def Nl(a:V16)(b:Q16)(x:(LB×Int))(y:Int):TN (Plan×Int):=.k (ib (x.1,x.2) 6) λc=>.w [((!(cmp .lss y 2))&&true)=true->(Id (x.1,x.2) 6)] (.c (cond (cmp .lss y 2) true (cmp .eql c.1 0)) (.k (ib (x.1,(cond ((!(cmp .lss y 2))&&true) c.2 x.2)) 2) λi=>.w [(Id (x.1,(cond ((!(cmp .lss y 2))&&true) c.2 x.2)) 2)] (.l (.r ((aal 1 i.1 []),i.2))))
 (.k (ib (x.1,(cond ((!(cmp .lss y 2))&&true) c.2 x.2)) 6) λz=>.w [(Id (x.1,(cond ((!(cmp .lss y 2))&&true) c.2 x.2)) 6)] (.c (cmp .eql z.1 0) (.k (ib (x.1,z.2) 7) λd=>.k (a (x.1,d.2) (ar .sub .i64 y 1)) λj=>.w [Id (x.1,z.2) 7,b (x.1,d.2) (ar .sub .i64 y 1)] (.l (.r ((aal 2 (ar .add .i64 1 d.1) [(pE j.1)]),j.2))))
 (.c (cmp .eql z.1 1) (.k (a (x.1,z.2) (ar .sub .i64 y 1)) λf=>.k (a (x.1,f.2) (ar .sub .i64 y 1)) λk=>.w [b (x.1,z.2) (ar .sub .i64 y 1),b (x.1,f.2) (ar .sub .i64 y 1)] (.l (.r ((aal 3 0 [(pE f.1),(pE k.1)]),k.2))))
 (.c (cmp .eql z.1 2) (.k (a (x.1,z.2) (ar .sub .i64 y 1)) λl=>.w [b (x.1,z.2) (ar .sub .i64 y 1)] (.l (.r ((aal 4 0 [(pE l.1)]),l.2))))
 (.c (cmp .eql z.1 3) (.k (a (x.1,z.2) (ar .sub .i64 y 1)) λg=>.k (a (x.1,g.2) (ar .sub .i64 y 1)) λm=>.w [b (x.1,z.2) (ar .sub .i64 y 1),b (x.1,g.2) (ar .sub .i64 y 1)] (.l (.r ((aal 5 0 [(pE g.1),(pE m.1)]),m.2))))
 (.k (ib (x.1,z.2) 3) λh=>.k (a (x.1,h.2) (ar .sub .i64 y 1)) λn=>.w [Id (x.1,z.2) 3,b (x.1,h.2) (ar .sub .i64 y 1)] (.l (.r ((aal 6 (ar .add .i64 1 h.1) [(pE n.1)]),n.2))))))))))
theorem H9{y:V16}{z:Q16}(G:Gd (E9 y z)):CP 16 (fu (λa b=>ocR (Nl y z a b).val) (λa b=>(Nl y z a b).ob)):=fE (pts:=[.rdr,(.int .i64)]) (F:=F16) (fn:=Tryz.f16) G (λx=>x.1.1) λ_ _=>ka G
def Jd:Nat->V16×Q16
 |0=>(λ_ _=>default,λ_ _=>False)
 |n+1=>(λx y=>ocR (Nl (Jd n).1 (Jd n).2 x y).val,λx y=>(Nl (Jd n).1 (Jd n).2 x y).ob)
def Pi:V16:=(Jd Ya).1
def ZF:Q16:=(Jd Ya).2
def mT:Spec:=fu Pi ZF
def I9:SP:=[]
abbrev F49:Fnn:=⟨[.tmp 2,.tmp 3,.tmp 4],.tup [(true,(.int .i64)),(true,(.int .i64)),(true,(.int .i64))],none,[]⟩
def nT(x:Int):TA (Int×Int×Int×Unit) Bool:=.c (cmp .eql x 3) (.l (.n (cmp .eql x 3)))
 (.l (.n (cmp .eql x 5)))
def aG:=λx=>pcT (nT x) [0,1,1,1,1,0,1,0,1] [(5,.I x)] (rvF F49) (λq=>[(5,.I x),(10,.O q)])
def oT(x:Int):TA (Int×Int×Int×Unit) Unit:=.c (cmp .eql x 1) (.l (.r (0,(0,(1,())))))
 (.c (cmp .eql x 2) (.l (.r (1,(1,(7,())))))
 (.sn (aG x) (λy=>.c y (.l (.r (2,(0,(0,())))))
 (.c (cmp .eql x 4) (.l (.r (1,(0,(0,())))))
 (.c (cmp .eql x 6) (.l (.r (1,(1,(3,())))))
 (.l (.n ())))))))
def bG:=λx=>pcT (oT x) [0,1] [(0,.I x)] (rvF F49) (λ_=>[])
def cG(x:Int):TN (Int×Int×Int×Unit):=.sn (bG x) (λ_=>.l (.r ((-1),(0,(0,())))))
def Oh(x:Int):Int×Int×Int×Unit:=ocR (cG x).val
def Ol(x:Int):Prop:=(cG x).ob
def Ko:Spec:=spF [(.int .i64)] (.tup [(true,(.int .i64)),(true,(.int .i64)),(true,(.int .i64))]) Oh Ol
theorem J9(G:Gd I9):CP 49 Ko:=ma (F:=F49) (fn:=Tryz.f49) G λ_ _=>ia G (λe=>⟨bG (gI e 0 0)⟩) λ_=>ia G (λe=>⟨aG (gI e 5 0)⟩) λ_=>ka G
def L9:SP:=[]
abbrev F65:Fnn:=⟨[.tmp 6],.one .fr .bool,none,[]⟩
def pT(x y z:Int):TN Bool:=.l (.r (cond (cmp .geq x y) (cmp .leq x z) false))
def je(x:Int)(y:Int)(z:Int):Bool:=ocR (pT x y z).val
def mh(x:Int)(y:Int)(z:Int):Prop:=(pT x y z).ob
def Pl:Spec:=spF [(.int .i64),(.int .i64),(.int .i64)] (.one .fr .bool) je mh
theorem M9(G:Gd L9):CP 65 Pl:=ma (F:=F65) (fn:=Tryz.f65) G λ_ _=>ka G
abbrev V48:=Plan->Int->Bool
abbrev Q48:=Plan->Int->Prop
def gu(v:V48)(p:Q48):Spec:=⟨[(.st .plan),(.int .i64)],.one .fr .bool,false,λx=>(v x.1 x.2.1,0),λx=>p x.1 x.2.1⟩
def O9(x:V48)(y:Q48):SP:=[(49,Ko),(65,Pl),(48,gu x y)]
abbrev F48:Fnn:=⟨[.tmp 4],.one .fr .bool,none,[]⟩
def iu(a:V48)(b:Q48)(z _ _:Int)(y:LP)(x:Int):TX Bool Int Unit:=.c (cmp .lss x (ba .plan y)) (.w [inb x (ba .plan y),b (pE (rd .plan y x)) (ar .sub .i64 z 1)] (.c (!(a (pE (rd .plan y x)) (ar .sub .i64 z 1))) (.l (.r false))
 (.l (.n (ar .add .i64 x 1)))))
 (.l (.x ()))
def P9:=λc d x y z a b=>pcR (iu c d x y z a b) [0,0,1,0,1,1,1] (λq=>[(1,.I x),(2,bxP y z a),(8,.I q)]) b (rvF F48) (λ_=>(0,[]))
def ku:=λx y z a b c=>pcL (λs:Int=>P9 x y z a b c s) 0
def qT(x:V48)(y:Q48)(z a b:Int)(c:LP):TA Bool Unit:=.sx (ku x y z a b c) (λ_=>.l (.n ()))
def dG:=λb c x y z a=>pcT (qT b c x y z a) [0,1,1,1] [(1,.I x),(2,bxP y z a)] (rvF F48) (λ_=>[])
def ik(a:V48)(b:Q48)(x:Plan)(z:Int):TN Bool:=.k (Oh x.Kind) λy=>.w [Ol x.Kind] (.w [((!(cond (cmp .lss z 1) true (cmp .neq (ba .plan x.Kids) y.1)))&&true)=true->(mh x.Num y.2.1 y.2.2.1)] (.c (cond (cond (cmp .lss z 1) true (cmp .neq (ba .plan x.Kids) y.1)) true (!(je x.Num y.2.1 y.2.2.1))) (.l (.r false))
 (.sn (dG a b z x.Kind x.Num x.Kids) (λ_=>.l (.r true)))))
theorem Q9{x:V48}{y:Q48}(G:Gd (O9 x y)):CP 48 (gu (λz a=>ocR (ik x y z a).val) (λz a=>(ik x y z a).ob)):=ma (F:=F48) (fn:=Tryz.f48) G λ_ _=>ia G (λe=>⟨dG x y (gI e 1 0) (gI e 2 0) (gI e 2 1) (gL .plan e 2 2)⟩) λ_=>ia G (λe=>⟨ku x y (gI e 1 0) (gI e 2 0) (gI e 2 1) (gL .plan e 2 2)⟩) λ_=>ra λ_=>ka G
def Kd:Nat->V48×Q48
 |0=>(λ_ _=>default,λ_ _=>False)
 |n+1=>(λx y=>ocR (ik (Kd n).1 (Kd n).2 x y).val,λx y=>(ik (Kd n).1 (Kd n).2 x y).ob)
def rT:V48:=(Kd Ya).1
def sT:Q48:=(Kd Ya).2
def tT:Spec:=gu rT sT
def R9:SP:=[(48,tT)]
abbrev F27:Fnn:=⟨[.tmp 2],.one .fr .bool,none,[]⟩
def eG(x:Plan):TN Bool:=.w [sT (pE x) 4] (.l (.r (rT (pE x) 4)))
def Ql(x:Plan):Bool:=ocR (eG x).val
def Rl(x:Plan):Prop:=(eG x).ob
def Lo:Spec:=spF [(.st .plan)] (.one .fr .bool) Ql Rl
theorem S9(G:Gd R9):CP 27 Lo:=ma (F:=F27) (fn:=Tryz.f27) G λ_ _=>ka G
abbrev V17:=Int->BA
abbrev Q17:=Int->Prop
def lu(v:V17)(p:Q17):Spec:=⟨[(.int .i64)],.one .fr .str,false,λx=>(v x.1,0),λx=>p x.1⟩
def T9(x:V17)(y:Q17):SP:=[(17,lu x y)]
abbrev F17:Fnn:=⟨[.tmp 2],.one .fr .str,none,[]⟩
def Qi(y:V17)(z:Q17)(x:Int):TN BA:=.c (cmp .lss x (-9223372036854775807)) (.l (.r (bs [45,57,50,50,51,51,55,50,48,51,54,56,53,52,55,55,53,56,48,56])))
 (.c (cmp .lss x 0) (.k (y (aao .i64 (0 - x))) λa=>.w [z (aao .i64 (0 - x)),lim (fa (bs [45])) (fa a)] (.l (.r ((bs [45])++a))))
 (.c (cmp .lss x 10) (.l (.r (ui [(aao .u8 (ar .add .i64 48 x))])))
 (.k (y (ar .quo .i64 x 10)) λb=>.w [(10:Int)≠0,z (ar .quo .i64 x 10),(10:Int)≠0,lim (fa b) (fa (ui [(aao .u8 (ar .add .i64 48 (ar .rem .i64 x 10)))]))] (.l (.r (b++(ui [(aao .u8 (ar .add .i64 48 (ar .rem .i64 x 10)))])))))))
theorem U9{x:V17}{y:Q17}(G:Gd (T9 x y)):CP 17 (lu (λz=>ocR (Qi x y z).val) (λz=>(Qi x y z).ob)):=ma (F:=F17) (fn:=Tryz.f17) G λ_ _=>ka G
def Qd:Nat->V17×Q17
 |0=>(λ_=>default,λ_=>False)
 |n+1=>(λx=>ocR (Qi (Qd n).1 (Qd n).2 x).val,λx=>(Qi (Qd n).1 (Qd n).2 x).ob)
def xd:V17:=(Qd Ya).1
def Ld:Q17:=(Qd Ya).2
def Sl:Spec:=lu xd Ld
abbrev V28:=Plan->BA
abbrev Q28:=Plan->Prop
def nu(v:V28)(p:Q28):Spec:=⟨[(.st .plan)],.one .fr .str,false,λx=>(v x.1,0),λx=>p x.1⟩
def V9(x:V28)(y:Q28):SP:=[(49,Ko),(17,Sl),(28,nu x y)]
abbrev F28:Fnn:=⟨[.tmp 2],.one .fr .str,none,[]⟩
def pu(_:V28)(_:Q28)(_ x:Int)(_:LP)(y:BA)(z:Int):TA BA BA:=.c (cmp .gtr z 0) (.w [Ld x,lim (fa y) (fa (xd x))] (.l (.n (y++(xd x)))))
 (.l (.n y))
def fG:=λc d x y z a b=>pcT (pu c d x y z a b) [0,1,1,1] [(1,bxP x y z),(3,.v .fr (.str a)),(6,.I b)] (rvF F28) (λq=>[(1,bxP x y z),(3,.v .fr (.str q))])
def qu(b:V28)(c:Q28)(_ _:Int)(y:LP)(_ z:BA)(x:Int):TX BA (BA×Int) BA:=.c (cmp .lss x (ba .plan y)) (.k (b (pE (rd .plan y x))) λa=>.w [lim (fa z) (fa (bs [32])),inb x (ba .plan y),c (pE (rd .plan y x)),lim (fa (z++(bs [32]))) (fa a)] (.l (.n (((z++(bs [32]))++a),(ar .add .i64 x 1)))))
 (.l (.x z))
def W9:=λc d x y z f a b=>pcR (qu c d x y z f a b) [0,0,1,0,1,1,1,1] (λq=>[(1,bxP x y z),(3,.v .fr (.str q.1)),(7,.I q.2)]) (a,b) (rvF F28) (λq=>(0,[(3,.v .fr (.str q))]))
def ru:=λy z a b c x=>pcL (λs:BA×Int=>W9 y z a b c x s.1 s.2) (x,0)
def uT(x:V28)(y:Q28)(z a:Int)(b:LP)(c:BA):TA BA BA:=.sx (ru x y z a b c) (λd=>.l (.n d))
def gG:=λb c x y z a=>pcT (uT b c x y z a) [0,1,1,1,1] [(1,bxP x y z),(3,.v .fr (.str a))] (rvF F28) (λq=>[(3,.v .fr (.str q))])
def Mo(y:V28)(z:Q28)(x:Plan):TN BA:=.w [inb x.Kind (ba .str [aam,(bs [105,110]),(bs [101,97,99,104]),(bs [98,111,116,104]),(bs [108,101,115,115]),(bs [106,111,105,110]),(bs [115,117,109])])] (.w [Ol x.Kind] (.sn (fG y z x.Kind x.Num x.Kids (rd .str [aam,(bs [105,110]),(bs [101,97,99,104]),(bs [98,111,116,104]),(bs [108,101,115,115]),(bs [106,111,105,110]),(bs [115,117,109])] x.Kind) (Oh x.Kind).2.2.1) (λa=>.sn (gG y z x.Kind x.Num x.Kids a) (λb=>.l (.r b)))))
theorem X9{x:V28}{y:Q28}(G:Gd (V9 x y)):CP 28 (nu (λz=>ocR (Mo x y z).val) (λz=>(Mo x y z).ob)):=ma (F:=F28) (fn:=Tryz.f28) G λ_ _=>Yc G [λe=>⟨fG x y (gI e 1 0) (gI e 1 1) (gL .plan e 1 2) (gS e 3 0) (gI e 6 0)⟩,λe=>⟨gG x y (gI e 1 0) (gI e 1 1) (gL .plan e 1 2) (gS e 3 0)⟩] ⟨λ_=>ka G,λ_=>ia G (λe=>⟨ru x y (gI e 1 0) (gI e 1 1) (gL .plan e 1 2) (gS e 3 0)⟩) λ_=>ra λ_=>ka G,trivial⟩
def qd:Nat->V28×Q28
 |0=>(λ_=>default,λ_=>False)
 |n+1=>(λx=>ocR (Mo (qd n).1 (qd n).2 x).val,λx=>(Mo (qd n).1 (qd n).2 x).ob)
def iG:V28:=(qd Ya).1
def jG:Q28:=(qd Ya).2
def vT:Spec:=nu iG jG
def Y9:SP:=[(27,Lo),(28,vT)]
abbrev F15:Fnn:=⟨[.tmp 2],.one .fr .str,none,[]⟩
def kG(x:Plan):TN BA:=.w [Rl (pE x)] (.c (!(Ql (pE x))) (.l (.r aam))
 (.w [jG (pE x)] (.l (.r (iG (pE x))))))
def Oo(x:Plan):BA:=ocR (kG x).val
def Po(x:Plan):Prop:=(kG x).ob
def su:Spec:=spF [(.st .plan)] (.one .fr .str) Oo Po
theorem Z9(G:Gd Y9):CP 15 su:=ma (F:=F15) (fn:=Tryz.f15) G λ_ _=>ka G
def aaa:SP:=[(13,Io)]
abbrev F18:Fnn:=⟨[.tmp 4],.one .fr .str,some 0,[]⟩
def lG(x:(LB×Int))(y:List BA):TN (BA×Int):=.k (ib (x.1,x.2) (ba .str y)) λz=>.w [Id (x.1,x.2) (ba .str y),inb z.1 (ba .str y)] (.l (.r ((rd .str y z.1),z.2)))
def Lf(x:(LB×Int))(y:List BA):BA×Int:=ocR (lG x y).val
def jk(x:(LB×Int))(y:List BA):Prop:=(lG x y).ob
def mG:Spec:=spR [.rdr,(.lst .str)] (.one .fr .str) Lf jk
theorem baa(G:Gd aaa):CP 18 mG:=fE (pts:=[.rdr,(.lst .str)]) (F:=F18) (fn:=Tryz.f18) G (λx=>x.1.1) λ_ _=>ka G
def caa:SP:=[(12,RF),(13,Io),(14,YF),(16,mT),(15,su),(17,Sl),(18,mG)]
abbrev F8:Fnn:=⟨[.tmp 2],.one .fr .str,none,[]⟩
def tu(x:LB)(b:Int):TA BA (Int×BA):=.k (ib (x,b) 6) λy=>.w [Id (x,b) 6] (.c (cmp .gtr y.1 0) (.k (Pi (x,y.2) 3) λz=>.k (Oo (pE z.1)) λa=>.w [ZF (x,y.2) 3,Po (pE z.1),lim (fa (bs [112,108,97,110,32])) (fa a),lim (fa ((bs [112,108,97,110,32])++a)) (fa (bs [10]))] (.l (.n (z.2,(((bs [112,108,97,110,32])++a)++(bs [10]))))))
 (.l (.n (y.2,aam))))
def nG:=λx y=>pcT (tu x y) [0,1,1,1,1] [(3,.R x y),(4,.v .fr (.str aam))] (rvF F8) (λq=>[(3,.R x q.1),(4,.v .fr (.str q.2))])
def vu(_:LB)(_:Int)(_:BA)(_:Int)(_ _:BA)(x:Int):TA BA Bool:=.c (cmp .eql x 0) (.l (.n (cmp .eql x 0)))
 (.c (cmp .eql x 1) (.l (.n (cmp .eql x 1)))
 (.c (cmp .eql x 2) (.l (.n (cmp .eql x 2)))
 (.c (cmp .eql x 3) (.l (.n (cmp .eql x 3)))
 (.l (.n (cmp .eql x 4))))))
def oG:=λx y z a b c d=>pcT (vu x y z a b c d) [0,0,1,1,1,0,0,1,0,0,1,0,1,1,1,1,1] [(3,.R x y),(4,.v .fr (.str z)),(5,.I a),(6,.v .fr (.str b)),(7,.v .fr (.str c)),(39,.I d)] (rvF F8) (λq=>[(3,.R x y),(4,.v .fr (.str z)),(5,.I a),(6,.v .fr (.str b)),(7,.v .fr (.str c)),(39,.I d),(45,.O q)])
def wu(_:LB)(_:Int)(_:BA)(_:Int)(_ _:BA)(x:Int):TA BA Bool:=.c (cmp .eql x 5) (.l (.n (cmp .eql x 5)))
 (.l (.n (cmp .eql x 6)))
def pG:=λx y z a b c d=>pcT (wu x y z a b c d) [0,1,1,0,1,1,1,0,0,1,0,0,1,0,1,1,1,1,1] [(3,.R x y),(4,.v .fr (.str z)),(5,.I a),(6,.v .fr (.str b)),(7,.v .fr (.str c)),(39,.I d)] (rvF F8) (λq=>[(3,.R x y),(4,.v .fr (.str z)),(5,.I a),(6,.v .fr (.str b)),(7,.v .fr (.str c)),(39,.I d),(79,.O q)])
def xu(_:LB)(_:Int)(_:BA)(_:Int)(_:BA)(x:Int):TA BA Bool:=.c (cmp .eql x 7) (.l (.n (cmp .eql x 7)))
 (.l (.n (cmp .eql x 8)))
def qG:=λx y z a b c=>pcT (xu x y z a b c) [0,1,1,1,1,0,1,1,1,0,0,1,0,0,1,0,1,1,1,1,1] [(3,.R x y),(4,.v .fr (.str z)),(5,.I a),(7,.v .fr (.str b)),(39,.I c)] (rvF F8) (λq=>[(3,.R x y),(4,.v .fr (.str z)),(5,.I a),(7,.v .fr (.str b)),(94,.O q)])
def yu(y:LB)(q:Int)(x:BA)(o:Int):TA BA (Int×BA):=.k (ib (y,q) 4) λh=>.k (xd h.1) λz=>.w [Id (y,q) 4,Ld h.1] (.k (ib (y,h.2) 4) λi=>.k (xd i.1) λa=>.w [Id (y,h.2) 4,Ld i.1] (.k (ib (y,i.2) 10) λb=>.w [Id (y,i.2) 10] (.sn (oG y b.2 x o z a b.1) (λr=>.c r (.k (ib (y,b.2) 2) λj=>.k (xd j.1) λc=>.k (ib (y,j.2) 2) λk=>.k (xd k.1) λd=>.k (ib (y,k.2) 4) λl=>.k (xd l.1) λf=>.k (Lf (y,l.2) [(bs [49]),(bs [50]),(bs [45,49])]) λm=>.w [lim (fa x) (fa (bs [105,110,32])),Id (y,b.2) 2,Ld j.1,lim (fa (x++(bs [105,110,32]))) (fa c),lim (fa ((x++(bs [105,110,32]))++c)) (fa (bs [32])),Id (y,j.2) 2,Ld k.1,lim (fa (((x++(bs [105,110,32]))++c)++(bs [32]))) (fa d),lim (fa ((((x++(bs [105,110,32]))++c)++(bs [32]))++d)) (fa (bs [32])),Id (y,k.2) 4,Ld l.1,lim (fa (((((x++(bs [105,110,32]))++c)++(bs [32]))++d)++(bs [32]))) (fa f),lim (fa ((((((x++(bs [105,110,32]))++c)++(bs [32]))++d)++(bs [32]))++f)) (fa (bs [32])),lim (fa (((((((x++(bs [105,110,32]))++c)++(bs [32]))++d)++(bs [32]))++f)++(bs [32]))) (fa z),lim (fa ((((((((x++(bs [105,110,32]))++c)++(bs [32]))++d)++(bs [32]))++f)++(bs [32]))++z)) (fa (bs [32])),lim (fa (((((((((x++(bs [105,110,32]))++c)++(bs [32]))++d)++(bs [32]))++f)++(bs [32]))++z)++(bs [32]))) (fa a),lim (fa ((((((((((x++(bs [105,110,32]))++c)++(bs [32]))++d)++(bs [32]))++f)++(bs [32]))++z)++(bs [32]))++a)) (fa (bs [32])),(jk (y,l.2) [(bs [49]),(bs [50]),(bs [45,49])]),lim (fa (((((((((((x++(bs [105,110,32]))++c)++(bs [32]))++d)++(bs [32]))++f)++(bs [32]))++z)++(bs [32]))++a)++(bs [32]))) (fa m.1),lim (fa ((((((((((((x++(bs [105,110,32]))++c)++(bs [32]))++d)++(bs [32]))++f)++(bs [32]))++z)++(bs [32]))++a)++(bs [32]))++m.1)) (fa (bs [10]))] (.l (.n (m.2,(((((((((((((x++(bs [105,110,32]))++c)++(bs [32]))++d)++(bs [32]))++f)++(bs [32]))++z)++(bs [32]))++a)++(bs [32]))++m.1)++(bs [10]))))))
 (.sn (pG y b.2 x o z a b.1) (λs=>.c s (.k (Lf (y,b.2) [aam,aam,(bs [32,51,32,48]),(bs [32,50,32,50])]) λn=>.w [lim (fa x) (fa (bs [111,110,32])),lim (fa (x++(bs [111,110,32]))) (fa z),lim (fa ((x++(bs [111,110,32]))++z)) (fa (bs [32])),lim (fa (((x++(bs [111,110,32]))++z)++(bs [32]))) (fa a),(jk (y,b.2) [aam,aam,(bs [32,51,32,48]),(bs [32,50,32,50])]),lim (fa ((((x++(bs [111,110,32]))++z)++(bs [32]))++a)) (fa n.1),lim (fa (((((x++(bs [111,110,32]))++z)++(bs [32]))++a)++n.1)) (fa (bs [10]))] (.l (.n (n.2,((((((x++(bs [111,110,32]))++z)++(bs [32]))++a)++n.1)++(bs [10]))))))
 (.sn (qG y b.2 x o a b.1) (λt=>.c t (.k (Lf (y,b.2) [(bs [48]),(bs [49])]) λg=>.w [lim (fa x) (fa (bs [97,116,32])),(jk (y,b.2) [(bs [48]),(bs [49])]),lim (fa (x++(bs [97,116,32]))) (fa g.1),lim (fa ((x++(bs [97,116,32]))++g.1)) (fa (bs [32])),lim (fa (((x++(bs [97,116,32]))++g.1)++(bs [32]))) (fa a),lim (fa ((((x++(bs [97,116,32]))++g.1)++(bs [32]))++a)) (fa (bs [10]))] (.l (.n (g.2,(((((x++(bs [97,116,32]))++g.1)++(bs [32]))++a)++(bs [10]))))))
 (.k (Lf (y,b.2) [(bs [10]),(bs [111,110,10]),(bs [119,104,97,116,10]),(bs [105,110,32,48,32,48,10]),(bs [97,116,32,48,10]),(bs [112,108,97,110,32,105,110,57,10]),(bs [105,110,32,48,32,48,32,48,32,48,32,48,32,48,49,10]),(bs [111,110,32,49,10])]) λp=>.w [(jk (y,b.2) [(bs [10]),(bs [111,110,10]),(bs [119,104,97,116,10]),(bs [105,110,32,48,32,48,10]),(bs [97,116,32,48,10]),(bs [112,108,97,110,32,105,110,57,10]),(bs [105,110,32,48,32,48,32,48,32,48,32,48,32,48,49,10]),(bs [111,110,32,49,10])]),lim (fa x) (fa p.1)] (.l (.n (p.2,(x++p.1)))))))))))))
def rG:=λx z a y=>pcT (yu x z a y) [0,1,0,0,1,0,1,1,1,1,1] [(3,.R x z),(4,.v .fr (.str a)),(5,.I y)] (rvF F8) (λq=>[(3,.R x q.1),(4,.v .fr (.str q.2)),(5,.I y)])
def Qo(a:LB)(_:Int)(_:BA)(_ b:Int)(y:BA)(x:Int):TX BA (Int×BA×Int) BA:=.c (cmp .gtr x 0) (.sn (rG a b y x) (λz=>.l (.n (z.1,z.2,(ar .sub .i64 x 1)))))
 (.l (.x y))
def daa:=λx b c d y z a=>pcR (Qo x b c d y z a) [0,0,1,0,1,1,1,1,1] (λq=>[(3,.R x q.1),(4,.v .fr (.str q.2.1)),(5,.I q.2.2)]) (y,z,a) (rvF F8) (λq=>(0,[(4,.v .fr (.str q))]))
def zu:=λa x y z=>pcL (λs:Int×BA×Int=>daa a x y z s.1 s.2.1 s.2.2) (x,y,z)
def Au(x:LB)(y:Int)(a:BA):TA BA BA:=.k (ib (x,y) 16) λz=>.w [Id (x,y) 16] (.sx (zu x z.2 a (ar .add .i64 3 z.1)) (λb=>.l (.n b)))
def sG:=λx y z=>pcT (Au x y z) [0,1,1,1,1,1] [(3,.R x y),(4,.v .fr (.str z))] (rvF F8) (λq=>[(4,.v .fr (.str q))])
def tG(z:LB):TN BA:=.k (Xt z) λx=>.w [Yt z] (.k (ib (x.1,x.2) 60) λy=>.w [Id (x.1,x.2) 60] (.c (cmp .eql y.1 0) (.k (ib (x.1,y.2) 2) λa=>.w [Id (x.1,y.2) 2,eu (bs [10]) (ar .add .i64 2000 a.1)] (.l (.r (Jo (bs [10]) (ar .add .i64 2000 a.1)))))
 (.sn (nG x.1 y.2) (λb=>.sn (sG x.1 b.1 b.2) (λc=>.l (.r c))))))
def uG(x:LB):BA:=ocR (tG x).val
def vG(x:LB):Prop:=(tG x).ob
def wT:Spec:=spF [(.lst .byte)] (.one .fr .str) uG vG
theorem eaa(G:Gd caa):CP 8 wT:=ma (F:=F8) (fn:=Tryz.f8) G λ_ _=>Yc G [λe=>⟨nG (gL .byte e 3 0) (gI e 3 1)⟩,λe=>⟨sG (gL .byte e 3 0) (gI e 3 1) (gS e 4 0)⟩] ⟨λ_=>ka G,λ_=>ia G (λe=>⟨zu (gL .byte e 3 0) (gI e 3 1) (gS e 4 0) (gI e 5 0)⟩) λ_=>ra λ_=>ia G (λe=>⟨rG (gL .byte e 3 0) (gI e 3 1) (gS e 4 0) (gI e 5 0)⟩) λ_=>Yc G [λe=>⟨oG (gL .byte e 3 0) (gI e 3 1) (gS e 4 0) (gI e 5 0) (gS e 6 0) (gS e 7 0) (gI e 39 0)⟩,λe=>⟨pG (gL .byte e 3 0) (gI e 3 1) (gS e 4 0) (gI e 5 0) (gS e 6 0) (gS e 7 0) (gI e 39 0)⟩,λe=>⟨qG (gL .byte e 3 0) (gI e 3 1) (gS e 4 0) (gI e 5 0) (gS e 7 0) (gI e 39 0)⟩] ⟨λ_=>ka G,λ_=>ka G,λ_=>ka G,trivial⟩,trivial⟩
def faa:SP:=[]
abbrev F76:Fnn:=⟨[.tmp 2,.tmp 3,.tmp 4],.tup [(true,(.int .i64)),(true,(.int .i64)),(true,(.int .i64))],none,[]⟩
def xT(x:Int):TA (Int×Int×Int×Unit) Bool:=.c (cmp .eql x 3) (.l (.n (cmp .eql x 3)))
 (.l (.n (cmp .eql x 5)))
def wG:=λx=>pcT (xT x) [0,1,1,1,1,0,1,0,1] [(5,.I x)] (rvF F76) (λq=>[(5,.I x),(10,.O q)])
def yT(x:Int):TA (Int×Int×Int×Unit) Unit:=.c (cmp .eql x 1) (.l (.r (0,(0,(1,())))))
 (.c (cmp .eql x 2) (.l (.r (1,(1,(7,())))))
 (.sn (wG x) (λy=>.c y (.l (.r (2,(0,(0,())))))
 (.c (cmp .eql x 4) (.l (.r (1,(0,(0,())))))
 (.c (cmp .eql x 6) (.l (.r (1,(1,(3,())))))
 (.l (.n ())))))))
def xG:=λx=>pcT (yT x) [0,1] [(0,.I x)] (rvF F76) (λ_=>[])
def yG(x:Int):TN (Int×Int×Int×Unit):=.sn (xG x) (λ_=>.l (.r ((-1),(0,(0,())))))
def Ph(x:Int):Int×Int×Int×Unit:=ocR (yG x).val
def Ro(x:Int):Prop:=(yG x).ob
def Bu:Spec:=spF [(.int .i64)] (.tup [(true,(.int .i64)),(true,(.int .i64)),(true,(.int .i64))]) Ph Ro
theorem gaa(G:Gd faa):CP 76 Bu:=ma (F:=F76) (fn:=Tryz.f76) G λ_ _=>ia G (λe=>⟨xG (gI e 0 0)⟩) λ_=>ia G (λe=>⟨wG (gI e 5 0)⟩) λ_=>ka G
abbrev V50:=Plan->Int->Bool
abbrev Q50:=Plan->Int->Prop
def Cu(v:V50)(p:Q50):Spec:=⟨[(.st .plan),(.int .i64)],.one .fr .bool,false,λx=>(v x.1 x.2.1,0),λx=>p x.1 x.2.1⟩
def haa(x:V50)(y:Q50):SP:=[(76,Bu),(50,Cu x y)]
abbrev F50:Fnn:=⟨[.tmp 4],.one .fr .bool,none,[]⟩
def Du(a:V50)(b:Q50)(z:Int)(y:LP)(c x:Int):TX Bool Int Unit:=.c (cmp .lss x c) (.w [inb x (ba .plan y)] (.w [b (pE (rd .plan y x)) (ar .sub .i64 z 1)] (.c (!(a (pE (rd .plan y x)) (ar .sub .i64 z 1))) (.l (.r false))
 (.l (.n (ar .add .i64 x 1))))))
 (.l (.x ()))
def iaa:=λb c x y z a=>pcR (Du b c x y z a) [0,0,1,0,1,1,1] (λq=>[(1,.I x),(43,.S .plan y),(44,.I z),(45,.I q)]) a (rvF F50) (λ_=>(0,[]))
def Eu:=λx y z a b=>pcL (λs:Int=>iaa x y z a b s) 0
def zT(y:V50)(z:Q50)(a _ _:Int)(x:LP):TA Bool Unit:=.sx (Eu y z a x (ba .plan x)) (λ_=>.l (.n ()))
def zG:=λb c x y z a=>pcT (zT b c x y z a) [0,1,1,1] [(1,.I x),(2,bxP y z a)] (rvF F50) (λ_=>[])
def nk(a:V50)(b:Q50)(x:Plan)(z:Int):TN Bool:=.k (Ph x.Kind) λy=>.w [Ro x.Kind] (.c (cond (cond (cond (cond (cmp .lss z 1) true (cmp .lss y.1 0)) true (cmp .neq (ba .plan x.Kids) y.1)) true (cmp .lss x.Num y.2.1)) true (cmp .gtr x.Num y.2.2.1)) (.l (.r false))
 (.sn (zG a b z x.Kind x.Num x.Kids) (λ_=>.l (.r true))))
theorem jaa{x:V50}{y:Q50}(G:Gd (haa x y)):CP 50 (Cu (λz a=>ocR (nk x y z a).val) (λz a=>(nk x y z a).ob)):=ma (F:=F50) (fn:=Tryz.f50) G λ_ _=>ia G (λe=>⟨zG x y (gI e 1 0) (gI e 2 0) (gI e 2 1) (gL .plan e 2 2)⟩) λ_=>ia G (λe=>⟨Eu x y (gI e 1 0) (gL .plan e 43 0) (gI e 44 0)⟩) λ_=>ra λ_=>ka G
def Md:Nat->V50×Q50
 |0=>(λ_ _=>default,λ_ _=>False)
 |n+1=>(λx y=>ocR (nk (Md n).1 (Md n).2 x y).val,λx y=>(nk (Md n).1 (Md n).2 x y).ob)
def AT:V50:=(Md Ya).1
def BT:Q50:=(Md Ya).2
def CT:Spec:=Cu AT BT
def kaa:SP:=[(50,CT)]
abbrev F29:Fnn:=⟨[.tmp 2],.one .fr .bool,none,[]⟩
def AG(x:Plan):TN Bool:=.w [BT (pE x) 4] (.l (.r (AT (pE x) 4)))
def qk(x:Plan):Bool:=ocR (AG x).val
def rk(x:Plan):Prop:=(AG x).ob
def Tl:Spec:=spF [(.st .plan)] (.one .fr .bool) qk rk
theorem laa(G:Gd kaa):CP 29 Tl:=ma (F:=F29) (fn:=Tryz.f29) G λ_ _=>ka G
abbrev V30:=Plan->Plan
abbrev Q30:=Plan->Prop
def Fu(v:V30)(p:Q30):Spec:=⟨[(.st .plan)],.one .fr (.st .plan),false,λx=>(v x.1,0),λx=>p x.1⟩
def maa(x:V30)(y:Q30):SP:=[(30,Fu x y)]
abbrev F30:Fnn:=⟨[.cell 2 36],.one .fr (.st .plan),none,[]⟩
def Gu(b:V30)(c:Q30)(_ _:Int)(y:LP)(d:Int)(z:LP)(x:Int):TX Plan (LP×Int) LP:=.c (cmp .lss x d) (.w [inb x (ba .plan y)] (.k (b (pE (rd .plan y x))) λa=>.w [c (pE (rd .plan y x)),lim (ba .plan z) (ba .plan [(pE a)])] (.l (.n ((z++[(pE a)]),(ar .add .i64 x 1))))))
 (.l (.x z))
def naa:=λd f x y z a b c=>pcR (Gu d f x y z a b c) [0,0,1,0,1,1] (λq=>[(2,bp0),(3,.box [(.fr,.i x),(.fr,.i y),((.acc true),.lst .plan q.1)]),(12,.S .plan z),(13,.I a),(14,.I q.2)]) (b,c) (rvF F30) (λq=>(0,[(2,bp0),(3,.box [(.fr,.i x),(.fr,.i y),((.acc true),.lst .plan q)])]))
def Hu:=λx y z a b c=>pcL (λs:LP×Int=>naa x y z a b c s.1 s.2) ([],0)
def DT(y:V30)(z:Q30)(a b:Int)(x:LP):TA Plan LP:=.sx (Hu y z a b x (ba .plan x)) (λc=>.l (.n c))
def BG:=λa b x y z=>pcT (DT a b x y z) [0,1,1] [(1,bxP x y z),(2,bp0),(3,.box [(.fr,.i x),(.fr,.i y),(.fr,.nl .plan)])] (rvF F30) (λq=>[(2,bp0),(3,.box [(.fr,.i x),(.fr,.i y),((.acc true),.lst .plan q)])])
def So(y:V30)(z:Q30)(x:Plan):TN Plan:=.sn (BG y z x.Kind x.Num x.Kids) (λa=>.l (.r (aal x.Kind x.Num a)))
theorem oaa{x:V30}{y:Q30}(G:Gd (maa x y)):CP 30 (Fu (λz=>ocR (So x y z).val) (λz=>(So x y z).ob)):=ma (F:=F30) (fn:=Tryz.f30) G λ_ _=>ia G (λe=>⟨BG x y (gI e 1 0) (gI e 1 1) (gL .plan e 1 2)⟩) λ_=>ia G (λe=>⟨Hu x y (gI e 3 0) (gI e 3 1) (gL .plan e 12 0) (gI e 13 0)⟩) λ_=>ra λ_=>ka G
def me:Nat->V30×Q30
 |0=>(λ_=>default,λ_=>False)
 |n+1=>(λx=>ocR (So (me n).1 (me n).2 x).val,λx=>(So (me n).1 (me n).2 x).ob)
def Ee:V30:=(me Ya).1
def To:Q30:=(me Ya).2
def CG:Spec:=Fu Ee To
def paa:SP:=[(29,Tl),(30,CG)]
abbrev F19:Fnn:=⟨[.cell 2 45,.tmp 3],.tup [(false,(.st .sess)),(true,.bool)],none,[]⟩
def DG(x:Plan):TN (Sess×Bool×Unit):=.w [rk (pE x)] (.c (!(qk (pE x))) (.l (.r ((aan (aal 0 0 []) [] [] []),(false,()))))
 (.w [To (pE x),ni 2 2] (.l (.r ((aan (pE (Ee (pE x))) (aaV (aav 2) []) [(aaq 0 0)] []),(true,()))))))
def nh(x:Plan):Sess×Bool×Unit:=ocR (DG x).val
def Ul(x:Plan):Prop:=(DG x).ob
def Iu:Spec:=spF [(.st .plan)] (.tup [(false,(.st .sess)),(true,.bool)]) nh Ul
theorem qaa(G:Gd paa):CP 19 Iu:=ma (F:=F19) (fn:=Tryz.f19) G λ_ _=>ka G
def raa:SP:=[(59,sB)]
abbrev saa:Fnn:=⟨[.tmp 2],.one .fr .str,none,[]⟩
def EG(x:Plan):TN BA:=.c (cmp .eql x.Kind 1) (.k (Fe x.Num) λy=>.w [tf x.Num,lim (fa (bs [105,110])) (fa y)] (.l (.r ((bs [105,110])++y))))
 (.c (cmp .eql x.Kind 2) (.k (Fe x.Num) λz=>.w [tf x.Num,lim (fa (bs [101,97,99,104])) (fa z)] (.l (.r ((bs [101,97,99,104])++z))))
 (.c (cmp .eql x.Kind 3) (.l (.r (bs [98,111,116,104])))
 (.c (cmp .eql x.Kind 4) (.l (.r (bs [108,101,115,115])))
 (.c (cmp .eql x.Kind 5) (.l (.r (bs [106,111,105,110])))
 (.k (Fe x.Num) λa=>.w [tf x.Num,lim (fa (bs [115,117,109])) (fa a)] (.l (.r ((bs [115,117,109])++a))))))))
def Vl(x:Plan):BA:=ocR (EG x).val
def Uo(x:Plan):Prop:=(EG x).ob
def Ju:Spec:=spF [(.st .plan)] (.one .fr .str) Vl Uo
theorem taa(G:Gd raa):CP 111 Ju:=ma (F:=saa) (fn:=Tryz.f111) G λ_ _=>ka G
abbrev V82:=List BA->Int->Plan×(List BA)×Bool×Unit
abbrev Q82:=List BA->Int->Prop
def Ku(v:V82)(p:Q82):Spec:=⟨[(.lst .str),(.int .i64)],.tup [(false,(.st .plan)),(false,(.lst .str)),(true,.bool)],false,λx=>(v x.1 x.2.1,0),λx=>p x.1 x.2.1⟩
def uaa(x:V82)(y:Q82):SP:=[(76,Bu),(111,Ju),(82,Ku x y)]
abbrev F82:Fnn:=⟨[.cell 4 36,.tmp 5,.tmp 6],.tup [(false,(.st .plan)),(false,(.lst .str)),(true,.bool)],none,[]⟩
def Lu(c:V82)(d:Q82)(a f _ _:Int)(_:List BA)(y:LP)(z:List BA)(b:Int):TX (Plan×(List BA)×Bool×Unit) (LP×(List BA)×Int) (LP×(List BA)):=.c (cmp .lss b f) (.k (c z (ar .sub .i64 a 1)) λx=>.w [d z (ar .sub .i64 a 1)] (.c (!x.2.2.1) (.l (.r ((aal 0 0 []),([],(false,())))))
 (.w [lim (ba .plan y) (ba .plan [(pE x.1)])] (.l (.n ((y++[(pE x.1)]),x.2.1,(ar .add .i64 b 1)))))))
 (.l (.x (y,z)))
def vaa:=λf g z a x y h b c d=>pcR (Lu f g z a x y h b c d) [0,0,1,0,1,1,1,0,0,1,0,0,1,1,0,0,1,0,0,1,0,1,1] (λq=>[(1,.I z),(4,bp0),(8,.I a),(12,.box [(.fr,.i x),(.fr,.i y),((.acc false),.lst .plan q.1)]),(13,.S .str q.2.1),(14,.I q.2.2)]) (b,c,d) (rvF F82) (λq=>(4,[(4,bp0),(12,.box [(.fr,.i x),(.fr,.i y),((.acc false),.lst .plan q.1)]),(13,.S .str q.2)]))
def Mu:=λy z a b c d x=>pcL (λs:LP×(List BA)×Int=>vaa y z a b c d x s.1 s.2.1 s.2.2) ([],x,0)
def ET(y:V82)(z:Q82)(a b c d:Int)(f:List BA):TA (Plan×(List BA)×Bool×Unit) (LP×(List BA)):=.sx (Mu y z a b c d f) (λx=>.l (.n (x.1,x.2)))
def FG:=λc d z a x y b=>pcT (ET c d z a x y b) [0,1,1,1,0,0,1,0,0,1,1,0,0,1,0,0,1,0,1,1] [(1,.I z),(4,bp0),(8,.I a),(12,.box [(.fr,.i x),(.fr,.i y),(.fr,.nl .plan)]),(13,.S .str b)] (rvF F82) (λq=>[(4,bp0),(12,.box [(.fr,.i x),(.fr,.i y),((.acc false),.lst .plan q.1)]),(13,.S .str q.2)])
def Vo(b:V82)(c:Q82)(x:List BA)(d y f _ z:Int):TA (Plan×(List BA)×Bool×Unit) Unit:=.w [Uo (aal y z []),inb 0 (ba .str x)] (.c (!(seq (Vl (aal y z [])) (rd .str x 0))) (.l (.n ()))
 (.w [le3 1 (ba .str x) (ba .str x)] (.sn (FG b c d f y z (aaY (aav 1) x)) (λa=>.l (.r ((aal y z a.1),(a.2,(true,()))))))))
def Nu:=λd f x y z a b c=>pcT (Vo d f x y z a b c) [0,1,0,0,1,1,0,0,1,0,0,1,0,1,1] [(0,.S .str x),(1,.I y),(4,bp0),(7,.I z),(8,.I a),(10,.I b),(11,.I c)] (rvF F82) (λ_=>[(0,.S .str x),(1,.I y),(4,bp0),(7,.I z),(8,.I a),(10,.I b),(11,.I c)])
def Wo(z:V82)(a:Q82)(b:List BA)(c d f y _ x:Int):TX (Plan×(List BA)×Bool×Unit) Int Unit:=.c (cmp .leq x y) (.sn (Nu z a b c d f y x) (λ_=>.l (.n (ar .add .i64 x 1))))
 (.l (.x ()))
def waa:=λd f x y z a b g c=>pcR (Wo d f x y z a b g c) [0,0,1,1,0,0,1,0,0,1,0,1,1] (λq=>[(0,.S .str x),(1,.I y),(4,bp0),(7,.I z),(8,.I a),(10,.I b),(11,.I q)]) c (rvF F82) (λ_=>(2,[(0,.S .str x),(1,.I y),(4,bp0),(7,.I z)]))
def Ou:=λy z a b c d f x=>pcL (λs:Int=>waa y z a b c d f x s) x
def GT(z:V82)(a:Q82)(b:List BA)(c x:Int):TA (Plan×(List BA)×Bool×Unit) Unit:=.k (Ph x) λy=>.w [Ro x] (.sx (Ou z a b c x y.1 y.2.2.1 y.2.1) (λ_=>.l (.n ())))
def GG:=λa b x y z=>pcT (GT a b x y z) [0,1,0,0,1,0,1,1] [(0,.S .str x),(1,.I y),(4,bp0),(7,.I z)] (rvF F82) (λ_=>[(0,.S .str x),(1,.I y),(4,bp0),(7,.I z)])
def Pu(y:V82)(z:Q82)(a:List BA)(b x:Int):TX (Plan×(List BA)×Bool×Unit) Int Unit:=.c (cmp .leq x 6) (.sn (GG y z a b x) (λ_=>.l (.n (ar .add .i64 x 1))))
 (.l (.x ()))
def xaa:=λa b x y z=>pcR (Pu a b x y z) [0,0,1,0,1,1] (λq=>[(0,.S .str x),(1,.I y),(4,bp0),(7,.I q)]) z (rvF F82) (λ_=>(0,[(4,bp0)]))
def Qu:=λx y z a=>pcL (λs:Int=>xaa x y z a s) 1
def HT(x:V82)(y:Q82)(z:List BA)(a:Int):TA (Plan×(List BA)×Bool×Unit) Unit:=.sx (Qu x y z a) (λ_=>.l (.n ()))
def HG:=λz a x y=>pcT (HT z a x y) [0,1,1] [(0,.S .str x),(1,.I y),(4,bp0)] (rvF F82) (λ_=>[(4,bp0)])
def sk(z:V82)(a:Q82)(x:List BA)(y:Int):TN (Plan×(List BA)×Bool×Unit):=.c (cond (cmp .eql (ba .str x) 0) true (cmp .lss y 1)) (.l (.r ((aal 0 0 []),([],(false,())))))
 (.sn (HG z a x y) (λ_=>.l (.r ((aal 0 0 []),([],(false,()))))))
theorem yaa{x:V82}{y:Q82}(G:Gd (uaa x y)):CP 82 (Ku (λz a=>ocR (sk x y z a).val) (λz a=>(sk x y z a).ob)):=ma (F:=F82) (fn:=Tryz.f82) G λ_ _=>ia G (λe=>⟨HG x y (gL .str e 0 0) (gI e 1 0)⟩) λ_=>ia G (λe=>⟨Qu x y (gL .str e 0 0) (gI e 1 0)⟩) λ_=>ra λ_=>ia G (λe=>⟨GG x y (gL .str e 0 0) (gI e 1 0) (gI e 7 0)⟩) λ_=>ia G (λe=>⟨Ou x y (gL .str e 0 0) (gI e 1 0) (gI e 7 0) (gI e 8 0) (gI e 10 0) (gI e 11 0)⟩) λ_=>ra λ_=>ia G (λe=>⟨Nu x y (gL .str e 0 0) (gI e 1 0) (gI e 7 0) (gI e 8 0) (gI e 10 0) (gI e 11 0)⟩) λ_=>ia G (λe=>⟨FG x y (gI e 1 0) (gI e 8 0) (gI e 12 0) (gI e 12 1) (gL .str e 13 0)⟩) λ_=>ia G (λe=>⟨Mu x y (gI e 1 0) (gI e 8 0) (gI e 12 0) (gI e 12 1) (gL .str e 13 0)⟩) λ_=>ra λ_=>ka G
def nb:Nat->V82×Q82
 |0=>(λ_ _=>default,λ_ _=>False)
 |n+1=>(λx y=>ocR (sk (nb n).1 (nb n).2 x y).val,λx y=>(sk (nb n).1 (nb n).2 x y).ob)
def Ru:V82:=(nb Ya).1
def IG:Q82:=(nb Ya).2
def IT:Spec:=Ku Ru IG
abbrev Ri:=Plan->BA
abbrev Si:=Plan->Prop
def Su(v:Ri)(p:Si):Spec:=⟨[(.st .plan)],.one .fr .str,false,λx=>(v x.1,0),λx=>p x.1⟩
def zaa(x:Ri)(y:Si):SP:=[(111,Ju),(112,Su x y)]
abbrev JG:Fnn:=⟨[.tmp 2],.one .fr .str,none,[]⟩
def Tu(b:Ri)(c:Si)(_:BA)(y:LP)(d:Int)(z:BA)(x:Int):TX BA (BA×Int) BA:=.c (cmp .lss x d) (.w [inb x (ba .plan y)] (.k (b (pE (rd .plan y x))) λa=>.w [c (pE (rd .plan y x)),lim (fa (bs [32])) (fa a),lim (fa z) (fa ((bs [32])++a))] (.l (.n ((z++((bs [32])++a)),(ar .add .i64 x 1))))))
 (.l (.x z))
def Aaa:=λb c d x y z a=>pcR (Tu b c d x y z a) [0,0,1,0,1,1] (λq=>[(3,.v .fr (.str q.1)),(9,.S .plan x),(10,.I y),(11,.I q.2)]) (z,a) (rvF JG) (λq=>(0,[(3,.v .fr (.str q))]))
def Uu:=λy z x a b=>pcL (λs:BA×Int=>Aaa y z x a b s.1 s.2) (x,0)
def JT(y:Ri)(z:Si)(_ _:Int)(x:LP)(a:BA):TA BA BA:=.sx (Uu y z a x (ba .plan x)) (λb=>.l (.n b))
def LG:=λb c x y z a=>pcT (JT b c x y z a) [0,1,1] [(1,bxP x y z),(3,.v .fr (.str a))] (rvF JG) (λq=>[(3,.v .fr (.str q))])
def Xo(y:Ri)(z:Si)(x:Plan):TN BA:=.w [Uo (pE x)] (.sn (LG y z x.Kind x.Num x.Kids (Vl (pE x))) (λa=>.l (.r a)))
theorem Baa{x:Ri}{y:Si}(G:Gd (zaa x y)):CP 112 (Su (λz=>ocR (Xo x y z).val) (λz=>(Xo x y z).ob)):=ma (F:=JG) (fn:=Tryz.f112) G λ_ _=>ia G (λe=>⟨LG x y (gI e 1 0) (gI e 1 1) (gL .plan e 1 2) (gS e 3 0)⟩) λ_=>ia G (λe=>⟨Uu x y (gS e 3 0) (gL .plan e 9 0) (gI e 10 0)⟩) λ_=>ra λ_=>ka G
def oe:Nat->Ri×Si
 |0=>(λ_=>default,λ_=>False)
 |n+1=>(λx=>ocR (Xo (oe n).1 (oe n).2 x).val,λx=>(Xo (oe n).1 (oe n).2 x).ob)
def MG:Ri:=(oe Ya).1
def QG:Si:=(oe Ya).2
def MT:Spec:=Su MG QG
def Caa:SP:=[(29,Tl),(112,MT)]
abbrev F83:Fnn:=⟨[.tmp 2],.one .fr .str,none,[]⟩
def RG(x:Plan):TN BA:=.w [rk (pE x)] (.c (!(qk (pE x))) (.l (.r aam))
 (.w [QG (pE x)] (.l (.r (MG (pE x))))))
def Vu(x:Plan):BA:=ocR (RG x).val
def Wu(x:Plan):Prop:=(RG x).ob
def SG:Spec:=spF [(.st .plan)] (.one .fr .str) Vu Wu
theorem Daa(G:Gd Caa):CP 83 SG:=ma (F:=F83) (fn:=Tryz.f83) G λ_ _=>ka G
def Eaa:SP:=[(20,tB),(82,IT),(29,Tl),(83,SG)]
abbrev F55:Fnn:=⟨[.cell 2 36,.tmp 3],.tup [(false,(.st .plan)),(true,.bool)],none,[]⟩
def Xu(y:BA):TN (Plan×Bool×Unit):=.c (cmp .gtr (fa y) 2000) (.l (.r ((aal 0 0 []),(false,()))))
 (.k (se y (bs [32])) λz=>.k (Ru z 4) λx=>.w [Em y (bs [32]),IG z 4] (.k (qk (pE x.1)) λa=>.w [((!(cond (!x.2.2.1) true (cmp .gtr (ba .str x.2.1) 0)))&&true)=true->(rk (pE x.1)),((!(cond (cond (!x.2.2.1) true (cmp .gtr (ba .str x.2.1) 0)) true (!a)))&&true)=true->(Wu (pE x.1))] (.c (cond (cond (cond (!x.2.2.1) true (cmp .gtr (ba .str x.2.1) 0)) true (!a)) true (!(seq (Vu (pE x.1)) y))) (.l (.r ((aal 0 0 []),(false,()))))
 (.l (.r ((pE x.1),(true,())))))))
def Yo(x:BA):Plan×Bool×Unit:=ocR (Xu x).val
def Zo(x:BA):Prop:=(Xu x).ob
def UG:Spec:=spF [.str] (.tup [(false,(.st .plan)),(true,.bool)]) Yo Zo
theorem Faa(G:Gd Eaa):CP 55 UG:=ma (F:=F55) (fn:=Tryz.f55) G λ_ _=>ka G
def Gaa:SP:=[(55,UG),(19,Iu)]
abbrev F33:Fnn:=⟨[.cell 4 45,.tmp 5],.tup [(false,(.st .sess)),(true,.str)],none,[]⟩
def VG(y:Sess)(z:BA):TN (Sess×BA×Unit):=.k (Yo z) λx=>.w [Zo z] (.c (!x.2.1) (.l (.r ((sE y),((bs [110,111]),()))))
 (.k (nh (pE x.1)) λa=>.w [Ul (pE x.1)] (.c (!a.2.1) (.l (.r ((sE y),((bs [110,111]),()))))
 (.l (.r ((sE a.1),((bs [112,108,97,110]),())))))))
def Yu(x:Sess)(y:BA):Sess×BA×Unit:=ocR (VG x y).val
def Zu(x:Sess)(y:BA):Prop:=(VG x y).ob
def WG:Spec:=spF [(.st .sess),.str] (.tup [(false,(.st .sess)),(true,.str)]) Yu Zu
theorem Haa(G:Gd Gaa):CP 33 WG:=ma (F:=F33) (fn:=Tryz.f33) G λ_ _=>ka G
def Iaa:SP:=[(56,AX)]
abbrev F34:Fnn:=⟨[.tmp 2,.tmp 3],.tup [(true,(.int .i64)),(true,.bool)],none,[]⟩
def bv(_ y:BA)(z x:Int):TX (Int×Bool×Unit) (Int×Int) Int:=.c (cmp .lss x (fa y)) (.w [inb x (fa y),((!(cmp .lss (Tc y x) 48))&&true)=true->inb x (fa y)] (.c (cond (cmp .lss (Tc y x) 48) true (cmp .gtr (Tc y x) 57)) (.l (.r (0,(false,()))))
 (.w [inb x (fa y)] (.l (.n ((ar .add .i64 (ar .mul .i64 10 z) (aao .i64 (ar .sub .u8 (Tc y x) 48))),(ar .add .i64 x 1)))))))
 (.l (.x z))
def Jaa:=λx y z a=>pcR (bv x y z a) [0,0,1,0,1,1,1,1] (λq=>[(0,.v .fr (.str x)),(4,.v .fr (.str y)),(5,.I q.1),(6,.I q.2)]) (z,a) (rvF F34) (λq=>(0,[(0,.v .fr (.str x)),(4,.v .fr (.str y)),(5,.I q)]))
def cv:=λx y=>pcL (λs:Int×Int=>Jaa x y s.1 s.2) (0,0)
def NT(x y:BA):TA (Int×Bool×Unit) Int:=.sx (cv x y) (λz=>.l (.n z))
def XG:=λx y=>pcT (NT x y) [0,1,1,1,1] [(0,.v .fr (.str x)),(4,.v .fr (.str y)),(5,.I 0)] (rvF F34) (λq=>[(0,.v .fr (.str x)),(4,.v .fr (.str y)),(5,.I q)])
def dv(y z:BA)(x:Int):TA (Int×Bool×Unit) Int:=.c (cmp .gtr (fa y) (fa z)) (.l (.n (aao .i64 (0 - x))))
 (.l (.n x))
def YG:=λx y z=>pcT (dv x y z) [0,1,1,1,1,1] [(0,.v .fr (.str x)),(4,.v .fr (.str y)),(5,.I z)] (rvF F34) (λq=>[(5,.I q)])
def ev(y:BA):TN (Int×Bool×Unit):=.k (uB y (bs [45])) λx=>.w [gr y (bs [45])] (.w [((!(cond (cmp .lss (fa x) 1) true (cmp .gtr (fa x) 2)))&&true)=true->inb 0 (fa x)] (.c (cond (cond (cmp .lss (fa x) 1) true (cmp .gtr (fa x) 2)) true (cond (cmp .eql (Tc x 0) 48) (cond (cmp .gtr (fa x) 1) true (cmp .gtr (fa y) (fa x))) false)) (.l (.r (0,(false,()))))
 (.sn (XG y x) (λz=>.sn (YG y x z) (λa=>.l (.r (a,(true,()))))))))
def cp(x:BA):Int×Bool×Unit:=ocR (ev x).val
def dp(x:BA):Prop:=(ev x).ob
def ZG:Spec:=spF [.str] (.tup [(true,(.int .i64)),(true,.bool)]) cp dp
theorem Kaa(G:Gd Iaa):CP 34 ZG:=ma (F:=F34) (fn:=Tryz.f34) G λ_ _=>Yc G [λe=>⟨XG (gS e 0 0) (gS e 4 0)⟩,λe=>⟨YG (gS e 0 0) (gS e 4 0) (gI e 5 0)⟩] ⟨λ_=>ia G (λe=>⟨cv (gS e 0 0) (gS e 4 0)⟩) λ_=>ra λ_=>ka G,λ_=>ka G,trivial⟩
def Laa:SP:=[]
abbrev F96:Fnn:=⟨[.tmp 2],.one .fr .bool,none,[]⟩
def aH(x:Time):TN Bool:=.l (.r (cond (cond (cond (cmp .geq x.A 0) (cmp .leq x.A 7) false) (cmp .geq x.B 0) false) (cmp .leq x.B 7) false))
def Eg(x:Time):Bool:=ocR (aH x).val
def Qh(x:Time):Prop:=(aH x).ob
def tk:Spec:=spF [(.st .time)] (.one .fr .bool) Eg Qh
theorem QT(G:Gd Laa):CP 96 tk:=ma (F:=F96) (fn:=Tryz.f96) G λ_ _=>ka G
def Maa:SP:=[(96,tk)]
abbrev F91:Fnn:=⟨[.tmp 2],.one .fr .bool,none,[]⟩
def ep(y:List Time)(a x:Int):TX Bool Int Unit:=.c (cmp .lss x a) (.w [inb x (ba .time y)] (.k (Eg (rd .time y x)) λz=>.w [Qh (rd .time y x),((cmp .gtr x 0)&&((!(!z))&&true))=true->inb (ar .sub .i64 x 1) (ba .time y),((!(cmp .geq (rd .time y (ar .sub .i64 x 1)).A (rd .time y x).A))&&((cmp .gtr x 0)&&((!(!z))&&true)))=true->inb (ar .sub .i64 x 1) (ba .time y)] (.c (cond (!z) true (cond (cmp .gtr x 0) (cond (cmp .geq (rd .time y (ar .sub .i64 x 1)).A (rd .time y x).A) true (cmp .leq (rd .time y (ar .sub .i64 x 1)).B (rd .time y x).B)) false)) (.l (.r false))
 (.l (.n (ar .add .i64 x 1))))))
 (.l (.x ()))
def Naa:=λx y z=>pcR (ep x y z) [0,0,1,0,1] (λq=>[(0,.S .time x),(5,.S .time x),(6,.I y),(7,.I q)]) z (rvF F91) (λ_=>(0,[]))
def fv:=λx y=>pcL (λs:Int=>Naa x y s) 0
def ST(x:List Time):TA Bool Unit:=.sx (fv x (ba .time x)) (λ_=>.l (.n ()))
def bH:=λx=>pcT (ST x) [0,1] [(0,.S .time x)] (rvF F91) (λ_=>[])
def cH(x:List Time):TN Bool:=.sn (bH x) (λ_=>.l (.r true))
def fp(x:List Time):Bool:=ocR (cH x).val
def gp(x:List Time):Prop:=(cH x).ob
def gv:Spec:=spF [(.lst .time)] (.one .fr .bool) fp gp
theorem Oaa(G:Gd Maa):CP 91 gv:=ma (F:=F91) (fn:=Tryz.f91) G λ_ _=>ia G (λe=>⟨bH (gL .time e 0 0)⟩) λ_=>ia G (λe=>⟨fv (gL .time e 0 0) (gI e 6 0)⟩) λ_=>ra λ_=>ka G
def Paa:SP:=[]
abbrev Qaa:Fnn:=⟨[.tmp 4],.one .fr .bool,none,[]⟩
def UT(x y:Time):TN Bool:=.l (.r (cond (cmp .lss x.A y.A) true (cond (cmp .eql x.A y.A) (cmp .lss x.B y.B) false)))
def dH(x:Time)(y:Time):Bool:=ocR (UT x y).val
def eH(x:Time)(y:Time):Prop:=(UT x y).ob
def fH:Spec:=spF [(.st .time),(.st .time)] (.one .fr .bool) dH eH
theorem Raa(G:Gd Paa):CP 128 fH:=ma (F:=Qaa) (fn:=Tryz.f128) G λ_ _=>ka G
def Saa:SP:=[(128,fH)]
abbrev Taa:Fnn:=⟨[.tmp 4],.one .fr .bool,none,[]⟩
def gH(x y:Row):TN Bool:=.c (cmp .neq x.Key y.Key) (.l (.r (cmp .lss x.Key y.Key)))
 (.c (cmp .neq x.Val y.Val) (.l (.r (cmp .lss x.Val y.Val)))
 (.w [eH x.At y.At] (.l (.r (dH x.At y.At)))))
def iv(x:Row)(y:Row):Bool:=ocR (gH x y).val
def jv(x:Row)(y:Row):Prop:=(gH x y).ob
def iH:Spec:=spF [(.st .row),(.st .row)] (.one .fr .bool) iv jv
theorem Uaa(G:Gd Saa):CP 114 iH:=ma (F:=Taa) (fn:=Tryz.f114) G λ_ _=>ka G
def Vaa:SP:=[(96,tk)]
abbrev jH:Fnn:=⟨[.tmp 2],.one .fr .bool,none,[]⟩
def lv(y:LR)(z x:Int):TX Bool Int Unit:=.c (cmp .lss x z) (.w [inb x (ba .row y)] (.w [((!(cond (cond (cond (cmp .lss (rd .row y x).Key 0) true (cmp .geq (rd .row y x).Key 4)) true (cmp .lss (rd .row y x).Val 0)) true (cmp .geq (rd .row y x).Val 100)))&&true)=true->(Qh (rd .row y x).At)] (.c (cond (cond (cond (cond (cond (cond (cmp .lss (rd .row y x).Key 0) true (cmp .geq (rd .row y x).Key 4)) true (cmp .lss (rd .row y x).Val 0)) true (cmp .geq (rd .row y x).Val 100)) true (!(Eg (rd .row y x).At))) true (cmp .lss (rd .row y x).Diff (-99999))) true (cmp .gtr (rd .row y x).Diff 99999)) (.l (.r false))
 (.l (.n (ar .add .i64 x 1))))))
 (.l (.x ()))
def Waa:=λx y z=>pcR (lv x y z) [0,0,1,0,1] (λq=>[(0,.S .row x),(5,.S .row x),(6,.I y),(7,.I q)]) z (rvF jH) (λ_=>(0,[(0,.S .row x)]))
def nv:=λx y=>pcL (λs:Int=>Waa x y s) 0
def VT(x:LR):TA Bool Unit:=.sx (nv x (ba .row x)) (λ_=>.l (.n ()))
def kH:=λx=>pcT (VT x) [0,1] [(0,.S .row x)] (rvF jH) (λ_=>[(0,.S .row x)])
def lH(x:LR):TN Bool:=.sn (kH x) (λ_=>.l (.r (cmp .leq (ba .row x) 400)))
def ip(x:LR):Bool:=ocR (lH x).val
def jp(x:LR):Prop:=(lH x).ob
def np:Spec:=spF [(.lst .row)] (.one .fr .bool) ip jp
theorem WT(G:Gd Vaa):CP 115 np:=ma (F:=jH) (fn:=Tryz.f115) G λ_ _=>ia G (λe=>⟨kH (gL .row e 0 0)⟩) λ_=>ia G (λe=>⟨nv (gL .row e 0 0) (gI e 6 0)⟩) λ_=>ra λ_=>ka G
def Xaa:SP:=[(114,iH),(115,np)]
abbrev F86:Fnn:=⟨[.tmp 2],.one .fr .bool,none,[]⟩
def qp(y:LR)(z x:Int):TX Bool Int Unit:=.c (cmp .lss x z) (.w [inb x (ba .row y)] (.w [((cmp .gtr x 0)&&((!(cmp .eql (rd .row y x).Diff 0))&&true))=true->inb (ar .sub .i64 x 1) (ba .row y),((cmp .gtr x 0)&&((!(cmp .eql (rd .row y x).Diff 0))&&true))=true->(jv (rd .row y (ar .sub .i64 x 1)) (rd .row y x))] (.c (cond (cmp .eql (rd .row y x).Diff 0) true (cond (cmp .gtr x 0) (!(iv (rd .row y (ar .sub .i64 x 1)) (rd .row y x))) false)) (.l (.r false))
 (.l (.n (ar .add .i64 x 1))))))
 (.l (.x ()))
def Yaa:=λx y z=>pcR (qp x y z) [0,0,1,0,1] (λq=>[(0,.S .row x),(5,.S .row x),(6,.I y),(7,.I q)]) z (rvF F86) (λ_=>(0,[(0,.S .row x)]))
def ov:=λx y=>pcL (λs:Int=>Yaa x y s) 0
def XT(x:LR):TA Bool Unit:=.sx (ov x (ba .row x)) (λ_=>.l (.n ()))
def mH:=λx=>pcT (XT x) [0,1] [(0,.S .row x)] (rvF F86) (λ_=>[(0,.S .row x)])
def nH(x:LR):TN Bool:=.sn (mH x) (λ_=>.w [jp x] (.l (.r (ip x))))
def Wl(x:LR):Bool:=ocR (nH x).val
def Xl(x:LR):Prop:=(nH x).ob
def rp:Spec:=spF [(.lst .row)] (.one .fr .bool) Wl Xl
theorem Zaa(G:Gd Xaa):CP 86 rp:=ma (F:=F86) (fn:=Tryz.f86) G λ_ _=>ia G (λe=>⟨mH (gL .row e 0 0)⟩) λ_=>ia G (λe=>⟨ov (gL .row e 0 0) (gI e 6 0)⟩) λ_=>ra λ_=>ka G
def aab:SP:=[]
abbrev bab:Fnn:=⟨[.tmp 2],.one (.acc false) (.lst .row),none,[2]⟩
def oH(x:LR):TN LR:=.w [ni (ba .row x) (ba .row x)] (.l (.r (List.take (abm (aaV (aav (ba .row x)) (aar 0 0 (aaq 0 0) 0))) x++aaY (abm x) (aaV (aav (ba .row x)) (aar 0 0 (aaq 0 0) 0)))))
def oh(x:LR):LR:=ocR (oH x).val
def uk(x:LR):Prop:=(oH x).ob
def qv:Spec:=spF [(.lst .row)] (.one (.acc false) (.lst .row)) oh uk
theorem cab(G:Gd aab):CP 117 qv:=ma (F:=bab) (fn:=Tryz.f117) G λ_ _=>ka G
def dab:SP:=[]
abbrev eab:Fnn:=⟨[.tmp 6,.tmp 7,.tmp 8],.tup [(true,(.int .i64)),(true,(.int .i64)),(true,.bool)],none,[]⟩
def pH(z x y:Int):TN (Int×Int×Bool×Unit):=.c (cmp .eql y 1) (.w [(4:Int)≠0,(4:Int)≠0] (.l (.r ((ar .rem .i64 x 4),((ar .add .i64 (ar .sub .i64 x (ar .rem .i64 x 4)) z),(true,()))))))
 (.c (cmp .eql y 2) (.w [(100:Int)≠0] (.l (.r (z,((ar .rem .i64 (ar .add .i64 x 1) 100),(true,()))))))
 (.c (cmp .eql y 3) (.w [(4:Int)≠0] (.l (.r ((ar .rem .i64 x 4),(x,(true,()))))))
 (.c (cmp .eql y 4) (.l (.r (0,(x,(true,())))))
 (.c (cmp .eql y 5) (.w [(2:Int)≠0] (.l (.r (z,(x,((cmp .eql (ar .rem .i64 x 2) 0),()))))))
 (.c (cmp .eql y 6) (.w [(2:Int)≠0] (.l (.r (z,(x,((cmp .eql (ar .rem .i64 z 2) 0),()))))))
 (.c (cmp .eql y 7) (.l (.r (z,(x,((cmp .lss x 10),())))))
 (.l (.r (0,(0,(false,())))))))))))
def sv(x:Int)(y:Int)(z:Int):Int×Int×Bool×Unit:=ocR (pH x y z).val
def uv(x:Int)(y:Int)(z:Int):Prop:=(pH x y z).ob
def qH:Spec:=spF [(.int .i64),(.int .i64),(.int .i64)] (.tup [(true,(.int .i64)),(true,(.int .i64)),(true,.bool)]) sv uv
theorem fab(G:Gd dab):CP 149 qH:=ma (F:=eab) (fn:=Tryz.f149) G λ_ _=>ka G
def gab:SP:=[(118,sO),(86,rp)]
abbrev F89:Fnn:=⟨[.tmp 2,.tmp 3],.tup [(false,(.lst .row)),(true,.bool)],none,[]⟩
def rH(y:LR):TN (LR×Bool×Unit):=.k (qO y) λx=>.w [rO y] (.w [Xl x] (.c (!(Wl x)) (.l (.r ([],(false,()))))
 (.l (.r (x,(true,()))))))
def Me(x:LR):LR×Bool×Unit:=ocR (rH x).val
def Rh(x:LR):Prop:=(rH x).ob
def vk:Spec:=spF [(.lst .row)] (.tup [(false,(.lst .row)),(true,.bool)]) Me Rh
theorem iab(G:Gd gab):CP 89 vk:=ma (F:=F89) (fn:=Tryz.f89) G λ_ _=>ka G
def jab:SP:=[(149,qH),(89,vk)]
abbrev wv:Fnn:=⟨[.tmp 4,.tmp 5],.tup [(false,(.lst .row)),(true,.bool)],none,[]⟩
def YT(b:Int)(a x:LR)(_ y:Int):TA (LR×Bool×Unit) LR:=.w [inb y (ba .row x)] (.k (sv (rd .row x y).Key (rd .row x y).Val b) λz=>.w [uv (rd .row x y).Key (rd .row x y).Val b] (.c z.2.2.1 (.w [lim (ba .row a) (ba .row [(aar z.1 z.2.1 (rd .row x y).At (rd .row x y).Diff)])] (.l (.n (a++[(aar z.1 z.2.1 (rd .row x y).At (rd .row x y).Diff)]))))
 (.l (.n a))))
def sH:=λx b y z a=>pcT (YT x b y z a) [0,1,1,0,0,1,0,1,1] [(1,.I x),(6,.A .row b),(13,.S .row y),(14,.I z),(15,.I a)] (rvF wv) (λq=>[(1,.I x),(6,.A .row q),(13,.S .row y),(14,.I z),(15,.I a)])
def xv(a:Int)(b:LR)(y:Int)(z:LR)(x:Int):TX (LR×Bool×Unit) (LR×Int) LR:=.c (cmp .lss x y) (.sn (sH a z b y x) (λc=>.l (.n (c,(ar .add .i64 x 1)))))
 (.l (.x z))
def kab:=λx y z a b=>pcR (xv x y z a b) [0,0,1,0,1,1] (λq=>[(1,.I x),(6,.A .row q.1),(13,.S .row y),(14,.I z),(15,.I q.2)]) (a,b) (rvF wv) (λq=>(0,[(6,.A .row q)]))
def yv:=λx y z=>pcL (λs:LR×Int=>kab x y z s.1 s.2) ([],0)
def ZT(x:LR)(y:Int):TA (LR×Bool×Unit) LR:=.sx (yv y x (ba .row x)) (λz=>.l (.n z))
def tH:=λx y=>pcT (ZT x y) [0,1,1] [(0,.S .row x),(1,.I y),(6,.A .row [])] (rvF wv) (λq=>[(6,.A .row q)])
def uH(y:LR)(z:Int):TN (LR×Bool×Unit):=.sn (tH y z) (λx=>.w [Rh x] (.l (.r ((Me x).1,((Me x).2.1,())))))
def Av(x:LR)(y:Int):LR×Bool×Unit:=ocR (uH x y).val
def Cv(x:LR)(y:Int):Prop:=(uH x y).ob
def vH:Spec:=spF [(.lst .row),(.int .i64)] (.tup [(false,(.lst .row)),(true,.bool)]) Av Cv
theorem lab(G:Gd jab):CP 131 vH:=ma (F:=wv) (fn:=Tryz.f131) G λ_ _=>ia G (λe=>⟨tH (gL .row e 0 0) (gI e 1 0)⟩) λ_=>ia G (λe=>⟨yv (gI e 1 0) (gL .row e 13 0) (gI e 14 0)⟩) λ_=>ra λ_=>ia G (λe=>⟨sH (gI e 1 0) (gL .row e 6 0) (gL .row e 13 0) (gI e 14 0) (gI e 15 0)⟩) λ_=>ka G
def mab:SP:=[]
abbrev F90:Fnn:=⟨[.tmp 4],.one (.acc false) (.lst .row),none,[]⟩
def wH(x y:LR):TN LR:=.w [lim (ba .row []) (ba .row x),lim (ba .row ([]++x)) (ba .row y)] (.l (.r (([]++x)++y)))
def vp(x:LR)(y:LR):LR:=ocR (wH x y).val
def xp(x:LR)(y:LR):Prop:=(wH x y).ob
def Dv:Spec:=spF [(.lst .row),(.lst .row)] (.one (.acc false) (.lst .row)) vp xp
theorem nab(G:Gd mab):CP 90 Dv:=ma (F:=F90) (fn:=Tryz.f90) G λ_ _=>ka G
def oab:SP:=[]
abbrev xH:Fnn:=⟨[.tmp 2],.one (.acc false) (.lst .row),none,[2]⟩
def Ev(_:LR)(z:Int)(y:LR)(x:Int):TX LR (LR×Int) LR:=.c (cmp .lss x z) (.w [inb x (ba .row y),inb x (ba .row y),inb x (ba .row y)] (.l (.n ((List.set y (aav x) (aar (rd .row y x).Key (rd .row y x).Val (rd .row y x).At (aao .i64 (0 - (rd .row y x).Diff)))),(ar .add .i64 x 1)))))
 (.l (.x y))
def pab:=λa x y z=>pcR (Ev a x y z) [0,0,1,0,1,1] (λq=>[(3,.v (.own false) (.lst .row q.1)),(9,.I x),(10,.I q.2)]) (y,z) (rvF xH) (λq=>(0,[(3,.v (.own false) (.lst .row q))]))
def Fv:=λx y=>pcL (λs:LR×Int=>pab x y s.1 s.2) (x,0)
def aU(x:LR):TA LR LR:=.sx (Fv x (ba .row x)) (λy=>.l (.n y))
def yH:=λx=>pcT (aU x) [0,1,1] [(3,.v (.acc false) (.lst .row x))] (rvF xH) (λq=>[(3,.v (.own false) (.lst .row q))])
def zH(x:LR):TN LR:=.w [lim (ba .row []) (ba .row x)] (.sn (yH ([]++x)) (λy=>.l (.r y)))
def Gv(x:LR):LR:=ocR (zH x).val
def Hv(x:LR):Prop:=(zH x).ob
def BH:Spec:=spF [(.lst .row)] (.one (.acc false) (.lst .row)) Gv Hv
theorem qab(G:Gd oab):CP 132 BH:=ma (F:=xH) (fn:=Tryz.f132) G λ_ _=>ia G (λe=>⟨yH (gL .row e 3 0)⟩) λ_=>X3 G [λe=>⟨Fv (gL .row e 3 0) (gI e 9 0)⟩] ⟨λ_=>ra λ_=>ka G,trivial⟩ [(2,3)] []
def rab:SP:=[]
abbrev sab:Fnn:=⟨[.tmp 4],.one .fr (.int .i64),none,[]⟩
def bU(x y:Int):TN Int:=.w [(100:Int)≠0] (.l (.r (ar .rem .i64 (ar .add .i64 (ar .mul .i64 10 x) y) 100)))
def CH(x:Int)(y:Int):Int:=ocR (bU x y).val
def DH(x:Int)(y:Int):Prop:=(bU x y).ob
def FH:Spec:=spF [(.int .i64),(.int .i64)] (.one .fr (.int .i64)) CH DH
theorem uab(G:Gd rab):CP 150 FH:=ma (F:=sab) (fn:=Tryz.f150) G λ_ _=>ka G
def vab:SP:=[(96,tk)]
abbrev wab:Fnn:=⟨[.cell 4 65],.one .fr (.st .time),none,[]⟩
def GH(x y:Time):TN Time:=.w [Qh x,((!(!(Eg x)))&&true)=true->(Qh y)] (.c (cond (!(Eg x)) true (!(Eg y))) (.l (.r (aaq 0 0)))
 (.l (.r (aaq (mx x.A y.A) (mx x.B y.B)))))
def yp(x:Time)(y:Time):Time:=ocR (GH x y).val
def zp(x:Time)(y:Time):Prop:=(GH x y).ob
def Ap:Spec:=spF [(.st .time),(.st .time)] (.one .fr (.st .time)) yp zp
theorem cU(G:Gd vab):CP 151 Ap:=ma (F:=wab) (fn:=Tryz.f151) G λ_ _=>ka G
def xab:SP:=[(150,FH),(151,Ap),(89,vk)]
abbrev Yl:Fnn:=⟨[.tmp 4,.tmp 5],.tup [(false,(.lst .row)),(true,.bool)],none,[]⟩
def dU(y a:LR)(x:Row)(_:LR)(_ _ _ z:Int):TA (LR×Bool×Unit) LR:=.w [inb z (ba .row y)] (.c (cmp .eql x.Key (rd .row y z).Key) (.k (CH x.Val (rd .row y z).Val) λb=>.k (yp x.At (rd .row y z).At) λc=>.w [DH x.Val (rd .row y z).Val,zp x.At (rd .row y z).At,lim (ba .row a) (ba .row [(aar x.Key b c (ar .mul .i64 x.Diff (rd .row y z).Diff))])] (.l (.n (a++[(aar x.Key b c (ar .mul .i64 x.Diff (rd .row y z).Diff))]))))
 (.l (.n a)))
def HH:=λy f x z a b c d=>pcT (dU y f x z a b c d) [0,1,1,0,0,1,1,0,0,1,1,0,0,1,0,1,1] [(1,.S .row y),(6,.A .row f),(8,.B [x.Key,x.Val,x.At.A,x.At.B,x.Diff]),(12,.S .row z),(13,.I a),(14,.I b),(18,.S .row y),(19,.I c),(20,.I d)] (rvF Yl) (λq=>[(1,.S .row y),(6,.A .row q),(8,.B [x.Key,x.Val,x.At.A,x.At.B,x.Diff]),(12,.S .row z),(13,.I a),(14,.I b),(18,.S .row y),(19,.I c),(20,.I d)])
def Iv(a _:LR)(b:Row)(c:LR)(d f y:Int)(z:LR)(x:Int):TX (LR×Bool×Unit) (LR×Int) LR:=.c (cmp .lss x y) (.sn (HH a z b c d f y x) (λg=>.l (.n (g,(ar .add .i64 x 1)))))
 (.l (.x z))
def yab:=λy g x z a b c d f=>pcR (Iv y g x z a b c d f) [0,0,1,1,0,0,1,1,0,0,1,0,1,1] (λq=>[(1,.S .row y),(6,.A .row q.1),(8,.B [x.Key,x.Val,x.At.A,x.At.B,x.Diff]),(12,.S .row z),(13,.I a),(14,.I b),(18,.S .row y),(19,.I c),(20,.I q.2)]) (d,f) (rvF Yl) (λq=>(2,[(1,.S .row y),(6,.A .row q),(12,.S .row z),(13,.I a),(14,.I b)]))
def Jv:=λy x z a b c d=>pcL (λs:LR×Int=>yab y x z a b c d s.1 s.2) (x,0)
def eU(z a x:LR)(b y:Int):TA (LR×Bool×Unit) LR:=.w [inb y (ba .row x)] (.sx (Jv z a (rd .row x y) x b y (ba .row z)) (λc=>.l (.n c)))
def IH:=λx b y z a=>pcT (eU x b y z a) [0,1,1,0,0,1,0,1,1] [(1,.S .row x),(6,.A .row b),(12,.S .row y),(13,.I z),(14,.I a)] (rvF Yl) (λq=>[(1,.S .row x),(6,.A .row q),(12,.S .row y),(13,.I z),(14,.I a)])
def Kv(a b:LR)(y:Int)(z:LR)(x:Int):TX (LR×Bool×Unit) (LR×Int) LR:=.c (cmp .lss x y) (.sn (IH a z b y x) (λc=>.l (.n (c,(ar .add .i64 x 1)))))
 (.l (.x z))
def zab:=λx y z a b=>pcR (Kv x y z a b) [0,0,1,0,1,1] (λq=>[(1,.S .row x),(6,.A .row q.1),(12,.S .row y),(13,.I z),(14,.I q.2)]) (a,b) (rvF Yl) (λq=>(0,[(6,.A .row q)]))
def Lv:=λx y z=>pcL (λs:LR×Int=>zab x y z s.1 s.2) ([],0)
def fU(x y:LR):TA (LR×Bool×Unit) LR:=.sx (Lv y x (ba .row x)) (λz=>.l (.n z))
def JH:=λx y=>pcT (fU x y) [0,1,1] [(0,.S .row x),(1,.S .row y),(6,.A .row [])] (rvF Yl) (λq=>[(6,.A .row q)])
def LH(y z:LR):TN (LR×Bool×Unit):=.sn (JH y z) (λx=>.w [Rh x] (.l (.r ((Me x).1,((Me x).2.1,())))))
def Mv(x:LR)(y:LR):LR×Bool×Unit:=ocR (LH x y).val
def Nv(x:LR)(y:LR):Prop:=(LH x y).ob
def MH:Spec:=spF [(.lst .row),(.lst .row)] (.tup [(false,(.lst .row)),(true,.bool)]) Mv Nv
theorem Aab(G:Gd xab):CP 133 MH:=ma (F:=Yl) (fn:=Tryz.f133) G λ_ _=>ia G (λe=>⟨JH (gL .row e 0 0) (gL .row e 1 0)⟩) λ_=>ia G (λe=>⟨Lv (gL .row e 1 0) (gL .row e 12 0) (gI e 13 0)⟩) λ_=>ra λ_=>ia G (λe=>⟨IH (gL .row e 1 0) (gL .row e 6 0) (gL .row e 12 0) (gI e 13 0) (gI e 14 0)⟩) λ_=>ia G (λe=>⟨Jv (gL .row e 1 0) (gL .row e 6 0) (gRow e 8) (gL .row e 12 0) (gI e 13 0) (gI e 14 0) (gI e 19 0)⟩) λ_=>ra λ_=>ia G (λe=>⟨HH (gL .row e 1 0) (gL .row e 6 0) (gRow e 8) (gL .row e 12 0) (gI e 13 0) (gI e 14 0) (gI e 19 0) (gI e 20 0)⟩) λ_=>ka G
def Bab:SP:=[]
abbrev Cab:Fnn:=⟨[.tmp 4],.one .fr .bool,none,[]⟩
def gU(x y:Time):TN Bool:=.l (.r (cond (cmp .leq x.A y.A) (cmp .leq x.B y.B) false))
def Ov(x:Time)(y:Time):Bool:=ocR (gU x y).val
def Pv(x:Time)(y:Time):Prop:=(gU x y).ob
def Qv:Spec:=spF [(.st .time),(.st .time)] (.one .fr .bool) Ov Pv
theorem Dab(G:Gd Bab):CP 116 Qv:=ma (F:=Cab) (fn:=Tryz.f116) G λ_ _=>ka G
def Eab:SP:=[(116,Qv),(121,SE)]
abbrev F97:Fnn:=⟨[.tmp 4],.one .fr (.lst .item),none,[]⟩
def iU(a:Time)(z:LI)(x:LR)(_ y:Int):TA LI LI:=.w [inb y (ba .row x)] (.w [Pv (rd .row x y).At a] (.c (Ov (rd .row x y).At a) (.w [lim (ba .item z) (ba .item [(aaB (rd .row x y).Key (rd .row x y).Val (rd .row x y).Diff)])] (.l (.n (z++[(aaB (rd .row x y).Key (rd .row x y).Val (rd .row x y).Diff)]))))
 (.l (.n z))))
def PH:=λx b y z a=>pcT (iU x b y z a) [0,1,1,0,0,1,0,1,1] [(3,.B [x.A,x.B]),(5,.A .item b),(9,.S .row y),(10,.I z),(11,.I a)] (rvF F97) (λq=>[(3,.B [x.A,x.B]),(5,.A .item q),(9,.S .row y),(10,.I z),(11,.I a)])
def Rv(a:Time)(b:LR)(y:Int)(z:LI)(x:Int):TX LI (LI×Int) LI:=.c (cmp .lss x y) (.sn (PH a z b y x) (λc=>.l (.n (c,(ar .add .i64 x 1)))))
 (.l (.x z))
def Fab:=λx y z a b=>pcR (Rv x y z a b) [0,0,1,0,1,1] (λq=>[(3,.B [x.A,x.B]),(5,.A .item q.1),(9,.S .row y),(10,.I z),(11,.I q.2)]) (a,b) (rvF F97) (λq=>(0,[(5,.A .item q)]))
def Sv:=λx y z=>pcL (λs:LI×Int=>Fab x y z s.1 s.2) ([],0)
def jU(x:LR)(y:Time):TA LI LI:=.sx (Sv y x (ba .row x)) (λz=>.l (.n z))
def QH:=λy x=>pcT (jU y x) [0,1,1] [(0,.S .row y),(3,.B [x.A,x.B]),(5,.A .item [])] (rvF F97) (λq=>[(5,.A .item q)])
def RH(y:LR)(z:Time):TN LI:=.sn (QH y z) (λx=>.w [eo x] (.l (.r (Jt x))))
def Zl(x:LR)(y:Time):LI:=ocR (RH x y).val
def am(x:LR)(y:Time):Prop:=(RH x y).ob
def Tv:Spec:=spF [(.lst .row),(.st .time)] (.one .fr (.lst .item)) Zl am
theorem Gab(G:Gd Eab):CP 97 Tv:=ma (F:=F97) (fn:=Tryz.f97) G λ_ _=>ia G (λe=>⟨QH (gL .row e 0 0) (Fd e 3)⟩) λ_=>ia G (λe=>⟨Sv (Fd e 3) (gL .row e 9 0) (gI e 10 0)⟩) λ_=>ra λ_=>ia G (λe=>⟨PH (Fd e 3) (gL .item e 5 0) (gL .row e 9 0) (gI e 10 0) (gI e 11 0)⟩) λ_=>ka G
def Hab:SP:=[]
abbrev wk:Fnn:=⟨[.tmp 2],.one (.acc true) (.lst .item),none,[]⟩
def kU(x _:LI)(a z _ y:Int):TA LI Int:=.w [inb y (ba .item x)] (.c (cmp .eql (rd .item x y).Key a) (.l (.n (ar .add .i64 z (rd .item x y).Count)))
 (.l (.n z)))
def SH:=λx y z c a b=>pcT (kU x y z c a b) [0,1,1,0,0,1,0,1,0,0,1,0,0,1,0,1,1] [(0,.S .item x),(3,.A .item y),(4,.I z),(5,.I c),(13,.S .item x),(14,.I a),(15,.I b)] (rvF wk) (λq=>[(0,.S .item x),(3,.A .item y),(4,.I z),(5,.I q),(13,.S .item x),(14,.I a),(15,.I b)])
def Uv(a b:LI)(c y z x:Int):TX LI (Int×Int) Int:=.c (cmp .lss x y) (.sn (SH a b c z y x) (λd=>.l (.n (d,(ar .add .i64 x 1)))))
 (.l (.x z))
def Iab:=λx y z a b c=>pcR (Uv x y z a b c) [0,0,1,0,1,0,0,1,0,0,1,0,1,1] (λq=>[(0,.S .item x),(3,.A .item y),(4,.I z),(5,.I q.1),(13,.S .item x),(14,.I a),(15,.I q.2)]) (b,c) (rvF wk) (λq=>(2,[(0,.S .item x),(3,.A .item y),(4,.I z),(5,.I q)]))
def Vv:=λx y z a=>pcL (λs:Int×Int=>Iab x y z a s.1 s.2) (0,0)
def lU(x y:LI)(z:Int):TA LI Int:=.sx (Vv x y z (ba .item x)) (λa=>.l (.n a))
def VH:=λx y z=>pcT (lU x y z) [0,1,0,0,1,0,0,1,0,1,1] [(0,.S .item x),(3,.A .item y),(4,.I z),(5,.I 0)] (rvF wk) (λq=>[(0,.S .item x),(3,.A .item y),(4,.I z),(5,.I q)])
def mU(a x:LI)(y:Int):TA LI LI:=.sn (VH a x y) (λz=>.c (cmp .neq z 0) (.w [(100:Int)≠0,(100:Int)≠0,lim (ba .item x) (ba .item [(aaB y (ar .rem .i64 (ar .add .i64 (ar .rem .i64 z 100) 100) 100) 1)])] (.l (.n (x++[(aaB y (ar .rem .i64 (ar .add .i64 (ar .rem .i64 z 100) 100) 100) 1)]))))
 (.l (.n x)))
def WH:=λx z y=>pcT (mU x z y) [0,1,0,0,1,0,1,1] [(0,.S .item x),(3,.A .item z),(4,.I y)] (rvF wk) (λq=>[(0,.S .item x),(3,.A .item q),(4,.I y)])
def Wv(z y:LI)(x:Int):TX LI (LI×Int) LI:=.c (cmp .lss x 4) (.sn (WH z y x) (λa=>.l (.n (a,(ar .add .i64 x 1)))))
 (.l (.x y))
def Jab:=λx y z=>pcR (Wv x y z) [0,0,1,0,1,1] (λq=>[(0,.S .item x),(3,.A .item q.1),(4,.I q.2)]) (y,z) (rvF wk) (λq=>(0,[(3,.A .item q)]))
def Xv:=λx=>pcL (λs:LI×Int=>Jab x s.1 s.2) ([],0)
def nU(x:LI):TA LI LI:=.sx (Xv x) (λy=>.l (.n y))
def XH:=λx=>pcT (nU x) [0,1,1] [(0,.S .item x),(3,.A .item [])] (rvF wk) (λq=>[(3,.A .item q)])
def YH(x:LI):TN LI:=.sn (XH x) (λy=>.l (.r y))
def Yv(x:LI):LI:=ocR (YH x).val
def Zv(x:LI):Prop:=(YH x).ob
def ZH:Spec:=spF [(.lst .item)] (.one (.acc true) (.lst .item)) Yv Zv
theorem Kab(G:Gd Hab):CP 180 ZH:=ma (F:=wk) (fn:=Tryz.f180) G λ_ _=>ia G (λe=>⟨XH (gL .item e 0 0)⟩) λ_=>ia G (λe=>⟨Xv (gL .item e 0 0)⟩) λ_=>ra λ_=>ia G (λe=>⟨WH (gL .item e 0 0) (gL .item e 3 0) (gI e 4 0)⟩) λ_=>ia G (λe=>⟨VH (gL .item e 0 0) (gL .item e 3 0) (gI e 4 0)⟩) λ_=>ia G (λe=>⟨Vv (gL .item e 0 0) (gL .item e 3 0) (gI e 4 0) (gI e 14 0)⟩) λ_=>ra λ_=>ia G (λe=>⟨SH (gL .item e 0 0) (gL .item e 3 0) (gI e 4 0) (gI e 5 0) (gI e 14 0) (gI e 15 0)⟩) λ_=>ka G
def Lab:SP:=[]
abbrev aw:Fnn:=⟨[.tmp 2],.one (.acc true) (.lst .item),none,[]⟩
def oU(z x:LI)(_ y:Int):TA LI LI:=.w [inb y (ba .item x)] (.c (cmp .gtr (rd .item x y).Count 0) (.w [lim (ba .item z) (ba .item [(aaB (rd .item x y).Key (rd .item x y).Val 1)])] (.l (.n (z++[(aaB (rd .item x y).Key (rd .item x y).Val 1)]))))
 (.l (.n z)))
def bw:=λa x y z=>pcT (oU a x y z) [0,1,1,0,0,1,0,1,1] [(3,.A .item a),(7,.S .item x),(8,.I y),(9,.I z)] (rvF aw) (λq=>[(3,.A .item q),(7,.S .item x),(8,.I y),(9,.I z)])
def cw(a:LI)(y:Int)(z:LI)(x:Int):TX LI (LI×Int) LI:=.c (cmp .lss x y) (.sn (bw z a y x) (λb=>.l (.n (b,(ar .add .i64 x 1)))))
 (.l (.x z))
def Mab:=λx y z a=>pcR (cw x y z a) [0,0,1,0,1,1] (λq=>[(3,.A .item q.1),(7,.S .item x),(8,.I y),(9,.I q.2)]) (z,a) (rvF aw) (λq=>(0,[(3,.A .item q)]))
def dw:=λx y=>pcL (λs:LI×Int=>Mab x y s.1 s.2) ([],0)
def pU(x:LI):TA LI LI:=.sx (dw x (ba .item x)) (λy=>.l (.n y))
def aI:=λx=>pcT (pU x) [0,1,1] [(0,.S .item x),(3,.A .item [])] (rvF aw) (λq=>[(3,.A .item q)])
def bI(x:LI):TN LI:=.sn (aI x) (λy=>.l (.r y))
def bm(x:LI):LI:=ocR (bI x).val
def Bp(x:LI):Prop:=(bI x).ob
def ew:Spec:=spF [(.lst .item)] (.one (.acc true) (.lst .item)) bm Bp
theorem Nab(G:Gd Lab):CP 181 ew:=ma (F:=aw) (fn:=Tryz.f181) G λ_ _=>ia G (λe=>⟨aI (gL .item e 0 0)⟩) λ_=>ia G (λe=>⟨dw (gL .item e 7 0) (gI e 8 0)⟩) λ_=>ra λ_=>ia G (λe=>⟨bw (gL .item e 3 0) (gL .item e 7 0) (gI e 8 0) (gI e 9 0)⟩) λ_=>ka G
def Oab:SP:=[(181,ew)]
abbrev fw:Fnn:=⟨[.tmp 2],.one (.acc true) (.lst .item),none,[]⟩
def qU(x y:LI)(_ z:Int):TA LI LI:=.w [inb z (ba .item y)] (.w [((!(cmp .eql (ba .item x) 0))&&true)=true->inb (ar .sub .i64 (ba .item x) 1) (ba .item x)] (.c (cond (cmp .eql (ba .item x) 0) true (cmp .neq (rd .item x (ar .sub .i64 (ba .item x) 1)).Key (rd .item y z).Key)) (.w [lim (ba .item x) (ba .item [(rd .item y z)])] (.l (.n (x++[(rd .item y z)]))))
 (.l (.n x))))
def cI:=λa x y z=>pcT (qU a x y z) [0,1,1,0,0,1,0,1,1] [(3,.A .item a),(8,.A .item x),(9,.I y),(10,.I z)] (rvF fw) (λq=>[(3,.A .item q),(8,.A .item x),(9,.I y),(10,.I z)])
def gw(a:LI)(y:Int)(z:LI)(x:Int):TX LI (LI×Int) LI:=.c (cmp .lss x y) (.sn (cI z a y x) (λb=>.l (.n (b,(ar .add .i64 x 1)))))
 (.l (.x z))
def Pab:=λx y z a=>pcR (gw x y z a) [0,0,1,0,1,1] (λq=>[(3,.A .item q.1),(8,.A .item x),(9,.I y),(10,.I q.2)]) (z,a) (rvF fw) (λq=>(0,[(3,.A .item q)]))
def iw:=λx y=>pcL (λs:LI×Int=>Pab x y s.1 s.2) ([],0)
def rU(x:LI):TA LI LI:=.w [Bp x] (.sx (iw (bm x) (ba .item (bm x))) (λy=>.l (.n y)))
def fI:=λx=>pcT (rU x) [0,1,1] [(0,.S .item x),(3,.A .item [])] (rvF fw) (λq=>[(3,.A .item q)])
def iI(x:LI):TN LI:=.sn (fI x) (λy=>.l (.r y))
def jw(x:LI):LI:=ocR (iI x).val
def kw(x:LI):Prop:=(iI x).ob
def jI:Spec:=spF [(.lst .item)] (.one (.acc true) (.lst .item)) jw kw
theorem Qab(G:Gd Oab):CP 182 jI:=ma (F:=fw) (fn:=Tryz.f182) G λ_ _=>ia G (λe=>⟨fI (gL .item e 0 0)⟩) λ_=>ia G (λe=>⟨iw (gL .item e 8 0) (gI e 9 0)⟩) λ_=>ra λ_=>ia G (λe=>⟨cI (gL .item e 3 0) (gL .item e 8 0) (gI e 9 0) (gI e 10 0)⟩) λ_=>ka G
def Rab:SP:=[(180,ZH),(181,ew),(182,jI)]
abbrev Sab:Fnn:=⟨[.tmp 4],.one (.acc true) (.lst .item),none,[]⟩
def lI(x:LI)(y:Int):TN LI:=.c (cmp .eql y 1) (.w [Zv x] (.l (.r (Yv x))))
 (.c (cmp .eql y 2) (.w [Bp x] (.l (.r (bm x))))
 (.w [kw x] (.l (.r (jw x)))))
def lw(x:LI)(y:Int):LI:=ocR (lI x y).val
def mw(x:LI)(y:Int):Prop:=(lI x y).ob
def mI:Spec:=spF [(.lst .item),(.int .i64)] (.one (.acc true) (.lst .item)) lw mw
theorem Uab(G:Gd Rab):CP 153 mI:=ma (F:=Sab) (fn:=Tryz.f153) G λ_ _=>ka G
def Vab:SP:=[(152,DX),(97,Tv),(153,mI),(121,SE),(89,vk)]
abbrev Mf:Fnn:=⟨[.tmp 4,.tmp 5],.tup [(false,(.lst .row)),(true,.bool)],none,[]⟩
def sU(x:LR)(_:Int)(_:LR)(a:Int)(z:LR)(_ y:Int):TA (LR×Bool×Unit) LR:=.w [inb y (ba .row x)] (.c (cmp .eql (rd .row x y).Key a) (.w [lim (ba .row z) (ba .row [(rd .row x y)])] (.l (.n (z++[(rd .row x y)]))))
 (.l (.n z)))
def nI:=λx y z a d b c=>pcT (sU x y z a d b c) [0,1,1,0,0,1,0,1,0,0,1,0,0,1,0,1,1] [(0,.S .row x),(1,.I y),(6,.A .row z),(7,.I a),(8,.A .row d),(25,.S .row x),(26,.I b),(27,.I c)] (rvF Mf) (λq=>[(0,.S .row x),(1,.I y),(6,.A .row z),(7,.I a),(8,.A .row q),(25,.S .row x),(26,.I b),(27,.I c)])
def nw(a:LR)(b:Int)(c:LR)(d y:Int)(z:LR)(x:Int):TX (LR×Bool×Unit) (LR×Int) LR:=.c (cmp .lss x y) (.sn (nI a b c d z y x) (λf=>.l (.n (f,(ar .add .i64 x 1)))))
 (.l (.x z))
def Wab:=λx y z a b c d=>pcR (nw x y z a b c d) [0,0,1,0,1,0,0,1,0,0,1,0,1,1] (λq=>[(0,.S .row x),(1,.I y),(6,.A .row z),(7,.I a),(8,.A .row q.1),(25,.S .row x),(26,.I b),(27,.I q.2)]) (c,d) (rvF Mf) (λq=>(2,[(0,.S .row x),(1,.I y),(6,.A .row z),(7,.I a),(8,.A .row q)]))
def pw:=λx y z a b=>pcL (λs:LR×Int=>Wab x y z a b s.1 s.2) ([],0)
def tU(x:LR)(y:Int)(z:LR)(a:Int):TA (LR×Bool×Unit) LR:=.sx (pw x y z a (ba .row x)) (λb=>.l (.n b))
def oI:=λx y z a=>pcT (tU x y z a) [0,1,0,0,1,0,0,1,0,1,1] [(0,.S .row x),(1,.I y),(6,.A .row z),(7,.I a),(8,.A .row [])] (rvF Mf) (λq=>[(0,.S .row x),(1,.I y),(6,.A .row z),(7,.I a),(8,.A .row q)])
def qw(_:LR)(_:Int)(_:LR)(_:Int)(_ _:LR)(_:Time)(_:LI)(_:List Time)(_ _:Int)(y:LI)(a:Int)(z:LI)(x:Int):TX (LR×Bool×Unit) (LI×Int) LI:=.c (cmp .lss x a) (.w [inb x (ba .item y)] (.w [lim (ba .item z) (ba .item [(aaB (rd .item y x).Key (rd .item y x).Val (aao .i64 (0 - (rd .item y x).Count)))])] (.l (.n ((z++[(aaB (rd .item y x).Key (rd .item y x).Val (aao .i64 (0 - (rd .item y x).Count)))]),(ar .add .i64 x 1))))))
 (.l (.x z))
def Xab:=λy z a b c d x m f g h i j k l=>pcR (qw y z a b c d x m f g h i j k l) [0,0,1,0,1,1,0,0,1,1,0,0,1,0,1,1,1,0,0,1,0,0,1,0,1,1] (λq=>[(0,.S .row y),(1,.I z),(6,.A .row a),(7,.I b),(8,.A .row c),(11,.A .row d),(13,.B [x.A,x.B]),(14,.A .item q.1),(43,.v .fr (.lst .time f)),(44,.I g),(45,.I h),(56,.v .fr (.lst .item i)),(57,.I j),(58,.I q.2)]) (k,l) (rvF Mf) (λq=>(6,[(0,.S .row y),(1,.I z),(6,.A .row a),(7,.I b),(8,.A .row c),(11,.A .row d),(13,.B [x.A,x.B]),(14,.A .item q),(43,.v .fr (.lst .time f)),(44,.I g),(45,.I h)]))
def sw:=λy z a b c d f x g h i j k=>pcL (λs:LI×Int=>Xab y z a b c d f x g h i j k s.1 s.2) (x,0)
def uU(a:LR)(b:Int)(c:LR)(d:Int)(f x:LR)(y:Time)(g:LI)(h:List Time)(i j:Int):TA (LR×Bool×Unit) LI:=.k (Zl x y) λz=>.w [am x y] (.sx (sw a b c d f x y g h i j z (ba .item z)) (λk=>.l (.n k)))
def pI:=λy z a b c d x i f g h=>pcT (uU y z a b c d x i f g h) [0,1,1,0,0,1,1,0,0,1,0,1,1,1,0,0,1,0,0,1,0,1,1] [(0,.S .row y),(1,.I z),(6,.A .row a),(7,.I b),(8,.A .row c),(11,.A .row d),(13,.B [x.A,x.B]),(14,.A .item i),(43,.v .fr (.lst .time f)),(44,.I g),(45,.I h)] (rvF Mf) (λq=>[(0,.S .row y),(1,.I z),(6,.A .row a),(7,.I b),(8,.A .row c),(11,.A .row d),(13,.B [x.A,x.B]),(14,.A .item q),(43,.v .fr (.lst .time f)),(44,.I g),(45,.I h)])
def tw(_:LR)(_:Int)(_:LR)(_:Int)(_ _:LR)(a:Time)(_:List Time)(_ _:Int)(y:LI)(b:Int)(z:LR)(x:Int):TX (LR×Bool×Unit) (LR×Int) LR:=.c (cmp .lss x b) (.w [inb x (ba .item y)] (.w [lim (ba .row z) (ba .row [(aar (rd .item y x).Key (rd .item y x).Val a (rd .item y x).Count)])] (.l (.n ((z++[(aar (rd .item y x).Key (rd .item y x).Val a (rd .item y x).Count)]),(ar .add .i64 x 1))))))
 (.l (.x z))
def Yab:=λx y z a b l c d f g h i j k=>pcR (tw x y z a b l c d f g h i j k) [0,0,1,1,1,1,0,0,1,1,0,0,1,0,1,1,1,0,0,1,0,0,1,0,1,1] (λq=>[(0,.S .row x),(1,.I y),(6,.A .row z),(7,.I a),(8,.A .row b),(11,.A .row q.1),(13,.B [c.A,c.B]),(43,.v .fr (.lst .time d)),(44,.I f),(45,.I g),(75,.v .fr (.lst .item h)),(76,.I i),(77,.I q.2)]) (j,k) (rvF Mf) (λq=>(8,[(0,.S .row x),(1,.I y),(6,.A .row z),(7,.I a),(8,.A .row b),(11,.A .row q),(43,.v .fr (.lst .time d)),(44,.I f),(45,.I g)]))
def uw:=λy z a b c x d f g h i j=>pcL (λs:LR×Int=>Yab y z a b c x d f g h i j s.1 s.2) (x,0)
def vw(b:LR)(z:Int)(c:LR)(d:Int)(a f:LR)(x:List Time)(g y:Int):TA (LR×Bool×Unit) LR:=.w [inb y (ba .time x)] (.k (Zl a (rd .time x y)) λh=>.w [am a (rd .time x y),mw h z] (.sn (pI b z c d a f (rd .time x y) (lw h z) x g y) (λi=>.k (Jt i) λj=>.w [eo i] (.sx (uw b z c d a f (rd .time x y) x g y j (ba .item j)) (λk=>.l (.n k))))))
def qI:=λx y z a b g c d f=>pcT (vw x y z a b g c d f) [0,1,1,0,0,1,0,1,1,1,0,0,1,0,0,1,0,1,1] [(0,.S .row x),(1,.I y),(6,.A .row z),(7,.I a),(8,.A .row b),(11,.A .row g),(43,.v .fr (.lst .time c)),(44,.I d),(45,.I f)] (rvF Mf) (λq=>[(0,.S .row x),(1,.I y),(6,.A .row z),(7,.I a),(8,.A .row b),(11,.A .row q),(43,.v .fr (.lst .time c)),(44,.I d),(45,.I f)])
def Cp(a:LR)(b:Int)(c:LR)(d:Int)(f:LR)(g:List Time)(y:Int)(z:LR)(x:Int):TX (LR×Bool×Unit) (LR×Int) LR:=.c (cmp .lss x y) (.sn (qI a b c d f z g y x) (λh=>.l (.n (h,(ar .add .i64 x 1)))))
 (.l (.x z))
def Zab:=λx y z a b c d f g=>pcR (Cp x y z a b c d f g) [0,0,1,0,1,1,1,0,0,1,0,0,1,0,1,1] (λq=>[(0,.S .row x),(1,.I y),(6,.A .row z),(7,.I a),(8,.A .row b),(11,.A .row q.1),(43,.v .fr (.lst .time c)),(44,.I d),(45,.I q.2)]) (f,g) (rvF Mf) (λq=>(4,[(0,.S .row x),(1,.I y),(6,.A .row z),(7,.I a),(11,.A .row q)]))
def ww:=λx y z a b c d=>pcL (λs:LR×Int=>Zab x y z a b c d s.1 s.2) ([],0)
def vU(x:LR)(a:Int)(b:LR)(y:Int)(c:LR):TA (LR×Bool×Unit) LR:=.k (yb x y) λz=>.w [AN x y] (.sx (ww x a b y c z (ba .time z)) (λd=>.l (.n d)))
def rI:=λx y z a b=>pcT (vU x y z a b) [0,1,1,1,0,0,1,0,0,1,0,1,1] [(0,.S .row x),(1,.I y),(6,.A .row z),(7,.I a),(8,.A .row b),(11,.A .row [])] (rvF Mf) (λq=>[(0,.S .row x),(1,.I y),(6,.A .row z),(7,.I a),(11,.A .row q)])
def xw(y:LR)(z:Int)(x:LR)(a:Int):TA (LR×Bool×Unit) LR:=.sn (oI y z x a) (λc=>.sn (rI y z x a c) (λb=>.w [lim (ba .row x) (ba .row b)] (.l (.n (x++b)))))
def sI:=λx y a z=>pcT (xw x y a z) [0,1,0,0,1,0,1,1] [(0,.S .row x),(1,.I y),(6,.A .row a),(7,.I z)] (rvF Mf) (λq=>[(0,.S .row x),(1,.I y),(6,.A .row q),(7,.I z)])
def yw(z:LR)(a:Int)(y:LR)(x:Int):TX (LR×Bool×Unit) (LR×Int) LR:=.c (cmp .lss x 4) (.sn (sI z a y x) (λb=>.l (.n (b,(ar .add .i64 x 1)))))
 (.l (.x y))
def aac:=λx y z a=>pcR (yw x y z a) [0,0,1,0,1,1] (λq=>[(0,.S .row x),(1,.I y),(6,.A .row q.1),(7,.I q.2)]) (z,a) (rvF Mf) (λq=>(0,[(6,.A .row q)]))
def zw:=λx y=>pcL (λs:LR×Int=>aac x y s.1 s.2) ([],0)
def wU(x:LR)(y:Int):TA (LR×Bool×Unit) LR:=.sx (zw x y) (λz=>.l (.n z))
def tI:=λx y=>pcT (wU x y) [0,1,1] [(0,.S .row x),(1,.I y),(6,.A .row [])] (rvF Mf) (λq=>[(6,.A .row q)])
def uI(y:LR)(z:Int):TN (LR×Bool×Unit):=.sn (tI y z) (λx=>.w [Rh x] (.l (.r ((Me x).1,((Me x).2.1,())))))
def Aw(x:LR)(y:Int):LR×Bool×Unit:=ocR (uI x y).val
def Bw(x:LR)(y:Int):Prop:=(uI x y).ob
def wI:Spec:=spF [(.lst .row),(.int .i64)] (.tup [(false,(.lst .row)),(true,.bool)]) Aw Bw
theorem bac(G:Gd Vab):CP 134 wI:=ma (F:=Mf) (fn:=Tryz.f134) G λ_ _=>ia G (λe=>⟨tI (gL .row e 0 0) (gI e 1 0)⟩) λ_=>ia G (λe=>⟨zw (gL .row e 0 0) (gI e 1 0)⟩) λ_=>ra λ_=>ia G (λe=>⟨sI (gL .row e 0 0) (gI e 1 0) (gL .row e 6 0) (gI e 7 0)⟩) λ_=>Yc G [λe=>⟨oI (gL .row e 0 0) (gI e 1 0) (gL .row e 6 0) (gI e 7 0)⟩,λe=>⟨rI (gL .row e 0 0) (gI e 1 0) (gL .row e 6 0) (gI e 7 0) (gL .row e 8 0)⟩] ⟨λ_=>ia G (λe=>⟨pw (gL .row e 0 0) (gI e 1 0) (gL .row e 6 0) (gI e 7 0) (gI e 26 0)⟩) λ_=>ra λ_=>ia G (λe=>⟨nI (gL .row e 0 0) (gI e 1 0) (gL .row e 6 0) (gI e 7 0) (gL .row e 8 0) (gI e 26 0) (gI e 27 0)⟩) λ_=>ka G,λ_=>ia G (λe=>⟨ww (gL .row e 0 0) (gI e 1 0) (gL .row e 6 0) (gI e 7 0) (gL .row e 8 0) (gL .time e 43 0) (gI e 44 0)⟩) λ_=>ra λ_=>ia G (λe=>⟨qI (gL .row e 0 0) (gI e 1 0) (gL .row e 6 0) (gI e 7 0) (gL .row e 8 0) (gL .row e 11 0) (gL .time e 43 0) (gI e 44 0) (gI e 45 0)⟩) λ_=>Yc G [λe=>⟨pI (gL .row e 0 0) (gI e 1 0) (gL .row e 6 0) (gI e 7 0) (gL .row e 8 0) (gL .row e 11 0) (Fd e 13) (gL .item e 14 0) (gL .time e 43 0) (gI e 44 0) (gI e 45 0)⟩,λe=>⟨uw (gL .row e 0 0) (gI e 1 0) (gL .row e 6 0) (gI e 7 0) (gL .row e 8 0) (gL .row e 11 0) (Fd e 13) (gL .time e 43 0) (gI e 44 0) (gI e 45 0) (gL .item e 75 0) (gI e 76 0)⟩] ⟨λ_=>ia G (λe=>⟨sw (gL .row e 0 0) (gI e 1 0) (gL .row e 6 0) (gI e 7 0) (gL .row e 8 0) (gL .row e 11 0) (Fd e 13) (gL .item e 14 0) (gL .time e 43 0) (gI e 44 0) (gI e 45 0) (gL .item e 56 0) (gI e 57 0)⟩) λ_=>ra λ_=>ka G,λ_=>ra λ_=>ka G,trivial⟩,trivial⟩
abbrev Ti:=Plan->List LR->LR×Bool×Unit
abbrev Ui:=Plan->List LR->Prop
def Cw(v:Ti)(p:Ui):Spec:=⟨[(.st .plan),(.lst .lrow)],.tup [(false,(.lst .row)),(true,.bool)],false,λx=>(v x.1 x.2.1,0),λx=>p x.1 x.2.1⟩
def cac(x:Ti)(y:Ui):SP:=[(119,Cw x y),(117,qv),(131,vH),(90,Dv),(89,vk),(132,BH),(133,MH),(134,wI)]
abbrev xI:Fnn:=⟨[.tmp 4,.tmp 5],.tup [(false,(.lst .row)),(true,.bool)],none,[]⟩
def Dw(c:Ti)(d:Ui)(b:List LR)(_ _:Int)(y:LP)(f:Int)(z:List LR)(x:Int):TX (LR×Bool×Unit) ((List LR)×Int) ((List LR)):=.c (cmp .lss x f) (.w [inb x (ba .plan y)] (.k (c (pE (rd .plan y x)) b) λa=>.w [d (pE (rd .plan y x)) b] (.c (!a.2.1) (.l (.r ([],(false,()))))
 (.w [lim (ba .lrow z) (ba .lrow [a.1])] (.l (.n ((z++[a.1]),(ar .add .i64 x 1))))))))
 (.l (.x z))
def dac:=λf g y z a x b c d=>pcR (Dw f g y z a x b c d) [0,0,1,0,1,1] (λq=>[(1,.S .lrow y),(2,bxP z a x),(6,.v (.acc false) (.lst .lrow q.1)),(12,.S .plan x),(13,.I b),(14,.I q.2)]) (c,d) (rvF xI) (λq=>(0,[(1,.S .lrow y),(2,bxP z a x),(6,.v (.acc false) (.lst .lrow q))]))
def Ew:=λx y z a b c d=>pcL (λs:(List LR)×Int=>dac x y z a b c d s.1 s.2) ([],0)
def xU(y:Ti)(z:Ui)(a:List LR)(b c:Int)(x:LP):TA (LR×Bool×Unit) ((List LR)):=.sx (Ew y z a b c x (ba .plan x)) (λd=>.l (.n d))
def yI:=λb c x y z a=>pcT (xU b c x y z a) [0,1,1] [(1,.S .lrow x),(2,bxP y z a),(6,.v .fr (.nl .lrow))] (rvF xI) (λq=>[(1,.S .lrow x),(2,bxP y z a),(6,.v (.acc false) (.lst .lrow q))])
def Ep(g:Ti)(h:Ui)(y:Plan)(z:List LR):TN (LR×Bool×Unit):=.sn (yI g h z y.Kind y.Num y.Kids) (λx=>.c (cmp .eql y.Kind 1) (.w [inb y.Num (ba .lrow z),uk (rd .lrow z y.Num)] (.l (.r ((oh (rd .lrow z y.Num)),(true,())))))
 (.c (cmp .eql y.Kind 2) (.k (Av (rd .lrow x 0) y.Num) λc=>.w [inb 0 (ba .lrow x),Cv (rd .lrow x 0) y.Num] (.l (.r (c.1,(c.2.1,())))))
 (.c (cmp .eql y.Kind 3) (.k (vp (rd .lrow x 0) (rd .lrow x 1)) λa=>.w [inb 0 (ba .lrow x),inb 1 (ba .lrow x),xp (rd .lrow x 0) (rd .lrow x 1),Rh a] (.l (.r ((Me a).1,((Me a).2.1,())))))
 (.c (cmp .eql y.Kind 4) (.k (Gv (rd .lrow x 0)) λb=>.w [inb 0 (ba .lrow x),Hv (rd .lrow x 0),Rh b] (.l (.r ((Me b).1,((Me b).2.1,())))))
 (.c (cmp .eql y.Kind 5) (.k (Mv (rd .lrow x 0) (rd .lrow x 1)) λd=>.w [inb 0 (ba .lrow x),inb 1 (ba .lrow x),Nv (rd .lrow x 0) (rd .lrow x 1)] (.l (.r (d.1,(d.2.1,())))))
 (.k (Aw (rd .lrow x 0) y.Num) λf=>.w [inb 0 (ba .lrow x),Bw (rd .lrow x 0) y.Num] (.l (.r (f.1,(f.2.1,()))))))))))
theorem eac{x:Ti}{y:Ui}(G:Gd (cac x y)):CP 119 (Cw (λz a=>ocR (Ep x y z a).val) (λz a=>(Ep x y z a).ob)):=ma (F:=xI) (fn:=Tryz.f119) G λ_ _=>ia G (λe=>⟨yI x y (gL .lrow e 1 0) (gI e 2 0) (gI e 2 1) (gL .plan e 2 2)⟩) λ_=>ia G (λe=>⟨Ew x y (gL .lrow e 1 0) (gI e 2 0) (gI e 2 1) (gL .plan e 2 2) (gI e 13 0)⟩) λ_=>ra λ_=>ka G
def pe:Nat->Ti×Ui
 |0=>(λ_ _=>default,λ_ _=>False)
 |n+1=>(λx y=>ocR (Ep (pe n).1 (pe n).2 x y).val,λx y=>(Ep (pe n).1 (pe n).2 x y).ob)
def zI:Ti:=(pe Ya).1
def AI:Ui:=(pe Ya).2
def yU:Spec:=Cw zI AI
def fac:SP:=[(29,Tl),(86,rp),(119,yU)]
abbrev F92:Fnn:=⟨[.tmp 4,.tmp 5],.tup [(false,(.lst .row)),(true,.bool)],none,[]⟩
def Fw(y:List LR)(_ _:Int)(_:LP)(z x:Int):TX (LR×Bool×Unit) Int Unit:=.c (cmp .lss x z) (.w [inb x (ba .lrow y)] (.w [Xl (rd .lrow y x)] (.c (!(Wl (rd .lrow y x))) (.l (.r ([],(false,()))))
 (.l (.n (ar .add .i64 x 1))))))
 (.l (.x ()))
def gac:=λx y z a b c=>pcR (Fw x y z a b c) [0,0,1,0,1,1] (λq=>[(1,.S .lrow x),(2,bxP y z a),(16,.S .lrow x),(17,.I b),(18,.I q)]) c (rvF F92) (λ_=>(0,[(1,.S .lrow x),(2,bxP y z a)]))
def Gw:=λx y z a b=>pcL (λs:Int=>gac x y z a b s) 0
def zU(x:List LR)(y z:Int)(a:LP):TA (LR×Bool×Unit) Unit:=.sx (Gw x y z a (ba .lrow x)) (λ_=>.l (.n ()))
def BI:=λx y z a=>pcT (zU x y z a) [0,1,1] [(1,.S .lrow x),(2,bxP y z a)] (rvF F92) (λ_=>[(1,.S .lrow x),(2,bxP y z a)])
def DI(x:Plan)(y:List LR):TN (LR×Bool×Unit):=.w [rk (pE x)] (.c (cond (!(qk (pE x))) true (cmp .neq (ba .lrow y) 2)) (.l (.r ([],(false,()))))
 (.sn (BI y x.Kind x.Num x.Kids) (λ_=>.k (zI (pE x) y) λz=>.w [AI (pE x) y] (.l (.r (z.1,(z.2.1,())))))))
def Fp(x:Plan)(y:List LR):LR×Bool×Unit:=ocR (DI x y).val
def Gp(x:Plan)(y:List LR):Prop:=(DI x y).ob
def Hw:Spec:=spF [(.st .plan),(.lst .lrow)] (.tup [(false,(.lst .row)),(true,.bool)]) Fp Gp
theorem hac(G:Gd fac):CP 92 Hw:=ma (F:=F92) (fn:=Tryz.f92) G λ_ _=>ia G (λe=>⟨BI (gL .lrow e 1 0) (gI e 2 0) (gI e 2 1) (gL .plan e 2 2)⟩) λ_=>ia G (λe=>⟨Gw (gL .lrow e 1 0) (gI e 2 0) (gI e 2 1) (gL .plan e 2 2) (gI e 17 0)⟩) λ_=>ra λ_=>ka G
def iac:SP:=[(116,Qv)]
abbrev F87:Fnn:=⟨[.tmp 4],.one .fr .bool,none,[]⟩
def Iw(z:Time)(y:List Time)(a x:Int):TX Bool Int Unit:=.c (cmp .lss x a) (.w [inb x (ba .time y)] (.w [Pv (rd .time y x) z] (.c (Ov (rd .time y x) z) (.l (.r true))
 (.l (.n (ar .add .i64 x 1))))))
 (.l (.x ()))
def jac:=λx y z a=>pcR (Iw x y z a) [0,0,1,0,1] (λq=>[(3,.B [x.A,x.B]),(7,.S .time y),(8,.I z),(9,.I q)]) a (rvF F87) (λ_=>(0,[]))
def Jw:=λx y z=>pcL (λs:Int=>jac x y z s) 0
def AU(x:List Time)(y:Time):TA Bool Unit:=.sx (Jw y x (ba .time x)) (λ_=>.l (.n ()))
def FI:=λy x=>pcT (AU y x) [0,1] [(0,.S .time y),(3,.B [x.A,x.B])] (rvF F87) (λ_=>[])
def GI(x:List Time)(y:Time):TN Bool:=.sn (FI x y) (λ_=>.l (.r false))
def Vi(x:List Time)(y:Time):Bool:=ocR (GI x y).val
def Wi(x:List Time)(y:Time):Prop:=(GI x y).ob
def cm:Spec:=spF [(.lst .time),(.st .time)] (.one .fr .bool) Vi Wi
theorem kac(G:Gd iac):CP 87 cm:=ma (F:=F87) (fn:=Tryz.f87) G λ_ _=>ia G (λe=>⟨FI (gL .time e 0 0) (Fd e 3)⟩) λ_=>ia G (λe=>⟨Jw (Fd e 3) (gL .time e 7 0) (gI e 8 0)⟩) λ_=>ra λ_=>ka G
def lac:SP:=[(87,cm)]
abbrev F94:Fnn:=⟨[.tmp 4],.one .fr (.lst .row),none,[]⟩
def Kw(a:List Time)(z x:LR)(_ y:Int):TA LR LR:=.w [inb y (ba .row x)] (.w [Wi a (rd .row x y).At] (.c (!(Vi a (rd .row x y).At)) (.w [lim (ba .row z) (ba .row [(rd .row x y)])] (.l (.n (z++[(rd .row x y)]))))
 (.l (.n z))))
def II:=λx b y z a=>pcT (Kw x b y z a) [0,1,1,0,0,1,0,1,1] [(1,.S .time x),(5,.A .row b),(9,.S .row y),(10,.I z),(11,.I a)] (rvF F94) (λq=>[(1,.S .time x),(5,.A .row q),(9,.S .row y),(10,.I z),(11,.I a)])
def Lw(a:List Time)(b:LR)(y:Int)(z:LR)(x:Int):TX LR (LR×Int) LR:=.c (cmp .lss x y) (.sn (II a z b y x) (λc=>.l (.n (c,(ar .add .i64 x 1)))))
 (.l (.x z))
def mac:=λx y z a b=>pcR (Lw x y z a b) [0,0,1,0,1,1] (λq=>[(1,.S .time x),(5,.A .row q.1),(9,.S .row y),(10,.I z),(11,.I q.2)]) (a,b) (rvF F94) (λq=>(0,[(5,.A .row q)]))
def Mw:=λx y z=>pcL (λs:LR×Int=>mac x y z s.1 s.2) ([],0)
def BU(x:LR)(y:List Time):TA LR LR:=.sx (Mw y x (ba .row x)) (λz=>.l (.n z))
def JI:=λx y=>pcT (BU x y) [0,1,1] [(0,.S .row x),(1,.S .time y),(5,.A .row [])] (rvF F94) (λq=>[(5,.A .row q)])
def MI(x:LR)(y:List Time):TN LR:=.sn (JI x y) (λz=>.l (.r z))
def Hp(x:LR)(y:List Time):LR:=ocR (MI x y).val
def Ip(x:LR)(y:List Time):Prop:=(MI x y).ob
def Nw:Spec:=spF [(.lst .row),(.lst .time)] (.one .fr (.lst .row)) Hp Ip
theorem nac(G:Gd lac):CP 94 Nw:=ma (F:=F94) (fn:=Tryz.f94) G λ_ _=>ia G (λe=>⟨JI (gL .row e 0 0) (gL .time e 1 0)⟩) λ_=>ia G (λe=>⟨Mw (gL .time e 1 0) (gL .row e 9 0) (gI e 10 0)⟩) λ_=>ra λ_=>ia G (λe=>⟨II (gL .time e 1 0) (gL .row e 5 0) (gL .row e 9 0) (gI e 10 0) (gI e 11 0)⟩) λ_=>ka G
def oac:SP:=[]
abbrev PI:Fnn:=⟨[.tmp 4],.one .fr .bool,none,[]⟩
def Jp(y z:LR)(a x:Int):TX Bool Int Unit:=.c (cmp .lss x a) (.w [inb x (ba .row y),inb x (ba .row z)] (.c (!(cmp .eql (rd .row y x).Key (rd .row z x).Key&&(cmp .eql (rd .row y x).Val (rd .row z x).Val&&(cmp .eql (rd .row y x).At.A (rd .row z x).At.A&&(cmp .eql (rd .row y x).At.B (rd .row z x).At.B&&(cmp .eql (rd .row y x).Diff (rd .row z x).Diff&&true)))))) (.l (.r false))
 (.l (.n (ar .add .i64 x 1)))))
 (.l (.x ()))
def pac:=λx y z a=>pcR (Jp x y z a) [0,0,1,0,1,1] (λq=>[(0,.S .row x),(1,.S .row y),(12,.I z),(13,.I q)]) a (rvF PI) (λ_=>(0,[]))
def Kp:=λx y z=>pcL (λs:Int=>pac x y z s) 0
def QI(x y:LR):TA Bool Unit:=.sx (Kp x y (ba .row x)) (λ_=>.l (.n ()))
def Mp:=λx y=>pcT (QI x y) [0,1,1] [(0,.S .row x),(1,.S .row y)] (rvF PI) (λ_=>[])
def Np(x y:LR):TN Bool:=.c (cmp .neq (ba .row x) (ba .row y)) (.l (.r false))
 (.sn (Mp x y) (λ_=>.l (.r true)))
def dm(x:LR)(y:LR):Bool:=ocR (Np x y).val
def em(x:LR)(y:LR):Prop:=(Np x y).ob
def RI:Spec:=spF [(.lst .row),(.lst .row)] (.one .fr .bool) dm em
theorem qac(G:Gd oac):CP 113 RI:=ma (F:=PI) (fn:=Tryz.f113) G λ_ _=>ia G (λe=>⟨Mp (gL .row e 0 0) (gL .row e 1 0)⟩) λ_=>ia G (λe=>⟨Kp (gL .row e 0 0) (gL .row e 1 0) (gI e 12 0)⟩) λ_=>ra λ_=>ka G
def rac:SP:=[(91,gv),(92,Hw),(94,Nw),(113,RI)]
abbrev F85:Fnn:=⟨[.tmp 2],.one .fr .bool,none,[]⟩
def SI(x:Sess):TN Bool:=.w [gp x.Front] (.c (!(fp x.Front)) (.l (.r false))
 (.k (Fp (pE x.Plan) x.Ins) λy=>.w [Gp (pE x.Plan) x.Ins] (.k (Hp y.1 x.Front) λz=>.w [(y.2.1&&true)=true->(Ip y.1 x.Front),(y.2.1&&true)=true->(em x.Told z)] (.l (.r (cond y.2.1 (dm x.Told z) false))))))
def Th(x:Sess):Bool:=ocR (SI x).val
def Uh(x:Sess):Prop:=(SI x).ob
def Pp:Spec:=spF [(.st .sess)] (.one .fr .bool) Th Uh
theorem sac(G:Gd rac):CP 85 Pp:=ma (F:=F85) (fn:=Tryz.f85) G λ_ _=>ka G
def tac:SP:=[]
abbrev F93:Fnn:=⟨[.tmp 2],.one (.acc false) (.lst .time),none,[2]⟩
def VI(x:List Time):TN (List Time):=.w [ni (ba .time x) (ba .time x)] (.l (.r (List.take (abm (aaV (aav (ba .time x)) (aaq 0 0))) x++aaY (abm x) (aaV (aav (ba .time x)) (aaq 0 0)))))
def Vh(x:List Time):List Time:=ocR (VI x).val
def fm(x:List Time):Prop:=(VI x).ob
def Ow:Spec:=spF [(.lst .time)] (.one (.acc false) (.lst .time)) Vh fm
theorem uac(G:Gd tac):CP 93 Ow:=ma (F:=F93) (fn:=Tryz.f93) G λ_ _=>ka G
def WI:SP:=[(30,CG),(93,Ow),(117,qv)]
abbrev F88:Fnn:=⟨[.cell 2 45],.one .sh (.st .sess),none,[]⟩
abbrev vac:=@OkP Tryz.f88 F88
def Qp(_ _:Int)(_:LP)(_:List Time)(_:LR)(y:List LR)(b:Int)(z:List LR)(x:Int):TX Sess ((List LR)×Int) ((List LR)):=.c (cmp .lss x b) (.w [inb x (ba .lrow y)] (.k (oh (rd .lrow y x)) λa=>.w [uk (rd .lrow y x),lim (ba .lrow z) (ba .lrow [a])] (.l (.n ((z++[a]),(ar .add .i64 x 1))))))
 (.l (.x z))
def CU:=λx y z a b c d f g=>pcR (Qp x y z a b c d f g) [0,0,1,0,1,1] (λq=>[(2,bx0),(3,.box [(.fr,.i x),(.fr,.i y),(.sh,.lst .plan z),((.acc false),.lst .lrow q.1),(.sh,.lst .time a),(.sh,.lst .row b)]),(17,.S .lrow c),(18,.I d),(19,.I q.2)]) (f,g) (rvF F88) (λq=>(0,[(2,bx0),(3,.box [(.fr,.i x),(.fr,.i y),(.sh,.lst .plan z),((.acc false),.lst .lrow q),(.sh,.lst .time a),(.sh,.lst .row b)])]))
def Rp:=λx y z a b c d=>pcL (λs:(List LR)×Int=>CU x y z a b c d s.1 s.2) ([],0)
def Pw(_ _:Int)(_:LP)(x:List LR)(_:List Time)(_:LR)(y z:Int)(a:LP)(b:List Time)(c:LR):TA Sess ((List LR)):=.sx (Rp y z a b c x (ba .lrow x)) (λd=>.l (.n d))
def Sp:=λc d f g h i x y z a b=>pcT (Pw c d f g h i x y z a b) [0,1,1] [(1,bxS c d f g h i),(2,bx0),(3,.box [(.fr,.i x),(.fr,.i y),(.sh,.lst .plan z),(.sh,.nl .lrow),(.sh,.lst .time a),(.sh,.lst .row b)])] (rvF F88) (λq=>[(2,bx0),(3,.box [(.fr,.i x),(.fr,.i y),(.sh,.lst .plan z),((.acc false),.lst .lrow q),(.sh,.lst .time a),(.sh,.lst .row b)])])
theorem DU(G:Gd WI){fr x y z a b c d f g h i}:vac fr (Sp x y z a b c d f g h i):=ia G (λe=>⟨Rp (gI e 3 0) (gI e 3 1) (gL .plan e 3 2) (gL .time e 3 4) (gL .row e 3 5) (gL .lrow e 17 0) (gI e 18 0)⟩) λ_=>ra λ_=>ka G
def Tp(x:Sess):TN Sess:=.k (Ee (pE x.Plan)) λy=>.k (Vh x.Front) λz=>.k (oh x.Told) λa=>.w [To (pE x.Plan),fm x.Front,uk x.Told] (.sn (Sp x.Plan.Kind x.Plan.Num x.Plan.Kids x.Ins x.Front x.Told y.Kind y.Num y.Kids z a) (λb=>.l (.r (aan (pE y) b z a))))
def Rd(x:Sess):Sess:=ocR (Tp x).val
def ph(x:Sess):Prop:=(Tp x).ob
def Qw:Spec:=spF [(.st .sess)] (.one .sh (.st .sess)) Rd ph
theorem wac(G:Gd WI):CP 88 Qw:=ma (F:=F88) (fn:=Tryz.f88) G λ_ _=>ia G (λe=>⟨Sp (gI e 1 0) (gI e 1 1) (gL .plan e 1 2) (gL .lrow e 1 3) (gL .time e 1 4) (gL .row e 1 5) (gI e 3 0) (gI e 3 1) (gL .plan e 3 2) (gL .time e 3 4) (gL .row e 3 5)⟩) λ_=>DU G
def XI:SP:=[(85,Pp),(86,rp),(87,cm),(88,Qw),(90,Dv),(89,vk)]
abbrev F57:Fnn:=⟨[.cell 6 45,.tmp 7],.tup [(false,(.st .sess)),(true,.bool)],none,[]⟩
abbrev EU:=@OkP Tryz.f57 F57
def Sw(_:Int)(y:LR)(_ _:Int)(_:LP)(_:List LR)(z:List Time)(_:LR)(a x:Int):TX (Sess×Bool×Unit) Int Unit:=.c (cmp .lss x a) (.w [inb x (ba .row y)] (.w [Wi z (rd .row y x).At] (.c (!(Vi z (rd .row y x).At)) (.l (.r ((aan (aal 0 0 []) [] [] []),(false,()))))
 (.l (.n (ar .add .i64 x 1))))))
 (.l (.x ()))
def xac:=λy x z a b c d f g h=>pcR (Sw y x z a b c d f g h) [0,0,1,0,1,1] (λq=>[(1,.I y),(2,.S .row x),(3,bxS z a b c d f),(6,bx0),(30,.S .row x),(31,.I g),(32,.I q)]) h (rvF F57) (λ_=>(0,[(1,.I y),(2,.S .row x),(3,bxS z a b c d f),(6,bx0)]))
def Tw:=λx y z a b c d f g=>pcL (λs:Int=>xac x y z a b c d f g s) 0
def FU(y:Int)(x:LR)(z a:Int)(b:LP)(c:List LR)(d:List Time)(f:LR):TA (Sess×Bool×Unit) Unit:=.sx (Tw y x z a b c d f (ba .row x)) (λ_=>.l (.n ()))
def YI:=λx y z a b c d f=>pcT (FU x y z a b c d f) [0,1,1] [(1,.I x),(2,.S .row y),(3,bxS z a b c d f),(6,bx0)] (rvF F57) (λ_=>[(1,.I x),(2,.S .row y),(3,bxS z a b c d f),(6,bx0)])
def ZI(_:Int)(_:LR)(x y:Int)(z:LP)(a:List LR)(b:List Time)(c:LR):TA (Sess×Bool×Unit) (Int×Int×LP×(List LR)×(List Time)×LR):=.w [ph (aan (aal x y z) a b c)] (.l (.n ((Rd (aan (aal x y z) a b c)).Plan.Kind,(Rd (aan (aal x y z) a b c)).Plan.Num,(Rd (aan (aal x y z) a b c)).Plan.Kids,(Rd (aan (aal x y z) a b c)).Ins,(Rd (aan (aal x y z) a b c)).Front,(Rd (aan (aal x y z) a b c)).Told)))
def Uw:=λx y z a b c d f=>pcT (ZI x y z a b c d f) [0,1,1,1] [(1,.I x),(2,.S .row y),(3,bxS z a b c d f),(6,bx0)] (rvF F57) (λq=>[(1,.I x),(2,.S .row y),(3,bxS z a b c d f),(6,bx0),(10,.box [(.fr,.i q.1),(.fr,.i q.2.1),(.sh,.lst .plan q.2.2.1),((.acc false),.lst .lrow q.2.2.2.1),(.sh,.lst .time q.2.2.2.2.1),(.sh,.lst .row q.2.2.2.2.2)])])
theorem yac(G:GdB XI 88 Rd ph){fr f g x z a b c d}:EU fr (Uw f g x z a b c d):=HQ G.g G.b 45 3 44 45 10 [(1,.same),(2,.same),(3,.same),(6,.same),(10,.same)] (ZI f g x z a b c d) (y:=aan (aal x z a) b c d)
def aJ(x _ _:Int)(_:LP)(y:List LR)(_:List Time)(_ z:LR):TA (Sess×Bool×Unit) ((List LR)):=.w [inb x (ba .lrow y)] (.l (.n (List.set y (aav x) z)))
def Vw:=λc x y z d a b f=>pcT (aJ c x y z d a b f) [0,1,1,1,1,1,1] [(1,.I c),(6,bx0),(10,.box [(.fr,.i x),(.fr,.i y),(.sh,.lst .plan z),((.acc false),.lst .lrow d),(.sh,.lst .time a),(.sh,.lst .row b)]),(11,.S .row f)] (rvF F57) (λq=>[(6,bx0),(10,.box [(.fr,.i x),(.fr,.i y),(.sh,.lst .plan z),((.acc false),.lst .lrow q),(.sh,.lst .time a),(.sh,.lst .row b)])])
theorem zac(G:GdB XI 88 Rd ph){fr h x a b c d f g}:EU fr (Vw h x a b c d f g):=IQ G.g 45 41 43 10 1 11 60 61 62 63 64 [(0,3),(3,1),(4,1),(5,1)] 1 [(6,.same),(10,.same)] (aJ h x a b c d f g) (y:=aan (aal x a b) c d f) (kr:=.sh) (z:=g)
def bJ(y:Sess)(z:Int)(a:LR):TN (Sess×Bool×Unit):=.k (Th (sE y)) λd=>.w [Uh (sE y),((!(cond (cond (!d) true (cmp .lss z 0)) true (cmp .geq z 2)))&&true)=true->(Xl a)] (.c (cond (cond (cond (!d) true (cmp .lss z 0)) true (cmp .geq z 2)) true (!(Wl a))) (.l (.r ((aan (aal 0 0 []) [] [] []),(false,()))))
 (.sn (YI z a y.Plan.Kind y.Plan.Num y.Plan.Kids y.Ins y.Front y.Told) (λ_=>.sn (Uw z a y.Plan.Kind y.Plan.Num y.Plan.Kids y.Ins y.Front y.Told) (λx=>.k (vp (rd .lrow y.Ins z) a) λb=>.w [inb z (ba .lrow y.Ins),xp (rd .lrow y.Ins z) a,Rh b] (.c (!(Me b).2.1) (.l (.r ((aan (aal 0 0 []) [] [] []),(false,()))))
 (.sn (Vw z x.1 x.2.1 x.2.2.1 x.2.2.2.1 x.2.2.2.2.1 x.2.2.2.2.2 (Me b).1) (λc=>.w [Uh (aan (aal x.1 x.2.1 x.2.2.1) c x.2.2.2.2.1 x.2.2.2.2.2)] (.c (!(Th (aan (aal x.1 x.2.1 x.2.2.1) c x.2.2.2.2.1 x.2.2.2.2.2))) (.l (.r ((aan (aal 0 0 []) [] [] []),(false,()))))
 (.l (.r ((aan (aal x.1 x.2.1 x.2.2.1) c x.2.2.2.2.1 x.2.2.2.2.2),(true,()))))))))))))
def Ww(x:Sess)(y:Int)(z:LR):Sess×Bool×Unit:=ocR (bJ x y z).val
def Xw(x:Sess)(y:Int)(z:LR):Prop:=(bJ x y z).ob
def cJ:Spec:=spF [(.st .sess),(.int .i64),(.lst .row)] (.tup [(false,(.st .sess)),(true,.bool)]) Ww Xw
theorem Aac(G:GdB XI 88 Rd ph):CP 57 cJ:=ma (F:=F57) (fn:=Tryz.f57) G.g λ_ _=>Yc G.g [λe=>⟨YI (gI e 1 0) (gL .row e 2 0) (gI e 3 0) (gI e 3 1) (gL .plan e 3 2) (gL .lrow e 3 3) (gL .time e 3 4) (gL .row e 3 5)⟩,λe=>⟨Uw (gI e 1 0) (gL .row e 2 0) (gI e 3 0) (gI e 3 1) (gL .plan e 3 2) (gL .lrow e 3 3) (gL .time e 3 4) (gL .row e 3 5)⟩,λe=>⟨Vw (gI e 1 0) (gI e 10 0) (gI e 10 1) (gL .plan e 10 2) (gL .lrow e 10 3) (gL .time e 10 4) (gL .row e 10 5) (gL .row e 11 0)⟩] ⟨λ_=>ia G.g (λe=>⟨Tw (gI e 1 0) (gL .row e 2 0) (gI e 3 0) (gI e 3 1) (gL .plan e 3 2) (gL .lrow e 3 3) (gL .time e 3 4) (gL .row e 3 5) (gI e 31 0)⟩) λ_=>ra λ_=>ka G.g,λ_=>yac G,λ_=>zac G,trivial⟩
def GU:SP:=[(57,cJ)]
abbrev F35:Fnn:=⟨[.cell 4 45,.tmp 5],.tup [(false,(.st .sess)),(true,.str)],none,[]⟩
abbrev Bac:=@OkP Tryz.f35 F35
def dJ(x:LB)(y z:Int)(a:LP)(b:List LR)(c:List Time)(d:LR):TA (Sess×BA×Unit) (Int×Int×LP×(List LR)×(List Time)×LR×Bool):=.w [inb 0 (ba .int x),inb 1 (ba .int x),inb 2 (ba .int x),inb 3 (ba .int x),inb 4 (ba .int x),inb 5 (ba .int x),Xw (aan (aal y z a) b c d) (rd .int x 0) [(aar (rd .int x 1) (rd .int x 2) (aaq (rd .int x 3) (rd .int x 4)) (rd .int x 5))]] (.l (.n ((λv=>(v.1.Plan.Kind,v.1.Plan.Num,v.1.Plan.Kids,v.1.Ins,v.1.Front,v.1.Told,v.2.1)) (Ww (aan (aal y z a) b c d) (rd .int x 0) [(aar (rd .int x 1) (rd .int x 2) (aaq (rd .int x 3) (rd .int x 4)) (rd .int x 5))]))))
def Yw:=λd x y z a b c=>pcT (dJ d x y z a b c) [0,1] [(1,.S .int d),(2,bxS x y z a b c),(4,bx0)] (rvF F35) (λq=>[(2,bxS x y z a b c),(4,bx0),(6,bxS q.1 q.2.1 q.2.2.1 q.2.2.2.1 q.2.2.2.2.1 q.2.2.2.2.2.1),(7,.O q.2.2.2.2.2.2)])
theorem Cac(G:Gd GU){fr x y z a b c d}:Bac fr (Yw x y z a b c d):=pure_ok G [2,4,6,7] 27 25 (dJ x y z a b c d)
def fJ(x:Sess)(z:LB):TN (Sess×BA×Unit):=.sn (Yw z x.Plan.Kind x.Plan.Num x.Plan.Kids x.Ins x.Front x.Told) (λy=>.c (!y.2.2.2.2.2.2) (.l (.r ((sE x),((bs [110,111]),()))))
 (.l (.r ((aan (aal y.1 y.2.1 y.2.2.1) y.2.2.2.1 y.2.2.2.2.1 y.2.2.2.2.2.1),((bs [105,110]),())))))
def Zw(x:Sess)(y:LB):Sess×BA×Unit:=ocR (fJ x y).val
def Up(x:Sess)(y:LB):Prop:=(fJ x y).ob
def gJ:Spec:=spF [(.st .sess),(.lst .int)] (.tup [(false,(.st .sess)),(true,.str)]) Zw Up
theorem Dac(G:Gd GU):CP 35 gJ:=ma (F:=F35) (fn:=Tryz.f35) G λ_ _=>ia G (λe=>⟨Yw (gL .int e 1 0) (gI e 2 0) (gI e 2 1) (gL .plan e 2 2) (gL .lrow e 2 3) (gL .time e 2 4) (gL .row e 2 5)⟩) λ_=>Cac G
def Eac:SP:=[(85,Pp),(91,gv),(87,cm),(92,Hw),(88,Qw),(93,Ow),(94,Nw)]
abbrev F58:Fnn:=⟨[.cell 4 45,.tmp 5,.tmp 6],.tup [(false,(.st .sess)),(false,(.lst .row)),(true,.bool)],none,[]⟩
def ax(y:List Time)(_ _:Int)(_:LP)(_:List LR)(z:List Time)(_:LR)(a x:Int):TX (Sess×LR×Bool×Unit) Int Unit:=.c (cmp .lss x a) (.w [inb x (ba .time y)] (.w [Wi z (rd .time y x)] (.c (!(Vi z (rd .time y x))) (.l (.r ((aan (aal 0 0 []) [] [] []),([],(false,())))))
 (.l (.n (ar .add .i64 x 1))))))
 (.l (.x ()))
def Fac:=λx y z a b c d f g=>pcR (ax x y z a b c d f g) [0,0,1,0,1,1] (λq=>[(1,.S .time x),(2,bxS y z a b c d),(4,bx0),(24,.S .time x),(25,.I f),(26,.I q)]) g (rvF F58) (λ_=>(0,[(1,.S .time x),(2,bxS y z a b c d),(4,bx0)]))
def cx:=λx y z a b c d f=>pcL (λs:Int=>Fac x y z a b c d f s) 0
def IU(x:List Time)(y z:Int)(a:LP)(b:List LR)(c:List Time)(d:LR):TA (Sess×LR×Bool×Unit) Unit:=.sx (cx x y z a b c d (ba .time x)) (λ_=>.l (.n ()))
def iJ:=λx y z a b c d=>pcT (IU x y z a b c d) [0,1,1] [(1,.S .time x),(2,bxS y z a b c d),(4,bx0)] (rvF F58) (λ_=>[(1,.S .time x),(2,bxS y z a b c d),(4,bx0)])
def dx(_ _:Int)(_:LP)(_:List LR)(a:List Time)(_:LR)(_ _:Int)(_:LP)(_:List LR)(_:List Time)(x z:LR)(_ y:Int):TA (Sess×LR×Bool×Unit) LR:=.w [inb y (ba .row x)] (.w [Wi a (rd .row x y).At] (.c (Vi a (rd .row x y).At) (.w [lim (ba .row z) (ba .row [(rd .row x y)])] (.l (.n (z++[(rd .row x y)]))))
 (.l (.n z))))
def jJ:=λy z a b c d f g h i j x m k l=>pcT (dx y z a b c d f g h i j x m k l) [0,1,1,0,0,1,0,1,1,1,1,1,1,1,1] [(2,bxS y z a b c d),(4,bx0),(11,.box [(.fr,.i f),(.fr,.i g),(.sh,.lst .plan h),(.sh,.lst .lrow i),((.acc false),.lst .time j),(.fr,.lst .row x)]),(12,.A .row m),(56,.v .fr (.lst .row x)),(57,.I k),(58,.I l)] (rvF F58) (λq=>[(2,bxS y z a b c d),(4,bx0),(11,.box [(.fr,.i f),(.fr,.i g),(.sh,.lst .plan h),(.sh,.lst .lrow i),((.acc false),.lst .time j),(.fr,.lst .row x)]),(12,.A .row q),(56,.v .fr (.lst .row x)),(57,.I k),(58,.I l)])
def fx(a b:Int)(c:LP)(d:List LR)(f:List Time)(g:LR)(h i:Int)(j:LP)(k:List LR)(l:List Time)(m:LR)(y:Int)(z:LR)(x:Int):TX (Sess×LR×Bool×Unit) (LR×Int) LR:=.c (cmp .lss x y) (.sn (jJ a b c d f g h i j k l m z y x) (λn=>.l (.n (n,(ar .add .i64 x 1)))))
 (.l (.x z))
def Gac:=λd f g h i j y z a b c x k l m=>pcR (fx d f g h i j y z a b c x k l m) [0,0,1,0,1,1,1,1,1,1,1,1] (λq=>[(2,bxS d f g h i j),(4,bx0),(11,.box [(.fr,.i y),(.fr,.i z),(.sh,.lst .plan a),(.sh,.lst .lrow b),((.acc false),.lst .time c),(.fr,.lst .row x)]),(12,.A .row q.1),(56,.v .fr (.lst .row x)),(57,.I k),(58,.I q.2)]) (l,m) (rvF F58) (λq=>(2,[(4,bx0),(11,.box [(.fr,.i y),(.fr,.i z),(.sh,.lst .plan a),(.sh,.lst .lrow b),((.acc false),.lst .time c),(.fr,.lst .row x)]),(12,.A .row q)]))
def jx:=λx y z a b c d f g h i j k=>pcL (λs:LR×Int=>Gac x y z a b c d f g h i j k s.1 s.2) ([],0)
def JU(y z:Int)(a:LP)(b:List LR)(c:List Time)(d:LR)(f g:Int)(h:LP)(i:List LR)(j:List Time)(x:LR):TA (Sess×LR×Bool×Unit) LR:=.sx (jx y z a b c d f g h i j x (ba .row x)) (λk=>.l (.n k))
def kJ:=λd f g h i j x y z a b c=>pcT (JU d f g h i j x y z a b c) [0,1,1,1,1,1,1,1,1] [(2,bxS d f g h i j),(4,bx0),(11,.box [(.fr,.i x),(.fr,.i y),(.sh,.lst .plan z),(.sh,.lst .lrow a),((.acc false),.lst .time b),(.fr,.lst .row c)]),(12,.A .row [])] (rvF F58) (λq=>[(4,bx0),(11,.box [(.fr,.i x),(.fr,.i y),(.sh,.lst .plan z),(.sh,.lst .lrow a),((.acc false),.lst .time b),(.fr,.lst .row c)]),(12,.A .row q)])
def lJ(x:Sess)(y:List Time):TN (Sess×LR×Bool×Unit):=.k (Th (sE x)) λa=>.w [Uh (sE x),((!(!a))&&true)=true->(gp y)] (.c (cond (!a) true (!(fp y))) (.l (.r ((aan (aal 0 0 []) [] [] []),([],(false,())))))
 (.sn (iJ y x.Plan.Kind x.Plan.Num x.Plan.Kids x.Ins x.Front x.Told) (λ_=>.k (Fp (pE x.Plan) x.Ins) λb=>.w [Gp (pE x.Plan) x.Ins] (.k (Rd (sE x)) λz=>.w [ph (sE x)] (.k (Vh y) λc=>.w [fm y] (.k (Hp b.1 y) λd=>.w [Ip b.1 y] (.sn (kJ x.Plan.Kind x.Plan.Num x.Plan.Kids x.Ins x.Front x.Told z.Plan.Kind z.Plan.Num z.Plan.Kids z.Ins c d) (λf=>.l (.r ((aan (pE z.Plan) z.Ins c d),(f,(true,()))))))))))))
def nx(x:Sess)(y:List Time):Sess×LR×Bool×Unit:=ocR (lJ x y).val
def qx(x:Sess)(y:List Time):Prop:=(lJ x y).ob
def mJ:Spec:=spF [(.st .sess),(.lst .time)] (.tup [(false,(.st .sess)),(false,(.lst .row)),(true,.bool)]) nx qx
theorem Hac(G:Gd Eac):CP 58 mJ:=ma (F:=F58) (fn:=Tryz.f58) G λ_ _=>Yc G [λe=>⟨iJ (gL .time e 1 0) (gI e 2 0) (gI e 2 1) (gL .plan e 2 2) (gL .lrow e 2 3) (gL .time e 2 4) (gL .row e 2 5)⟩,λe=>⟨kJ (gI e 2 0) (gI e 2 1) (gL .plan e 2 2) (gL .lrow e 2 3) (gL .time e 2 4) (gL .row e 2 5) (gI e 11 0) (gI e 11 1) (gL .plan e 11 2) (gL .lrow e 11 3) (gL .time e 11 4) (gL .row e 11 5)⟩] ⟨λ_=>ia G (λe=>⟨cx (gL .time e 1 0) (gI e 2 0) (gI e 2 1) (gL .plan e 2 2) (gL .lrow e 2 3) (gL .time e 2 4) (gL .row e 2 5) (gI e 25 0)⟩) λ_=>ra λ_=>ka G,λ_=>ia G (λe=>⟨jx (gI e 2 0) (gI e 2 1) (gL .plan e 2 2) (gL .lrow e 2 3) (gL .time e 2 4) (gL .row e 2 5) (gI e 11 0) (gI e 11 1) (gL .plan e 11 2) (gL .lrow e 11 3) (gL .time e 11 4) (gL .row e 11 5) (gI e 57 0)⟩) λ_=>ra λ_=>ia G (λe=>⟨jJ (gI e 2 0) (gI e 2 1) (gL .plan e 2 2) (gL .lrow e 2 3) (gL .time e 2 4) (gL .row e 2 5) (gI e 11 0) (gI e 11 1) (gL .plan e 11 2) (gL .lrow e 11 3) (gL .time e 11 4) (gL .row e 11 5) (gL .row e 12 0) (gI e 57 0) (gI e 58 0)⟩) λ_=>ka G,trivial⟩
def Iac:SP:=[(58,mJ),(59,sB)]
abbrev F36:Fnn:=⟨[.cell 4 45,.tmp 5],.tup [(false,(.st .sess)),(true,.str)],none,[]⟩
def rx(y:LB)(_ _:Int)(_:LP)(_:List LR)(_:List Time)(_:LR)(z:List Time)(x:Int):TX (Sess×BA×Unit) ((List Time)×Int) ((List Time)):=.c (cmp .lss x (ba .int y)) (.w [inb x (ba .int y),inb (ar .add .i64 x 1) (ba .int y),lim (ba .time z) (ba .time [(aaq (rd .int y x) (rd .int y (ar .add .i64 x 1)))])] (.l (.n ((z++[(aaq (rd .int y x) (rd .int y (ar .add .i64 x 1)))]),(ar .add .i64 x 2)))))
 (.l (.x z))
def Jac:=λd x y z a b c f g=>pcR (rx d x y z a b c f g) [0,0,1,0,1,1] (λq=>[(1,.S .int d),(2,bxS x y z a b c),(4,bx0),(6,.A .time q.1),(7,.I q.2)]) (f,g) (rvF F36) (λq=>(0,[(2,bxS x y z a b c),(4,bx0),(6,.A .time q)]))
def tx:=λx y z a b c d=>pcL (λs:(List Time)×Int=>Jac x y z a b c d s.1 s.2) ([],0)
def LU(x:LB)(y z:Int)(a:LP)(b:List LR)(c:List Time)(d:LR):TA (Sess×BA×Unit) ((List Time)):=.sx (tx x y z a b c d) (λf=>.l (.n f))
def nJ:=λd x y z a b c=>pcT (LU d x y z a b c) [0,1,1] [(1,.S .int d),(2,bxS x y z a b c),(4,bx0),(6,.A .time [])] (rvF F36) (λq=>[(2,bxS x y z a b c),(4,bx0),(6,.A .time q)])
def ux(_ _:Int)(_:LP)(_:List LR)(_:List Time)(_:LR)(_:BA)(y:LR)(g:Int)(d:BA)(x:Int):TX (Sess×BA×Unit) (BA×Int) BA:=.c (cmp .lss x g) (.w [inb x (ba .row y)] (.k (Fe (rd .row y x).Key) λz=>.k (Fe (rd .row y x).Val) λa=>.k (Fe (rd .row y x).At.A) λb=>.k (Fe (rd .row y x).At.B) λc=>.k (Fe (rd .row y x).Diff) λf=>.w [tf (rd .row y x).Key,lim (fa (bs [32])) (fa z),lim (fa ((bs [32])++z)) (fa (bs [58])),tf (rd .row y x).Val,lim (fa (((bs [32])++z)++(bs [58]))) (fa a),lim (fa ((((bs [32])++z)++(bs [58]))++a)) (fa (bs [64])),tf (rd .row y x).At.A,lim (fa (((((bs [32])++z)++(bs [58]))++a)++(bs [64]))) (fa b),lim (fa ((((((bs [32])++z)++(bs [58]))++a)++(bs [64]))++b)) (fa (bs [44])),tf (rd .row y x).At.B,lim (fa (((((((bs [32])++z)++(bs [58]))++a)++(bs [64]))++b)++(bs [44]))) (fa c),lim (fa ((((((((bs [32])++z)++(bs [58]))++a)++(bs [64]))++b)++(bs [44]))++c)) (fa (bs [61])),tf (rd .row y x).Diff,lim (fa (((((((((bs [32])++z)++(bs [58]))++a)++(bs [64]))++b)++(bs [44]))++c)++(bs [61]))) (fa f),lim (fa d) (fa ((((((((((bs [32])++z)++(bs [58]))++a)++(bs [64]))++b)++(bs [44]))++c)++(bs [61]))++f))] (.l (.n ((d++((((((((((bs [32])++z)++(bs [58]))++a)++(bs [64]))++b)++(bs [44]))++c)++(bs [61]))++f)),(ar .add .i64 x 1))))))
 (.l (.x d))
def Kac:=λx y z a b c i d f g h=>pcR (ux x y z a b c i d f g h) [0,0,1,0,1,1,1,1,1,1] (λq=>[(4,bx0),(8,bxS x y z a b c),(11,.v .fr (.str q.1)),(44,.S .row d),(45,.I f),(46,.I q.2)]) (g,h) (rvF F36) (λq=>(2,[(4,bx0),(8,bxS x y z a b c),(11,.v .fr (.str q))]))
def yx:=λy z a b c d x f g=>pcL (λs:BA×Int=>Kac y z a b c d x f g s.1 s.2) (x,0)
def MU(y z:Int)(a:LP)(b:List LR)(c:List Time)(d x:LR)(f:BA):TA (Sess×BA×Unit) BA:=.sx (yx y z a b c d f x (ba .row x)) (λg=>.l (.n g))
def oJ:=λx y z a b c d f=>pcT (MU x y z a b c d f) [0,1,1,1,1,1,1] [(4,bx0),(8,bxS x y z a b c),(9,.S .row d),(11,.v .fr (.str f))] (rvF F36) (λq=>[(4,bx0),(8,bxS x y z a b c),(11,.v .fr (.str q))])
def pJ(x:Sess)(a:LB):TN (Sess×BA×Unit):=.sn (nJ a x.Plan.Kind x.Plan.Num x.Plan.Kids x.Ins x.Front x.Told) (λz=>.k (nx (sE x) z) λy=>.w [qx (sE x) z] (.c (!y.2.2.1) (.l (.r ((sE x),((bs [110,111]),()))))
 (.sn (oJ y.1.Plan.Kind y.1.Plan.Num y.1.Plan.Kids y.1.Ins y.1.Front y.1.Told y.2.1 (bs [116,111,108,100])) (λb=>.l (.r ((sE y.1),(b,())))))))
def zx(x:Sess)(y:LB):Sess×BA×Unit:=ocR (pJ x y).val
def Vp(x:Sess)(y:LB):Prop:=(pJ x y).ob
def qJ:Spec:=spF [(.st .sess),(.lst .int)] (.tup [(false,(.st .sess)),(true,.str)]) zx Vp
theorem Lac(G:Gd Iac):CP 36 qJ:=ma (F:=F36) (fn:=Tryz.f36) G λ_ _=>Yc G [λe=>⟨nJ (gL .int e 1 0) (gI e 2 0) (gI e 2 1) (gL .plan e 2 2) (gL .lrow e 2 3) (gL .time e 2 4) (gL .row e 2 5)⟩,λe=>⟨oJ (gI e 8 0) (gI e 8 1) (gL .plan e 8 2) (gL .lrow e 8 3) (gL .time e 8 4) (gL .row e 8 5) (gL .row e 9 0) (gS e 11 0)⟩] ⟨λ_=>ia G (λe=>⟨tx (gL .int e 1 0) (gI e 2 0) (gI e 2 1) (gL .plan e 2 2) (gL .lrow e 2 3) (gL .time e 2 4) (gL .row e 2 5)⟩) λ_=>ra λ_=>ka G,λ_=>ia G (λe=>⟨yx (gI e 8 0) (gI e 8 1) (gL .plan e 8 2) (gL .lrow e 8 3) (gL .time e 8 4) (gL .row e 8 5) (gS e 11 0) (gL .row e 44 0) (gI e 45 0)⟩) λ_=>ra λ_=>ka G,trivial⟩
def Mac:SP:=[(85,Pp),(96,tk),(87,cm),(97,Tv)]
abbrev F60:Fnn:=⟨[.tmp 4,.tmp 5],.tup [(false,(.lst .item)),(true,.bool)],none,[]⟩
def rJ(y:Sess)(x:Time):TN (LI×Bool×Unit):=.k (Th (sE y)) λz=>.w [Uh (sE y),((!(!z))&&true)=true->(Qh x),((!(cond (!z) true (!(Eg x))))&&true)=true->(Wi y.Front x)] (.c (cond (cond (!z) true (!(Eg x))) true (Vi y.Front x)) (.l (.r ([],(false,()))))
 (.w [am y.Told x] (.l (.r ((Zl y.Told x),(true,()))))))
def Ax(x:Sess)(y:Time):LI×Bool×Unit:=ocR (rJ x y).val
def Bx(x:Sess)(y:Time):Prop:=(rJ x y).ob
def sJ:Spec:=spF [(.st .sess),(.st .time)] (.tup [(false,(.lst .item)),(true,.bool)]) Ax Bx
theorem Nac(G:Gd Mac):CP 60 sJ:=ma (F:=F60) (fn:=Tryz.f60) G λ_ _=>ka G
def Oac:SP:=[(60,sJ),(59,sB)]
abbrev F37:Fnn:=⟨[.cell 4 45,.tmp 5],.tup [(false,(.st .sess)),(true,.str)],none,[]⟩
def Cx(_ _:Int)(_:LP)(_:List LR)(_:List Time)(_:LR)(_:BA)(y:LI)(d:Int)(b:BA)(x:Int):TX (Sess×BA×Unit) (BA×Int) BA:=.c (cmp .lss x d) (.w [inb x (ba .item y)] (.k (Fe (rd .item y x).Key) λz=>.k (Fe (rd .item y x).Val) λa=>.k (Fe (rd .item y x).Count) λc=>.w [tf (rd .item y x).Key,lim (fa (bs [32])) (fa z),lim (fa ((bs [32])++z)) (fa (bs [58])),tf (rd .item y x).Val,lim (fa (((bs [32])++z)++(bs [58]))) (fa a),lim (fa ((((bs [32])++z)++(bs [58]))++a)) (fa (bs [61])),tf (rd .item y x).Count,lim (fa (((((bs [32])++z)++(bs [58]))++a)++(bs [61]))) (fa c),lim (fa b) (fa ((((((bs [32])++z)++(bs [58]))++a)++(bs [61]))++c))] (.l (.n ((b++((((((bs [32])++z)++(bs [58]))++a)++(bs [61]))++c)),(ar .add .i64 x 1))))))
 (.l (.x b))
def Pac:=λx y z a b c i d f g h=>pcR (Cx x y z a b c i d f g h) [0,0,1,0,1,1,1,1] (λq=>[(2,bxS x y z a b c),(4,bx0),(8,.v .fr (.str q.1)),(26,.S .item d),(27,.I f),(28,.I q.2)]) (g,h) (rvF F37) (λq=>(0,[(2,bxS x y z a b c),(4,bx0),(8,.v .fr (.str q))]))
def Dx:=λy z a b c d x f g=>pcL (λs:BA×Int=>Pac y z a b c d x f g s.1 s.2) (x,0)
def NU(y z:Int)(a:LP)(b:List LR)(c:List Time)(d:LR)(x:LI)(f:BA):TA (Sess×BA×Unit) BA:=.sx (Dx y z a b c d f x (ba .item x)) (λg=>.l (.n g))
def tJ:=λx y z a b c d f=>pcT (NU x y z a b c d f) [0,1,1,1,1] [(2,bxS x y z a b c),(4,bx0),(6,.S .item d),(8,.v .fr (.str f))] (rvF F37) (λq=>[(2,bxS x y z a b c),(4,bx0),(8,.v .fr (.str q))])
def uJ(x:Sess)(y:LB):TN (Sess×BA×Unit):=.k (Ax (sE x) (aaq (rd .int y 0) (rd .int y 1))) λz=>.w [inb 0 (ba .int y),inb 1 (ba .int y),Bx (sE x) (aaq (rd .int y 0) (rd .int y 1))] (.c (!z.2.1) (.l (.r ((sE x),((bs [110,111]),()))))
 (.sn (tJ x.Plan.Kind x.Plan.Num x.Plan.Kids x.Ins x.Front x.Told z.1 (bs [116,104,101,114,101])) (λa=>.l (.r ((sE x),(a,()))))))
def Ex(x:Sess)(y:LB):Sess×BA×Unit:=ocR (uJ x y).val
def Wp(x:Sess)(y:LB):Prop:=(uJ x y).ob
def vJ:Spec:=spF [(.st .sess),(.lst .int)] (.tup [(false,(.st .sess)),(true,.str)]) Ex Wp
theorem Qac(G:Gd Oac):CP 37 vJ:=ma (F:=F37) (fn:=Tryz.f37) G λ_ _=>ia G (λe=>⟨tJ (gI e 2 0) (gI e 2 1) (gL .plan e 2 2) (gL .lrow e 2 3) (gL .time e 2 4) (gL .row e 2 5) (gL .item e 6 0) (gS e 8 0)⟩) λ_=>ia G (λe=>⟨Dx (gI e 2 0) (gI e 2 1) (gL .plan e 2 2) (gL .lrow e 2 3) (gL .time e 2 4) (gL .row e 2 5) (gS e 8 0) (gL .item e 26 0) (gI e 27 0)⟩) λ_=>ra λ_=>ka G
def Rac:SP:=[(32,CX),(33,WG),(20,tB),(34,ZG),(35,gJ),(36,qJ),(37,vJ)]
abbrev F21:Fnn:=⟨[.cell 4 45,.tmp 5],.tup [(false,(.st .sess)),(true,.str)],none,[]⟩
def Gx(b c:Int)(d:LP)(f:List LR)(g:List Time)(h:LR)(_ y:List BA)(i:Int)(z:LB)(x:Int):TX (Sess×BA×Unit) (LB×Int) LB:=.c (cmp .lss x i) (.w [inb x (ba .str y)] (.k (cp (rd .str y x)) λa=>.w [dp (rd .str y x)] (.c (!a.2.1) (.l (.r ((aan (aal b c d) f g h),((bs [110,111]),()))))
 (.w [lim (ba .int z) (ba .int [a.1])] (.l (.n ((z++[a.1]),(ar .add .i64 x 1))))))))
 (.l (.x z))
def Sac:=λx y z a b c d f g h i=>pcR (Gx x y z a b c d f g h i) [0,0,1,0,1,1,1,1] (λq=>[(2,bxS x y z a b c),(4,bx0),(8,.v .fr (.lst .str d)),(9,.A .int q.1),(33,.v .fr (.lst .str f)),(34,.I g),(35,.I q.2)]) (h,i) (rvF F21) (λq=>(0,[(2,bxS x y z a b c),(4,bx0),(8,.v .fr (.lst .str d)),(9,.A .int q)]))
def Hx:=λx y z a b c d f g=>pcL (λs:LB×Int=>Sac x y z a b c d f g s.1 s.2) ([],0)
def PU(y z:Int)(a:LP)(b:List LR)(c:List Time)(d:LR)(x:List BA):TA (Sess×BA×Unit) LB:=.w [le3 1 (ba .str x) (ba .str x)] (.sx (Hx y z a b c d x (aaY (aav 1) x) (ba .str (aaY (aav 1) x))) (λf=>.l (.n f)))
def xJ:=λx y z a b c d=>pcT (PU x y z a b c d) [0,1,1,1,1] [(2,bxS x y z a b c),(4,bx0),(8,.v .fr (.lst .str d)),(9,.A .int [])] (rvF F21) (λq=>[(2,bxS x y z a b c),(4,bx0),(8,.v .fr (.lst .str d)),(9,.A .int q)])
def yJ(x:Sess)(a:BA):TN (Sess×BA×Unit):=.k (Jk a (bs [112,108,97,110,32])) λb=>.w [ir a (bs [112,108,97,110,32])] (.c (cond b.2.1 (!(seq b.1 aam)) false) (.k (Yu (sE x) b.1) λc=>.w [Zu (sE x) b.1] (.l (.r ((sE c.1),(c.2.1,())))))
 (.k (se a (bs [32])) λz=>.w [Em a (bs [32])] (.sn (xJ x.Plan.Kind x.Plan.Num x.Plan.Kids x.Ins x.Front x.Told z) (λy=>.w [inb 0 (ba .str z)] (.c (cond (seq (rd .str z 0) (bs [105,110])) (cmp .eql (ba .int y) 6) false) (.k (Zw (sE x) y) λd=>.w [Up (sE x) y] (.l (.r ((sE d.1),(d.2.1,())))))
 (.w [inb 0 (ba .str z),((seq (rd .str z 0) (bs [111,110]))&&true)=true->(2:Int)≠0] (.c (cond (seq (rd .str z 0) (bs [111,110])) (cmp .eql (ar .rem .i64 (ba .int y) 2) 0) false) (.k (zx (sE x) y) λf=>.w [Vp (sE x) y] (.l (.r ((sE f.1),(f.2.1,())))))
 (.w [inb 0 (ba .str z)] (.c (cond (seq (rd .str z 0) (bs [97,116])) (cmp .eql (ba .int y) 2) false) (.k (Ex (sE x) y) λg=>.w [Wp (sE x) y] (.l (.r ((sE g.1),(g.2.1,())))))
 (.l (.r ((sE x),((bs [119,104,97,116]),())))))))))))))
def sc(x:Sess)(y:BA):Sess×BA×Unit:=ocR (yJ x y).val
def Xi(x:Sess)(y:BA):Prop:=(yJ x y).ob
def zJ:Spec:=spF [(.st .sess),.str] (.tup [(false,(.st .sess)),(true,.str)]) sc Xi
theorem Tac(G:Gd Rac):CP 21 zJ:=ma (F:=F21) (fn:=Tryz.f21) G λ_ _=>ia G (λe=>⟨xJ (gI e 2 0) (gI e 2 1) (gL .plan e 2 2) (gL .lrow e 2 3) (gL .time e 2 4) (gL .row e 2 5) (gL .str e 8 0)⟩) λ_=>ia G (λe=>⟨Hx (gI e 2 0) (gI e 2 1) (gL .plan e 2 2) (gL .lrow e 2 3) (gL .time e 2 4) (gL .row e 2 5) (gL .str e 8 0) (gL .str e 33 0) (gI e 34 0)⟩) λ_=>ra λ_=>ka G
def Pc(s:Sess×BA)(l:BA):Sess×BA:=cond (seq l aam) s ((sc (sE s.1) l).1,s.2++((sc (sE s.1) l).2.1++bs [10]))
def Xp:Sess->List BA->Prop
 |_,[]=>True
 |s,l::r=>(seq l aam=false->Xi (sE s) l/\lim (fa (sc (sE s) l).2.1) (fa (bs [10])))/\Xp (Pc (s,aam) l).1 r
def xk(x:BA):BA:=cond (cmp .gtr (fa x) 2000) (bs [116,111,111,32,108,111,110,103,10]) ((se x (bs [10])).foldl Pc ((nh (aal 1 0 [])).1,aam)).2
def Ix(x:BA):Prop:=cmp .gtr (fa x) 2000=false->Ul (aal 1 0 [])/\Em x (bs [10])/\(se x (bs [10])).length<=1000000/\Xp (nh (aal 1 0 [])).1 (se x (bs [10]))/\((se x (bs [10])).foldl Pc ((nh (aal 1 0 [])).1,aam)).2.size<=1099511627776
def AJ:Spec:=spF [.str] (.one .fr .str) xk Ix
abbrev V39:=Plan->Plan
abbrev Q39:=Plan->Prop
def Jx(v:V39)(p:Q39):Spec:=⟨[(.st .plan)],.one .fr (.st .plan),false,λx=>(v x.1,0),λx=>p x.1⟩
def Uac(x:V39)(y:Q39):SP:=[(39,Jx x y)]
abbrev F39:Fnn:=⟨[.cell 2 36],.one .fr (.st .plan),none,[]⟩
def Kx(b:V39)(c:Q39)(_ _:Int)(y z:LP)(x:Int):TX Plan (LP×Int) LP:=.c (cmp .lss x (ba .plan y)) (.k (b (pE (rd .plan y x))) λa=>.w [inb x (ba .plan y),c (pE (rd .plan y x)),lim (ba .plan z) (ba .plan [(pE a)])] (.l (.n ((z++[(pE a)]),(ar .add .i64 x 1)))))
 (.l (.x z))
def Vac:=λc d x y z a b=>pcR (Kx c d x y z a b) [0,0,1,0,1,1] (λq=>[(1,bxP x y z),(2,bp0),(3,.box [(.fr,.i x),(.fr,.i y),((.acc true),.lst .plan q.1)]),(4,.I q.2)]) (a,b) (rvF F39) (λq=>(0,[(2,bp0),(3,.box [(.fr,.i x),(.fr,.i y),((.acc true),.lst .plan q)])]))
def Lx:=λx y z a b=>pcL (λs:LP×Int=>Vac x y z a b s.1 s.2) ([],0)
def QU(x:V39)(y:Q39)(z a:Int)(b:LP):TA Plan LP:=.sx (Lx x y z a b) (λc=>.l (.n c))
def BJ:=λa b x y z=>pcT (QU a b x y z) [0,1,1] [(1,bxP x y z),(2,bp0),(3,.box [(.fr,.i x),(.fr,.i y),(.fr,.nl .plan)])] (rvF F39) (λq=>[(2,bp0),(3,.box [(.fr,.i x),(.fr,.i y),((.acc true),.lst .plan q)])])
def Yp(y:V39)(z:Q39)(x:Plan):TN Plan:=.sn (BJ y z x.Kind x.Num x.Kids) (λa=>.l (.r (aal x.Kind x.Num a)))
theorem Wac{x:V39}{y:Q39}(G:Gd (Uac x y)):CP 39 (Jx (λz=>ocR (Yp x y z).val) (λz=>(Yp x y z).ob)):=ma (F:=F39) (fn:=Tryz.f39) G λ_ _=>ia G (λe=>⟨BJ x y (gI e 1 0) (gI e 1 1) (gL .plan e 1 2)⟩) λ_=>ia G (λe=>⟨Lx x y (gI e 1 0) (gI e 1 1) (gL .plan e 1 2)⟩) λ_=>ra λ_=>ka G
def qe:Nat->V39×Q39
 |0=>(λ_=>default,λ_=>False)
 |n+1=>(λx=>ocR (Yp (qe n).1 (qe n).2 x).val,λx=>(Yp (qe n).1 (qe n).2 x).ob)
def Oe:V39:=(qe Ya).1
def Mx:Q39:=(qe Ya).2
def CJ:Spec:=Jx Oe Mx
def Xac:SP:=[(27,Lo),(39,CJ)]
abbrev F24:Fnn:=⟨[.cell 2 45,.tmp 3],.tup [(false,(.st .sess)),(true,.bool)],none,[]⟩
def DJ(x:Plan):TN (Sess×Bool×Unit):=.w [Rl (pE x)] (.c (!(Ql (pE x))) (.l (.r ((aan (aal 0 0 []) [] [] []),(false,()))))
 (.w [Mx (pE x)] (.l (.r ((aan (pE (Oe (pE x))) [[],[]] [(aaq 0 0)] []),(true,()))))))
def Zp(x:Plan):Sess×Bool×Unit:=ocR (DJ x).val
def aq(x:Plan):Prop:=(DJ x).ob
def Nx:Spec:=spF [(.st .plan)] (.tup [(false,(.st .sess)),(true,.bool)]) Zp aq
theorem Yac(G:Gd Xac):CP 24 Nx:=ma (F:=F24) (fn:=Tryz.f24) G λ_ _=>ka G
def Zac:SP:=[]
abbrev F25:Fnn:=⟨[.tmp 4],.one (.acc true) (.lst .str),none,[]⟩
def RU(y:BA)(b:Int)(a:List BA)(z x:Int):TA (List BA) ((List BA)×Int):=.w [inb x (fa y)] (.c (cmp .eql (Tc y x) b) (.w [le3 z x (fa y),lim (ba .str a) (ba .str [(Jc y z x)])] (.l (.n ((a++[(Jc y z x)]),(ar .add .i64 x 1)))))
 (.l (.n (a,z))))
def FJ:=λx y a b z=>pcT (RU x y a b z) [0,1,0,0,1,0,1,1,1] [(0,.v .fr (.str x)),(1,.v .fr (.int .u8 y)),(5,.A .str a),(6,.I b),(7,.I z)] (rvF F25) (λq=>[(0,.v .fr (.str x)),(1,.v .fr (.int .u8 y)),(5,.A .str q.1),(6,.I q.2),(7,.I z)])
def Ox(y:BA)(c:Int)(z:List BA)(a x:Int):TX (List BA) ((List BA)×Int×Int) ((List BA)×Int):=.c (cmp .lss x (fa y)) (.sn (FJ y c z a x) (λb=>.l (.n (b.1,b.2,(ar .add .i64 x 1)))))
 (.l (.x (z,a)))
def aad:=λx y z a b=>pcR (Ox x y z a b) [0,0,1,0,1,1,1] (λq=>[(0,.v .fr (.str x)),(1,.v .fr (.int .u8 y)),(5,.A .str q.1),(6,.I q.2.1),(7,.I q.2.2)]) (z,a,b) (rvF F25) (λq=>(0,[(0,.v .fr (.str x)),(5,.A .str q.1),(6,.I q.2)]))
def Px:=λx y=>pcL (λs:(List BA)×Int×Int=>aad x y s.1 s.2.1 s.2.2) ([],0,0)
def SU(y:BA)(z:Int):TA (List BA) ((List BA)×Int):=.sx (Px y z) (λx=>.l (.n (x.1,x.2)))
def GJ:=λx y=>pcT (SU x y) [0,1,1,1] [(0,.v .fr (.str x)),(1,.v .fr (.int .u8 y)),(5,.A .str []),(6,.I 0)] (rvF F25) (λq=>[(0,.v .fr (.str x)),(5,.A .str q.1),(6,.I q.2)])
def HJ(x:BA)(z:Int):TN (List BA):=.sn (GJ x z) (λy=>.w [le3 y.2 (fa x) (fa x),lim (ba .str y.1) (ba .str [(Jc x y.2 (fa x))])] (.l (.r (y.1++[(Jc x y.2 (fa x))]))))
def Wh(x:BA)(y:Int):List BA:=ocR (HJ x y).val
def Xh(x:BA)(y:Int):Prop:=(HJ x y).ob
def bq:Spec:=spF [.str,(.int .u8)] (.one (.acc true) (.lst .str)) Wh Xh
theorem cad(G:Gd Zac):CP 25 bq:=ma (F:=F25) (fn:=Tryz.f25) G λ_ _=>ia G (λe=>⟨GJ (gS e 0 0) (gI e 1 0)⟩) λ_=>ia G (λe=>⟨Px (gS e 0 0) (gI e 1 0)⟩) λ_=>ra λ_=>ia G (λe=>⟨FJ (gS e 0 0) (gI e 1 0) (gL .str e 5 0) (gI e 6 0) (gI e 7 0)⟩) λ_=>ka G
def dad:SP:=[(17,Sl)]
abbrev F63:Fnn:=⟨[.tmp 2,.tmp 3],.tup [(true,(.int .i64)),(true,.bool)],none,[]⟩
def Qx(x:BA):TA (Int×Bool×Unit) Int:=.w [((cmp .gtr (fa x) 1)&&true)=true->inb 0 (fa x)] (.c (cond (cmp .gtr (fa x) 1) (cmp .eql (Tc x 0) 45) false) (.l (.n 1))
 (.l (.n 0)))
def Rx:=λx=>pcT (Qx x) [0,1,1,1] [(0,.v .fr (.str x)),(4,.I 0),(5,.I 0)] (rvF F63) (λq=>[(0,.v .fr (.str x)),(4,.I 0),(5,.I q)])
def Sx(y:BA)(_ z x:Int):TX (Int×Bool×Unit) (Int×Int) Int:=.c (cmp .lss x (fa y)) (.w [inb x (fa y),((!(cmp .lss (Tc y x) 48))&&true)=true->inb x (fa y)] (.c (cond (cmp .lss (Tc y x) 48) true (cmp .gtr (Tc y x) 57)) (.l (.r (0,(false,()))))
 (.w [inb x (fa y)] (.l (.n ((ar .add .i64 (ar .mul .i64 z 10) (aao .i64 (ar .sub .u8 (Tc y x) 48))),(ar .add .i64 x 1)))))))
 (.l (.x z))
def ead:=λx y z a=>pcR (Sx x y z a) [0,0,1,0,1,1,1,1,1] (λq=>[(0,.v .fr (.str x)),(4,.I q.1),(5,.I y),(6,.I q.2)]) (z,a) (rvF F63) (λq=>(0,[(0,.v .fr (.str x)),(4,.I q),(5,.I y)]))
def Tx:=λy x=>pcL (λs:Int×Int=>ead y x s.1 s.2) (0,x)
def UU(x:BA)(y:Int):TA (Int×Bool×Unit) Int:=.sx (Tx x y) (λz=>.l (.n z))
def IJ:=λx y=>pcT (UU x y) [0,1,1,1,1,1] [(0,.v .fr (.str x)),(4,.I 0),(5,.I y)] (rvF F63) (λq=>[(0,.v .fr (.str x)),(4,.I q),(5,.I y)])
def Ux(_:BA)(x y:Int):TA (Int×Bool×Unit) Int:=.c (cmp .gtr y 0) (.l (.n (aao .i64 (0 - x))))
 (.l (.n x))
def JJ:=λx y z=>pcT (Ux x y z) [0,1,1,1,1,1,1] [(0,.v .fr (.str x)),(4,.I y),(5,.I z)] (rvF F63) (λq=>[(0,.v .fr (.str x)),(4,.I q)])
def Vx(x:BA):TN (Int×Bool×Unit):=.sn (Rx x) (λy=>.c (cond (cmp .lss (fa x) 1) true (cmp .gtr (fa x) (ar .add .i64 y 2))) (.l (.r (0,(false,()))))
 (.sn (IJ x y) (λa=>.sn (JJ x a y) (λz=>.w [Ld z] (.l (.r (z,((seq (xd z) x),()))))))))
def gm(x:BA):Int×Bool×Unit:=ocR (Vx x).val
def im(x:BA):Prop:=(Vx x).ob
def Wx:Spec:=spF [.str] (.tup [(true,(.int .i64)),(true,.bool)]) gm im
theorem fad(G:Gd dad):CP 63 Wx:=ma (F:=F63) (fn:=Tryz.f63) G λ_ _=>Yc G [λe=>⟨Rx (gS e 0 0)⟩,λe=>⟨IJ (gS e 0 0) (gI e 5 0)⟩,λe=>⟨JJ (gS e 0 0) (gI e 4 0) (gI e 5 0)⟩] ⟨λ_=>ka G,λ_=>ia G (λe=>⟨Tx (gS e 0 0) (gI e 5 0)⟩) λ_=>ra λ_=>ka G,λ_=>ka G,trivial⟩
abbrev V62:=List BA->Int->Plan×(List BA)×Unit
abbrev Q62:=List BA->Int->Prop
def Xx(v:V62)(p:Q62):Spec:=⟨[(.lst .str),(.int .i64)],.tup [(false,(.st .plan)),(false,(.lst .str))],false,λx=>(v x.1 x.2.1,0),λx=>p x.1 x.2.1⟩
def gad(x:V62)(y:Q62):SP:=[(63,Wx),(49,Ko),(62,Xx x y)]
abbrev F62:Fnn:=⟨[.cell 4 36,.tmp 5],.tup [(false,(.st .plan)),(false,(.lst .str))],none,[]⟩
def dq(_:V62)(_:Q62)(x:List BA)(_ b a:Int)(z:List BA)(y:Int):TA (Plan×(List BA)×Unit) (Int×Int):=.w [inb y (ba .str z)] (.w [inb 0 (ba .str x),((cmp .geq (fa (rd .str x 0)) (fa (rd .str z y)))&&true)=true->inb 0 (ba .str x),((cmp .geq (fa (rd .str x 0)) (fa (rd .str z y)))&&true)=true->le3 0 (fa (rd .str z y)) (fa (rd .str x 0))] (.c (cond (cmp .geq (fa (rd .str x 0)) (fa (rd .str z y))) (seq (Jc (rd .str x 0) 0 (fa (rd .str z y))) (rd .str z y)) false) (.w [inb 0 (ba .str x)] (.c (cmp .gtr (fa (rd .str x 0)) (fa (rd .str z y))) (.w [inb 0 (ba .str x),le3 (fa (rd .str z y)) (fa (rd .str x 0)) (fa (rd .str x 0)),im (Jc (rd .str x 0) (fa (rd .str z y)) (fa (rd .str x 0)))] (.l (.n (y,(gm (Jc (rd .str x 0) (fa (rd .str z y)) (fa (rd .str x 0)))).1))))
 (.l (.n (y,a)))))
 (.l (.n (b,a)))))
def LJ:=λd f x y b c z a=>pcT (dq d f x y b c z a) [0,1,0,0,1,0,1,1,1,1] [(0,.S .str x),(1,.I y),(4,bp0),(6,.box [(.fr,.i b),(.fr,.i c),(.fr,.nl .plan)]),(7,.A .str z),(8,.I a)] (rvF F62) (λq=>[(0,.S .str x),(1,.I y),(4,bp0),(6,.box [(.fr,.i q.1),(.fr,.i q.2),(.fr,.nl .plan)]),(7,.A .str z),(8,.I a)])
def jm(b:V62)(c:Q62)(d:List BA)(f:Int)(g:List BA)(y z x:Int):TX (Plan×(List BA)×Unit) (Int×Int×Int) (Int×Int):=.c (cmp .leq x 6) (.sn (LJ b c d f y z g x) (λa=>.l (.n (a.1,a.2,(ar .add .i64 x 1)))))
 (.l (.x (y,z)))
def iad:=λd f x y z a b c=>pcR (jm d f x y z a b c) [0,0,1,0,1,1,1,1] (λq=>[(0,.S .str x),(1,.I y),(4,bp0),(6,.box [(.fr,.i q.1),(.fr,.i q.2.1),(.fr,.nl .plan)]),(7,.A .str z),(8,.I q.2.2)]) (a,b,c) (rvF F62) (λq=>(0,[(0,.S .str x),(1,.I y),(4,bp0),(6,.box [(.fr,.i q.1),(.fr,.i q.2),(.fr,.nl .plan)])]))
def Yx:=λx y z a b=>pcL (λs:Int×Int×Int=>iad x y z a b s.1 s.2.1 s.2.2) (0,0,1)
def VU(y:V62)(z:Q62)(a:List BA)(b:Int)(c:List BA):TA (Plan×(List BA)×Unit) (Int×Int):=.sx (Yx y z a b c) (λx=>.l (.n (x.1,x.2)))
def MJ:=λa b x y z=>pcT (VU a b x y z) [0,1,1,1,1] [(0,.S .str x),(1,.I y),(4,bp0),(6,bp0),(7,.A .str z)] (rvF F62) (λq=>[(0,.S .str x),(1,.I y),(4,bp0),(6,.box [(.fr,.i q.1),(.fr,.i q.2),(.fr,.nl .plan)])])
def yk(c:V62)(d:Q62)(a _ _ f:Int)(_:List BA)(x:LP)(y:List BA)(b:Int):TX (Plan×(List BA)×Unit) (LP×(List BA)×Int) (LP×(List BA)):=.c (cmp .lss b f) (.k (c y (ar .sub .i64 a 1)) λz=>.w [d y (ar .sub .i64 a 1)] (.w [lim (ba .plan x) (ba .plan [(pE z.1)])] (.l (.n ((x++[(pE z.1)]),z.2.1,(ar .add .i64 b 1))))))
 (.l (.x (x,y)))
def jad:=λf g z x y a h b c d=>pcR (yk f g z x y a h b c d) [0,0,1,0,1,1,1,1,1,1,1] (λq=>[(1,.I z),(4,bp0),(6,.box [(.fr,.i x),(.fr,.i y),((.acc false),.lst .plan q.1)]),(10,.I a),(13,.S .str q.2.1),(14,.I q.2.2)]) (b,c,d) (rvF F62) (λq=>(2,[(4,bp0),(6,.box [(.fr,.i x),(.fr,.i y),((.acc false),.lst .plan q.1)]),(13,.S .str q.2)]))
def Zx:=λy z a b c d x=>pcL (λs:LP×(List BA)×Int=>jad y z a b c d x s.1 s.2.1 s.2.2) ([],x,0)
def WU(y:V62)(z:Q62)(a b c d:Int)(f:List BA):TA (Plan×(List BA)×Unit) (LP×(List BA)):=.sx (Zx y z a b c d f) (λx=>.l (.n (x.1,x.2)))
def NJ:=λc d z x y a b=>pcT (WU c d z x y a b) [0,1,1,1,1,1,1,1] [(1,.I z),(4,bp0),(6,.box [(.fr,.i x),(.fr,.i y),(.fr,.nl .plan)]),(10,.I a),(13,.S .str b)] (rvF F62) (λq=>[(4,bp0),(6,.box [(.fr,.i x),(.fr,.i y),((.acc false),.lst .plan q.1)]),(13,.S .str q.2)])
def zk(a:V62)(b:Q62)(x:List BA)(z:Int):TN (Plan×(List BA)×Unit):=.c (cond (cmp .eql (ba .str x) 0) true (cmp .lss z 1)) (.l (.r ((aal 0 0 []),(x,()))))
 (.sn (MJ a b x z [aam,(bs [105,110]),(bs [101,97,99,104]),(bs [98,111,116,104]),(bs [108,101,115,115]),(bs [106,111,105,110]),(bs [115,117,109])]) (λy=>.w [Ol y.1] (.w [le3 1 (ba .str x) (ba .str x)] (.sn (NJ a b z y.1 y.2 (Oh y.1).1 (aaY (aav 1) x)) (λc=>.l (.r ((aal y.1 y.2 c.1),(c.2,()))))))))
theorem kad{x:V62}{y:Q62}(G:Gd (gad x y)):CP 62 (Xx (λz a=>ocR (zk x y z a).val) (λz a=>(zk x y z a).ob)):=ma (F:=F62) (fn:=Tryz.f62) G λ_ _=>Yc G [λe=>⟨MJ x y (gL .str e 0 0) (gI e 1 0) (gL .str e 7 0)⟩,λe=>⟨NJ x y (gI e 1 0) (gI e 6 0) (gI e 6 1) (gI e 10 0) (gL .str e 13 0)⟩] ⟨λ_=>ia G (λe=>⟨Yx x y (gL .str e 0 0) (gI e 1 0) (gL .str e 7 0)⟩) λ_=>ra λ_=>ia G (λe=>⟨LJ x y (gL .str e 0 0) (gI e 1 0) (gI e 6 0) (gI e 6 1) (gL .str e 7 0) (gI e 8 0)⟩) λ_=>ka G,λ_=>ia G (λe=>⟨Zx x y (gI e 1 0) (gI e 6 0) (gI e 6 1) (gI e 10 0) (gL .str e 13 0)⟩) λ_=>ra λ_=>ka G,trivial⟩
def xb:Nat->V62×Q62
 |0=>(λ_ _=>default,λ_ _=>False)
 |n+1=>(λx y=>ocR (zk (xb n).1 (xb n).2 x y).val,λx y=>(zk (xb n).1 (xb n).2 x y).ob)
def ay:V62:=(xb Ya).1
def PJ:Q62:=(xb Ya).2
def XU:Spec:=Xx ay PJ
def lad:SP:=[(25,bq),(62,XU),(15,su)]
abbrev F40:Fnn:=⟨[.cell 2 36,.tmp 3],.tup [(false,(.st .plan)),(true,.bool)],none,[]⟩
def cy(x:BA):TN (Plan×Bool×Unit):=.c (cmp .gtr (fa x) 2000) (.l (.r ((aal 0 0 []),(false,()))))
 (.k (Wh x 32) λz=>.k (ay z 4) λy=>.w [Xh x 32,PJ z 4] (.w [((!(seq x aam))&&true)=true->(Po (pE y.1))] (.c (cond (seq x aam) true (!(seq (Oo (pE y.1)) x))) (.l (.r ((aal 0 0 []),(false,()))))
 (.l (.r ((pE y.1),(true,())))))))
def fq(x:BA):Plan×Bool×Unit:=ocR (cy x).val
def gq(x:BA):Prop:=(cy x).ob
def QJ:Spec:=spF [.str] (.tup [(false,(.st .plan)),(true,.bool)]) fq gq
theorem mad(G:Gd lad):CP 40 QJ:=ma (F:=F40) (fn:=Tryz.f40) G λ_ _=>ka G
def nad:SP:=[(63,Wx)]
abbrev F41:Fnn:=⟨[.tmp 2,.tmp 3],.tup [(false,(.lst .int)),(true,.bool)],none,[]⟩
def dy(y:List BA)(z:LB)(x:Int):TX (LB×Bool×Unit) (LB×Int) LB:=.c (cmp .lss x (ba .str y)) (.k (gm (rd .str y x)) λa=>.w [inb x (ba .str y),im (rd .str y x)] (.c (!a.2.1) (.l (.r ([],(false,()))))
 (.w [lim (ba .int z) (ba .int [a.1])] (.l (.n ((z++[a.1]),(ar .add .i64 x 1)))))))
 (.l (.x z))
def oad:=λx y z=>pcR (dy x y z) [0,0,1,0,1,1] (λq=>[(0,.S .str x),(4,.A .int q.1),(5,.I q.2)]) (y,z) (rvF F41) (λq=>(0,[(4,.A .int q)]))
def ey:=λx=>pcL (λs:LB×Int=>oad x s.1 s.2) ([],1)
def YU(x:List BA):TA (LB×Bool×Unit) LB:=.sx (ey x) (λy=>.l (.n y))
def RJ:=λx=>pcT (YU x) [0,1,1] [(0,.S .str x),(4,.A .int [])] (rvF F41) (λq=>[(4,.A .int q)])
def SJ(x:List BA):TN (LB×Bool×Unit):=.sn (RJ x) (λy=>.l (.r (y,(true,()))))
def fy(x:List BA):LB×Bool×Unit:=ocR (SJ x).val
def iy(x:List BA):Prop:=(SJ x).ob
def TJ:Spec:=spF [(.lst .str)] (.tup [(false,(.lst .int)),(true,.bool)]) fy iy
theorem pad(G:Gd nad):CP 41 TJ:=ma (F:=F41) (fn:=Tryz.f41) G λ_ _=>ia G (λe=>⟨RJ (gL .str e 0 0)⟩) λ_=>ia G (λe=>⟨ey (gL .str e 0 0)⟩) λ_=>ra λ_=>ka G
def qad:SP:=[(65,Pl)]
abbrev F74:Fnn:=⟨[.tmp 2],.one .fr .bool,none,[]⟩
def ZU(x:Time):TN Bool:=.k (je x.A 0 7) λy=>.w [mh x.A 0 7,(y&&true)=true->(mh x.B 0 7)] (.l (.r (cond y (je x.B 0 7) false)))
def re(x:Time):Bool:=ocR (ZU x).val
def qh(x:Time):Prop:=(ZU x).ob
def Yi:Spec:=spF [(.st .time)] (.one .fr .bool) re qh
theorem rad(G:Gd qad):CP 74 Yi:=ma (F:=F74) (fn:=Tryz.f74) G λ_ _=>ka G
def sad:SP:=[(74,Yi)]
abbrev F70:Fnn:=⟨[.tmp 2],.one .fr .bool,none,[]⟩
def iq(y:List Time)(x:Int):TX Bool Int Unit:=.c (cmp .lss x (ba .time y)) (.k (re (rd .time y x)) λz=>.w [inb x (ba .time y),qh (rd .time y x),((cmp .gtr x 0)&&((!(!z))&&true))=true->inb (ar .sub .i64 x 1) (ba .time y),((cmp .gtr x 0)&&((!(!z))&&true))=true->inb x (ba .time y),((!(cmp .geq (rd .time y (ar .sub .i64 x 1)).A (rd .time y x).A))&&((cmp .gtr x 0)&&((!(!z))&&true)))=true->inb (ar .sub .i64 x 1) (ba .time y),((!(cmp .geq (rd .time y (ar .sub .i64 x 1)).A (rd .time y x).A))&&((cmp .gtr x 0)&&((!(!z))&&true)))=true->inb x (ba .time y)] (.c (cond (!z) true (cond (cmp .gtr x 0) (cond (cmp .geq (rd .time y (ar .sub .i64 x 1)).A (rd .time y x).A) true (cmp .leq (rd .time y (ar .sub .i64 x 1)).B (rd .time y x).B)) false)) (.l (.r false))
 (.l (.n (ar .add .i64 x 1)))))
 (.l (.x ()))
def tad:=λx y=>pcR (iq x y) [0,0,1,0,1] (λq=>[(0,.S .time x),(3,.I q)]) y (rvF F70) (λ_=>(0,[]))
def jy:=λx=>pcL (λs:Int=>tad x s) 0
def aV(x:List Time):TA Bool Unit:=.sx (jy x) (λ_=>.l (.n ()))
def VJ:=λx=>pcT (aV x) [0,1] [(0,.S .time x)] (rvF F70) (λ_=>[])
def WJ(x:List Time):TN Bool:=.sn (VJ x) (λ_=>.l (.r true))
def lm(x:List Time):Bool:=ocR (WJ x).val
def mm(x:List Time):Prop:=(WJ x).ob
def jq:Spec:=spF [(.lst .time)] (.one .fr .bool) lm mm
theorem uad(G:Gd sad):CP 70 jq:=ma (F:=F70) (fn:=Tryz.f70) G λ_ _=>ia G (λe=>⟨VJ (gL .time e 0 0)⟩) λ_=>ia G (λe=>⟨jy (gL .time e 0 0)⟩) λ_=>ra λ_=>ka G
def vad:SP:=[(65,Pl),(74,Yi)]
abbrev wad:Fnn:=⟨[.tmp 2],.one .fr .bool,none,[]⟩
def bV(x:Row):TN Bool:=.k (je x.Key 0 3) λy=>.k (je x.Val 0 99) λz=>.k (re x.At) λa=>.w [mh x.Key 0 3,(y&&true)=true->(mh x.Val 0 99),((cond y z false)&&true)=true->(qh x.At),((cond (cond y z false) a false)&&true)=true->(mh x.Diff (-99999) 99999)] (.l (.r (cond (cond (cond y z false) a false) (je x.Diff (-99999) 99999) false)))
def XJ(x:Row):Bool:=ocR (bV x).val
def YJ(x:Row):Prop:=(bV x).ob
def ZJ:Spec:=spF [(.st .row)] (.one .fr .bool) XJ YJ
theorem xad(G:Gd vad):CP 122 ZJ:=ma (F:=wad) (fn:=Tryz.f122) G λ_ _=>ka G
def yad:SP:=[(122,ZJ)]
abbrev F99:Fnn:=⟨[.tmp 2],.one .fr .bool,none,[]⟩
def ly(y:LR)(x:Int):TX Bool Int Unit:=.c (cmp .lss x (ba .row y)) (.w [inb x (ba .row y),YJ (rd .row y x)] (.c (!(XJ (rd .row y x))) (.l (.r false))
 (.l (.n (ar .add .i64 x 1)))))
 (.l (.x ()))
def zad:=λx y=>pcR (ly x y) [0,0,1,0,1,1] (λq=>[(0,.S .row x),(3,.I q)]) y (rvF F99) (λ_=>(0,[]))
def my:=λx=>pcL (λs:Int=>zad x s) 0
def cV(x:LR):TA Bool Unit:=.sx (my x) (λ_=>.l (.n ()))
def aK:=λx=>pcT (cV x) [0,1,1] [(0,.S .row x)] (rvF F99) (λ_=>[])
def bK(x:LR):TN Bool:=.c (cmp .gtr (ba .row x) 400) (.l (.r false))
 (.sn (aK x) (λ_=>.l (.r true)))
def Zi(x:LR):Bool:=ocR (bK x).val
def Ak(x:LR):Prop:=(bK x).ob
def om:Spec:=spF [(.lst .row)] (.one .fr .bool) Zi Ak
theorem Aad(G:Gd yad):CP 99 om:=ma (F:=F99) (fn:=Tryz.f99) G λ_ _=>ia G (λe=>⟨aK (gL .row e 0 0)⟩) λ_=>ia G (λe=>⟨my (gL .row e 0 0)⟩) λ_=>ra λ_=>ka G
def Bad:SP:=[]
abbrev cK:Fnn:=⟨[.tmp 4],.one .fr (.int .i64),none,[]⟩
def Yh(y z:LB)(x:Int):TX Int Int Unit:=.c (cmp .lss x (ba .int y)) (.w [inb x (ba .int y),inb x (ba .int z)] (.c (cmp .lss (rd .int y x) (rd .int z x)) (.l (.r (-1)))
 (.w [inb x (ba .int y),inb x (ba .int z)] (.c (cmp .gtr (rd .int y x) (rd .int z x)) (.l (.r 1))
 (.l (.n (ar .add .i64 x 1)))))))
 (.l (.x ()))
def Cad:=λx y z=>pcR (Yh x y z) [0,0,1,0,1,1,1] (λq=>[(5,.A .int x),(6,.A .int y),(7,.I q)]) z (rvF cK) (λ_=>(0,[]))
def ny:=λx y=>pcL (λs:Int=>Cad x y s) 0
def dV(x y:LB):TA Int Unit:=.sx (ny x y) (λ_=>.l (.n ()))
def dK:=λx y=>pcT (dV x y) [0,1,1,1] [(5,.A .int x),(6,.A .int y)] (rvF cK) (λ_=>[])
def fK(x y:Row):TN Int:=.sn (dK [x.Key,x.Val,x.At.A,x.At.B] [y.Key,y.Val,y.At.A,y.At.B]) (λ_=>.l (.r 0))
def Ck(x:Row)(y:Row):Int:=ocR (fK x y).val
def lq(x:Row)(y:Row):Prop:=(fK x y).ob
def qy:Spec:=spF [(.st .row),(.st .row)] (.one .fr (.int .i64)) Ck lq
theorem Dad(G:Gd Bad):CP 100 qy:=ma (F:=cK) (fn:=Tryz.f100) G λ_ _=>ia G (λe=>⟨dK (gL .int e 5 0) (gL .int e 6 0)⟩) λ_=>ia G (λe=>⟨ny (gL .int e 5 0) (gL .int e 6 0)⟩) λ_=>ra λ_=>ka G
def Ead:SP:=[(99,om),(100,qy)]
abbrev F66:Fnn:=⟨[.tmp 2],.one .fr .bool,none,[]⟩
def mq(y:LR)(x:Int):TX Bool Int Unit:=.c (cmp .lss x (ba .row y)) (.w [inb x (ba .row y),((cmp .gtr x 0)&&((!(cmp .eql (rd .row y x).Diff 0))&&true))=true->inb (ar .sub .i64 x 1) (ba .row y),((cmp .gtr x 0)&&((!(cmp .eql (rd .row y x).Diff 0))&&true))=true->inb x (ba .row y),((cmp .gtr x 0)&&((!(cmp .eql (rd .row y x).Diff 0))&&true))=true->(lq (rd .row y (ar .sub .i64 x 1)) (rd .row y x))] (.c (cond (cmp .eql (rd .row y x).Diff 0) true (cond (cmp .gtr x 0) (cmp .geq (Ck (rd .row y (ar .sub .i64 x 1)) (rd .row y x)) 0) false)) (.l (.r false))
 (.l (.n (ar .add .i64 x 1)))))
 (.l (.x ()))
def Fad:=λx y=>pcR (mq x y) [0,0,1,0,1,1] (λq=>[(0,.S .row x),(3,.I q)]) y (rvF F66) (λ_=>(0,[]))
def ry:=λx=>pcL (λs:Int=>Fad x s) 0
def eV(x:LR):TA Bool Unit:=.sx (ry x) (λ_=>.l (.n ()))
def gK:=λx=>pcT (eV x) [0,1,1] [(0,.S .row x)] (rvF F66) (λ_=>[])
def iK(x:LR):TN Bool:=.w [Ak x] (.c (!(Zi x)) (.l (.r false))
 (.sn (gK x) (λ_=>.l (.r true))))
def Zh(x:LR):Bool:=ocR (iK x).val
def aj(x:LR):Prop:=(iK x).ob
def pm:Spec:=spF [(.lst .row)] (.one .fr .bool) Zh aj
theorem Gad(G:Gd Ead):CP 66 pm:=ma (F:=F66) (fn:=Tryz.f66) G λ_ _=>ia G (λe=>⟨gK (gL .row e 0 0)⟩) λ_=>ia G (λe=>⟨ry (gL .row e 0 0)⟩) λ_=>ra λ_=>ka G
def Had:SP:=[]
abbrev Iad:Fnn:=⟨[.tmp 6,.tmp 7,.tmp 8],.tup [(true,(.int .i64)),(true,(.int .i64)),(true,.bool)],none,[]⟩
def jK(y x z:Int):TN (Int×Int×Bool×Unit):=.c (cmp .eql z 1) (.w [(4:Int)≠0,(4:Int)≠0] (.l (.r ((ar .rem .i64 x 4),((ar .add .i64 (ar .mul .i64 (ar .quo .i64 x 4) 4) y),(true,()))))))
 (.c (cmp .eql z 2) (.w [(100:Int)≠0] (.l (.r (y,((ar .rem .i64 (ar .add .i64 x 1) 100),(true,()))))))
 (.c (cmp .eql z 3) (.w [(4:Int)≠0] (.l (.r ((ar .rem .i64 x 4),(x,(true,()))))))
 (.c (cmp .eql z 4) (.l (.r (0,(x,(true,())))))
 (.c (cmp .eql z 5) (.w [(2:Int)≠0] (.l (.r (y,(x,((cmp .eql (ar .rem .i64 x 2) 0),()))))))
 (.c (cmp .eql z 6) (.w [(2:Int)≠0] (.l (.r (y,(x,((cmp .eql (ar .rem .i64 y 2) 0),()))))))
 (.l (.r (y,(x,((cmp .lss x 10),()))))))))))
def sy(x:Int)(y:Int)(z:Int):Int×Int×Bool×Unit:=ocR (jK x y z).val
def uy(x:Int)(y:Int)(z:Int):Prop:=(jK x y z).ob
def kK:Spec:=spF [(.int .i64),(.int .i64),(.int .i64)] (.tup [(true,(.int .i64)),(true,(.int .i64)),(true,.bool)]) sy uy
theorem Jad(G:Gd Had):CP 140 kK:=ma (F:=Iad) (fn:=Tryz.f140) G λ_ _=>ka G
def Kad:SP:=[(100,qy)]
abbrev qm:Fnn:=⟨[.tmp 4],.one (.acc true) (.lst .row),none,[]⟩
def fV(_:LR)(y z a b c:Int)(x:LR)(d:Bool)(_ f:Int):TA LR (LR×Bool):=.c (cond (!d) (cmp .gtr f 0) false) (.w [lim (ba .row x) (ba .row [(aar y z (aaq a b) c)])] (.l (.n ((x++[(aar y z (aaq a b) c)]),true))))
 (.l (.n (x,d)))
def lK:=λx y z a b c g h d f=>pcT (fV x y z a b c g h d f) [0,1,0,0,1,0,0,1,0,1,1,1] [(0,.S .row x),(3,.B [y,z,a,b,c]),(5,.A .row g),(6,.O h),(7,.I d),(8,.I f)] (rvF qm) (λq=>[(0,.S .row x),(3,.B [y,z,a,b,c]),(5,.A .row q.1),(6,.O q.2),(7,.I d),(8,.I f)])
def gV(x:LR)(b c d f z:Int)(h:LR)(i:Bool)(y:Int):TA LR (Int×LR×Bool):=.k (Ck (rd .row x y) (aar b c (aaq d f) z)) λg=>.w [inb y (ba .row x),lq (rd .row x y) (aar b c (aaq d f) z)] (.sn (lK x b c d f z h i y g) (λa=>.c (cond (!a.2) (cmp .eql g 0) false) (.w [inb y (ba .row x)] (.w [lim (ba .row a.1) (ba .row [(aar b c (aaq d f) (ar .add .i64 z (rd .row x y).Diff))])] (.l (.n ((ar .add .i64 z (rd .row x y).Diff),(a.1++[(aar b c (aaq d f) (ar .add .i64 z (rd .row x y).Diff))]),true)))))
 (.w [inb y (ba .row x),lim (ba .row a.1) (ba .row [(rd .row x y)])] (.l (.n (z,(a.1++[(rd .row x y)]),a.2))))))
def wy:=λx y z a b d f g c=>pcT (gV x y z a b d f g c) [0,1,0,0,1,0,1,1,1] [(0,.S .row x),(3,.B [y,z,a,b,d]),(5,.A .row f),(6,.O g),(7,.I c)] (rvF qm) (λq=>[(0,.S .row x),(3,.B [y,z,a,b,q.1]),(5,.A .row q.2.1),(6,.O q.2.2),(7,.I c)])
def bj(a:LR)(x:Row)(b:Int)(c:LR)(d:Bool)(y:Int):TX LR (Int×LR×Bool×Int) (Int×LR×Bool):=.c (cmp .lss y (ba .row a)) (.sn (wy a x.Key x.Val x.At.A x.At.B b c d y) (λz=>.l (.n (z.1,z.2.1,z.2.2,(ar .add .i64 y 1)))))
 (.l (.x (b,c,d)))
def Lad:=λy x z a b c=>pcR (bj y x z a b c) [0,0,1,0,1,1,1] (λq=>[(0,.S .row y),(3,.B [x.Key,x.Val,x.At.A,x.At.B,q.1]),(5,.A .row q.2.1),(6,.O q.2.2.1),(7,.I q.2.2.2)]) (z,a,b,c) (rvF qm) (λq=>(0,[(3,.B [x.Key,x.Val,x.At.A,x.At.B,q.1]),(5,.A .row q.2.1),(6,.O q.2.2)]))
def xy:=λy x=>pcL (λs:Int×LR×Bool×Int=>Lad y x s.1 s.2.1 s.2.2.1 s.2.2.2) (x.Diff,[],false,0)
def iV(y:LR)(z:Row):TA LR (Int×LR×Bool):=.sx (xy y z) (λx=>.l (.n (x.1,x.2.1,x.2.2)))
def mK:=λy x=>pcT (iV y x) [0,1,1,1] [(0,.S .row y),(3,.B [x.Key,x.Val,x.At.A,x.At.B,x.Diff]),(5,.A .row []),(6,.O false)] (rvF qm) (λq=>[(3,.B [x.Key,x.Val,x.At.A,x.At.B,q.1]),(5,.A .row q.2.1),(6,.O q.2.2)])
def nK(y z a b c:Int)(x:LR)(d:Bool):TA LR LR:=.c (!d) (.w [lim (ba .row x) (ba .row [(aar y z (aaq a b) c)])] (.l (.n (x++[(aar y z (aaq a b) c)]))))
 (.l (.n x))
def oK:=λx y z a b c d=>pcT (nK x y z a b c d) [0,1,1,1,1] [(3,.B [x,y,z,a,b]),(5,.A .row c),(6,.O d)] (rvF qm) (λq=>[(5,.A .row q)])
def pK(z:LR)(x:Row):TN LR:=.sn (mK z x) (λy=>.sn (oK x.Key x.Val x.At.A x.At.B y.1 y.2.1 y.2.2) (λa=>.l (.r a)))
def zy(x:LR)(y:Row):LR:=ocR (pK x y).val
def Ay(x:LR)(y:Row):Prop:=(pK x y).ob
def qK:Spec:=spF [(.lst .row),(.st .row)] (.one (.acc true) (.lst .row)) zy Ay
theorem Mad(G:Gd Kad):CP 101 qK:=ma (F:=qm) (fn:=Tryz.f101) G λ_ _=>Yc G [λe=>⟨mK (gL .row e 0 0) (gRow e 3)⟩,λe=>⟨oK (gI e 3 0) (gI e 3 1) (gI e 3 2) (gI e 3 3) (gI e 3 4) (gL .row e 5 0) (gB e 6 0)⟩] ⟨λ_=>ia G (λe=>⟨xy (gL .row e 0 0) (gRow e 3)⟩) λ_=>ra λ_=>ia G (λe=>⟨wy (gL .row e 0 0) (gI e 3 0) (gI e 3 1) (gI e 3 2) (gI e 3 3) (gI e 3 4) (gL .row e 5 0) (gB e 6 0) (gI e 7 0)⟩) λ_=>ia G (λe=>⟨lK (gL .row e 0 0) (gI e 3 0) (gI e 3 1) (gI e 3 2) (gI e 3 3) (gI e 3 4) (gL .row e 5 0) (gB e 6 0) (gI e 7 0) (gI e 8 0)⟩) λ_=>ka G,λ_=>ka G,trivial⟩
def Nad:SP:=[(101,qK)]
abbrev F69:Fnn:=⟨[.tmp 2],.one (.acc true) (.lst .row),none,[]⟩
def Cy(y z:LR)(x:Int):TX LR (LR×Int) LR:=.c (cmp .lss x (ba .row y)) (.w [inb x (ba .row y),Ay z (rd .row y x)] (.l (.n ((zy z (rd .row y x)),(ar .add .i64 x 1)))))
 (.l (.x z))
def Oad:=λx y z=>pcR (Cy x y z) [0,0,1,0,1,1] (λq=>[(0,.S .row x),(3,.A .row q.1),(4,.I q.2)]) (y,z) (rvF F69) (λq=>(0,[(3,.A .row q)]))
def Dy:=λx=>pcL (λs:LR×Int=>Oad x s.1 s.2) ([],0)
def jV(x:LR):TA LR LR:=.sx (Dy x) (λy=>.l (.n y))
def sK:=λx=>pcT (jV x) [0,1,1] [(0,.S .row x),(3,.A .row [])] (rvF F69) (λq=>[(3,.A .row q)])
def kV(x z:LR)(y:Int):TA LR LR:=.w [inb y (ba .row x)] (.c (cmp .neq (rd .row x y).Diff 0) (.w [inb y (ba .row x),lim (ba .row z) (ba .row [(rd .row x y)])] (.l (.n (z++[(rd .row x y)]))))
 (.l (.n z)))
def Ey:=λx z y=>pcT (kV x z y) [0,1,0,0,1,0,1,1,1,1] [(3,.A .row x),(5,.A .row z),(6,.I y)] (rvF F69) (λq=>[(3,.A .row x),(5,.A .row q),(6,.I y)])
def Fy(y z:LR)(x:Int):TX LR (LR×Int) LR:=.c (cmp .lss x (ba .row y)) (.sn (Ey y z x) (λa=>.l (.n (a,(ar .add .i64 x 1)))))
 (.l (.x z))
def Pad:=λx y z=>pcR (Fy x y z) [0,0,1,0,1,1,1,1] (λq=>[(3,.A .row x),(5,.A .row q.1),(6,.I q.2)]) (y,z) (rvF F69) (λq=>(2,[(5,.A .row q)]))
def Gy:=λx=>pcL (λs:LR×Int=>Pad x s.1 s.2) ([],0)
def lV(x:LR):TA LR LR:=.sx (Gy x) (λy=>.l (.n y))
def uK:=λx=>pcT (lV x) [0,1,1,1,1] [(3,.A .row x),(5,.A .row [])] (rvF F69) (λq=>[(5,.A .row q)])
def vK(x:LR):TN LR:=.sn (sK x) (λy=>.sn (uK y) (λz=>.l (.r z)))
def bg(x:LR):LR:=ocR (vK x).val
def Fg(x:LR):Prop:=(vK x).ob
def rh:Spec:=spF [(.lst .row)] (.one (.acc true) (.lst .row)) bg Fg
theorem Qad(G:Gd Nad):CP 69 rh:=ma (F:=F69) (fn:=Tryz.f69) G λ_ _=>Yc G [λe=>⟨sK (gL .row e 0 0)⟩,λe=>⟨uK (gL .row e 3 0)⟩] ⟨λ_=>ia G (λe=>⟨Dy (gL .row e 0 0)⟩) λ_=>ra λ_=>ka G,λ_=>ia G (λe=>⟨Gy (gL .row e 3 0)⟩) λ_=>ra λ_=>ia G (λe=>⟨Ey (gL .row e 3 0) (gL .row e 5 0) (gI e 6 0)⟩) λ_=>ka G,trivial⟩
def Rad:SP:=[(140,kK),(69,rh)]
abbrev Hy:Fnn:=⟨[.tmp 4],.one (.acc true) (.lst .row),none,[]⟩
def mV(x:LR)(b:Int)(a:LR)(y:Int):TA LR LR:=.k (sy (rd .row x y).Key (rd .row x y).Val b) λz=>.w [inb y (ba .row x),inb y (ba .row x),uy (rd .row x y).Key (rd .row x y).Val b] (.c z.2.2.1 (.w [inb y (ba .row x),inb y (ba .row x),lim (ba .row a) (ba .row [(aar z.1 z.2.1 (rd .row x y).At (rd .row x y).Diff)])] (.l (.n (a++[(aar z.1 z.2.1 (rd .row x y).At (rd .row x y).Diff)]))))
 (.l (.n a)))
def wK:=λx y a z=>pcT (mV x y a z) [0,1,0,0,1,0,1,1] [(0,.S .row x),(1,.I y),(5,.A .row a),(6,.I z)] (rvF Hy) (λq=>[(0,.S .row x),(1,.I y),(5,.A .row q),(6,.I z)])
def Iy(y:LR)(a:Int)(z:LR)(x:Int):TX LR (LR×Int) LR:=.c (cmp .lss x (ba .row y)) (.sn (wK y a z x) (λb=>.l (.n (b,(ar .add .i64 x 1)))))
 (.l (.x z))
def Sad:=λx y z a=>pcR (Iy x y z a) [0,0,1,0,1,1] (λq=>[(0,.S .row x),(1,.I y),(5,.A .row q.1),(6,.I q.2)]) (z,a) (rvF Hy) (λq=>(0,[(5,.A .row q)]))
def Jy:=λx y=>pcL (λs:LR×Int=>Sad x y s.1 s.2) ([],0)
def nV(x:LR)(y:Int):TA LR LR:=.sx (Jy x y) (λz=>.l (.n z))
def xK:=λx y=>pcT (nV x y) [0,1,1] [(0,.S .row x),(1,.I y),(5,.A .row [])] (rvF Hy) (λq=>[(5,.A .row q)])
def yK(y:LR)(z:Int):TN LR:=.sn (xK y z) (λx=>.w [Fg x] (.l (.r (bg x))))
def Ky(x:LR)(y:Int):LR:=ocR (yK x y).val
def Ly(x:LR)(y:Int):Prop:=(yK x y).ob
def zK:Spec:=spF [(.lst .row),(.int .i64)] (.one (.acc true) (.lst .row)) Ky Ly
theorem Tad(G:Gd Rad):CP 123 zK:=ma (F:=Hy) (fn:=Tryz.f123) G λ_ _=>ia G (λe=>⟨xK (gL .row e 0 0) (gI e 1 0)⟩) λ_=>ia G (λe=>⟨Jy (gL .row e 0 0) (gI e 1 0)⟩) λ_=>ra λ_=>ia G (λe=>⟨wK (gL .row e 0 0) (gI e 1 0) (gL .row e 5 0) (gI e 6 0)⟩) λ_=>ka G
def Uad:SP:=[(66,pm)]
abbrev Vad:Fnn:=⟨[.tmp 2],.one .sh (.lst .row),none,[]⟩
def BK(x:LR):TN LR:=.w [aj x] (.c (!(Zh x)) (.l (.r []))
 (.l (.r x)))
def My(x:LR):LR:=ocR (BK x).val
def Ny(x:LR):Prop:=(BK x).ob
def CK:Spec:=spF [(.lst .row)] (.one .sh (.lst .row)) My Ny
theorem Wad(G:Gd Uad):CP 104 CK:=ma (F:=Vad) (fn:=Tryz.f104) G λ_ _=>ka G
end
noncomputable section
set_option maxRecDepth 100000
def Xad:SP:=[(99,om),(69,rh),(104,CK)]
abbrev F73:Fnn:=⟨[.tmp 2],.one .sh (.lst .row),none,[]⟩
def Oy(x z:LR)(y:Int):TX LR (LR×Int) LR:=.w [((cmp .lss y (ba .row x))&&true)=true->(Ak x)] (.c (cond (cmp .lss y (ba .row x)) (Zi x) false) (.w [inb y (ba .row x)] (.w [lim (ba .row z) (ba .row [(aar (rd .row x y).Key (rd .row x y).Val (rd .row x y).At (aao .i64 (0 - (rd .row x y).Diff)))])] (.l (.n ((z++[(aar (rd .row x y).Key (rd .row x y).Val (rd .row x y).At (aao .i64 (0 - (rd .row x y).Diff)))]),(ar .add .i64 y 1))))))
 (.l (.x z)))
def Yad:=λx y z=>pcR (Oy x y z) [0,0,1,0,1,1] (λq=>[(0,.S .row x),(3,.A .row q.1),(4,.I q.2)]) (y,z) (rvF F73) (λq=>(0,[(3,.A .row q)]))
def Py:=λx=>pcL (λs:LR×Int=>Yad x s.1 s.2) ([],0)
def oV(x:LR):TA LR LR:=.sx (Py x) (λy=>.l (.n y))
def DK:=λx=>pcT (oV x) [0,1,1] [(0,.S .row x),(3,.A .row [])] (rvF F73) (λq=>[(3,.A .row q)])
def FK(y:LR):TN LR:=.sn (DK y) (λx=>.w [Fg x,Ny (bg x)] (.l (.r (My (bg x)))))
def Dk(x:LR):LR:=ocR (FK x).val
def oq(x:LR):Prop:=(FK x).ob
def Qy:Spec:=spF [(.lst .row)] (.one .sh (.lst .row)) Dk oq
theorem Zad(G:Gd Xad):CP 73 Qy:=ma (F:=F73) (fn:=Tryz.f73) G λ_ _=>ia G (λe=>⟨DK (gL .row e 0 0)⟩) λ_=>ia G (λe=>⟨Py (gL .row e 0 0)⟩) λ_=>ra λ_=>ka G
def aae:SP:=[]
abbrev bae:Fnn:=⟨[.tmp 4],.one .fr (.int .i64),none,[]⟩
def pV(x y:Int):TN Int:=.w [(100:Int)≠0] (.l (.r (ar .rem .i64 (ar .add .i64 (ar .mul .i64 x 10) y) 100)))
def GK(x:Int)(y:Int):Int:=ocR (pV x y).val
def IK(x:Int)(y:Int):Prop:=(pV x y).ob
def JK:Spec:=spF [(.int .i64),(.int .i64)] (.one .fr (.int .i64)) GK IK
theorem cae(G:Gd aae):CP 141 JK:=ma (F:=bae) (fn:=Tryz.f141) G λ_ _=>ka G
def dae:SP:=[(74,Yi)]
abbrev eae:Fnn:=⟨[.cell 4 65],.one .fr (.st .time),none,[]⟩
def LK(x y:Time):TN Time:=.w [qh x,((!(!(re x)))&&true)=true->(qh y)] (.c (cond (!(re x)) true (!(re y))) (.l (.r (aaq 0 0)))
 (.l (.r (aaq (mx x.A y.A) (mx x.B y.B)))))
def pq(x:Time)(y:Time):Time:=ocR (LK x y).val
def qq(x:Time)(y:Time):Prop:=(LK x y).ob
def Ry:Spec:=spF [(.st .time),(.st .time)] (.one .fr (.st .time)) pq qq
theorem fae(G:Gd dae):CP 142 Ry:=ma (F:=eae) (fn:=Tryz.f142) G λ_ _=>ka G
def gae:SP:=[(141,JK),(142,Ry),(69,rh)]
abbrev rm:Fnn:=⟨[.tmp 4],.one (.acc true) (.lst .row),none,[]⟩
def qV(x z b:LR)(y a:Int):TA LR LR:=.w [inb y (ba .row x),inb a (ba .row z)] (.c (cmp .eql (rd .row x y).Key (rd .row z a).Key) (.k (GK (rd .row x y).Val (rd .row z a).Val) λc=>.k (pq (rd .row x y).At (rd .row z a).At) λd=>.w [inb y (ba .row x),inb y (ba .row x),inb a (ba .row z),IK (rd .row x y).Val (rd .row z a).Val,inb y (ba .row x),inb a (ba .row z),qq (rd .row x y).At (rd .row z a).At,inb y (ba .row x),inb a (ba .row z),lim (ba .row b) (ba .row [(aar (rd .row x y).Key c d (ar .mul .i64 (rd .row x y).Diff (rd .row z a).Diff))])] (.l (.n (b++[(aar (rd .row x y).Key c d (ar .mul .i64 (rd .row x y).Diff (rd .row z a).Diff))]))))
 (.l (.n b)))
def MK:=λx y b z a=>pcT (qV x y b z a) [0,1,0,0,1,0,0,1,0,0,1,0,1,1] [(0,.S .row x),(1,.S .row y),(5,.A .row b),(6,.I z),(7,.I a)] (rvF rm) (λq=>[(0,.S .row x),(1,.S .row y),(5,.A .row q),(6,.I z),(7,.I a)])
def Sy(a y _:LR)(b:Int)(z:LR)(x:Int):TX LR (LR×Int) LR:=.c (cmp .lss x (ba .row y)) (.sn (MK a y z b x) (λc=>.l (.n (c,(ar .add .i64 x 1)))))
 (.l (.x z))
def iae:=λx y c z a b=>pcR (Sy x y c z a b) [0,0,1,0,0,1,0,0,1,0,1,1] (λq=>[(0,.S .row x),(1,.S .row y),(5,.A .row q.1),(6,.I z),(7,.I q.2)]) (a,b) (rvF rm) (λq=>(2,[(0,.S .row x),(1,.S .row y),(5,.A .row q),(6,.I z)]))
def Uy:=λy z x a=>pcL (λs:LR×Int=>iae y z x a s.1 s.2) (x,0)
def rV(x y z:LR)(a:Int):TA LR LR:=.sx (Uy x y z a) (λb=>.l (.n b))
def NK:=λx y a z=>pcT (rV x y a z) [0,1,0,0,1,0,1,1] [(0,.S .row x),(1,.S .row y),(5,.A .row a),(6,.I z)] (rvF rm) (λq=>[(0,.S .row x),(1,.S .row y),(5,.A .row q),(6,.I z)])
def Vy(y a z:LR)(x:Int):TX LR (LR×Int) LR:=.c (cmp .lss x (ba .row y)) (.sn (NK y a z x) (λb=>.l (.n (b,(ar .add .i64 x 1)))))
 (.l (.x z))
def jae:=λx y z a=>pcR (Vy x y z a) [0,0,1,0,1,1] (λq=>[(0,.S .row x),(1,.S .row y),(5,.A .row q.1),(6,.I q.2)]) (z,a) (rvF rm) (λq=>(0,[(5,.A .row q)]))
def Wy:=λx y=>pcL (λs:LR×Int=>jae x y s.1 s.2) ([],0)
def sV(x y:LR):TA LR LR:=.sx (Wy x y) (λz=>.l (.n z))
def PK:=λx y=>pcT (sV x y) [0,1,1] [(0,.S .row x),(1,.S .row y),(5,.A .row [])] (rvF rm) (λq=>[(5,.A .row q)])
def QK(y z:LR):TN LR:=.sn (PK y z) (λx=>.w [Fg x] (.l (.r (bg x))))
def Xy(x:LR)(y:LR):LR:=ocR (QK x y).val
def Yy(x:LR)(y:LR):Prop:=(QK x y).ob
def RK:Spec:=spF [(.lst .row),(.lst .row)] (.one (.acc true) (.lst .row)) Xy Yy
theorem kae(G:Gd gae):CP 124 RK:=ma (F:=rm) (fn:=Tryz.f124) G λ_ _=>ia G (λe=>⟨PK (gL .row e 0 0) (gL .row e 1 0)⟩) λ_=>ia G (λe=>⟨Wy (gL .row e 0 0) (gL .row e 1 0)⟩) λ_=>ra λ_=>ia G (λe=>⟨NK (gL .row e 0 0) (gL .row e 1 0) (gL .row e 5 0) (gI e 6 0)⟩) λ_=>ia G (λe=>⟨Uy (gL .row e 0 0) (gL .row e 1 0) (gL .row e 5 0) (gI e 6 0)⟩) λ_=>ra λ_=>ia G (λe=>⟨MK (gL .row e 0 0) (gL .row e 1 0) (gL .row e 5 0) (gI e 6 0) (gI e 7 0)⟩) λ_=>ka G
def lae:SP:=[]
abbrev SK:Fnn:=⟨[.tmp 4],.one .fr .bool,none,[]⟩
def Zy(y:List Time)(z:Time)(x:Int):TX Bool Int Unit:=.c (cmp .lss x (ba .time y)) (.w [inb x (ba .time y)] (.c (cmp .eql (rd .time y x).A z.A&&(cmp .eql (rd .time y x).B z.B&&true)) (.l (.r true))
 (.l (.n (ar .add .i64 x 1)))))
 (.l (.x ()))
def mae:=λy x z=>pcR (Zy y x z) [0,0,1,0,1] (λq=>[(0,.S .time y),(3,.B [x.A,x.B]),(5,.I q)]) z (rvF SK) (λ_=>(0,[]))
def az:=λx y=>pcL (λs:Int=>mae x y s) 0
def tV(x:List Time)(y:Time):TA Bool Unit:=.sx (az x y) (λ_=>.l (.n ()))
def TK:=λy x=>pcT (tV y x) [0,1] [(0,.S .time y),(3,.B [x.A,x.B])] (rvF SK) (λ_=>[])
def VK(x:List Time)(y:Time):TN Bool:=.sn (TK x y) (λ_=>.l (.r false))
def um(x:List Time)(y:Time):Bool:=ocR (VK x y).val
def vm(x:List Time)(y:Time):Prop:=(VK x y).ob
def WK:Spec:=spF [(.lst .time),(.st .time)] (.one .fr .bool) um vm
theorem nae(G:Gd lae):CP 185 WK:=ma (F:=SK) (fn:=Tryz.f185) G λ_ _=>ia G (λe=>⟨TK (gL .time e 0 0) (Fd e 3)⟩) λ_=>ia G (λe=>⟨az (gL .time e 0 0) (Fd e 3)⟩) λ_=>ra λ_=>ka G
def oae:SP:=[(99,om),(185,WK),(142,Ry)]
abbrev nf:Fnn:=⟨[.tmp 4],.one (.acc true) (.lst .time),none,[]⟩
def uV(x:LR)(a:Int)(z:List Time)(y:Int):TA (List Time) ((List Time)):=.w [inb y (ba .row x),((cmp .eql (rd .row x y).Key a)&&true)=true->inb y (ba .row x),((cmp .eql (rd .row x y).Key a)&&true)=true->(vm z (rd .row x y).At)] (.c (cond (cmp .eql (rd .row x y).Key a) (!(um z (rd .row x y).At)) false) (.w [inb y (ba .row x),lim (ba .time z) (ba .time [(rd .row x y).At])] (.l (.n (z++[(rd .row x y).At]))))
 (.l (.n z)))
def XK:=λx y a z=>pcT (uV x y a z) [0,1,0,0,1,0,1,1] [(0,.S .row x),(1,.I y),(5,.A .time a),(6,.I z)] (rvF nf) (λq=>[(0,.S .row x),(1,.I y),(5,.A .time q),(6,.I z)])
def bz(x:LR)(a:Int)(z:List Time)(y:Int):TX (List Time) ((List Time)×Int) ((List Time)):=.w [((cmp .lss y (ba .row x))&&true)=true->(Ak x)] (.c (cond (cmp .lss y (ba .row x)) (Zi x) false) (.sn (XK x a z y) (λb=>.l (.n (b,(ar .add .i64 y 1)))))
 (.l (.x z)))
def pae:=λx y z a=>pcR (bz x y z a) [0,0,1,0,1,1] (λq=>[(0,.S .row x),(1,.I y),(5,.A .time q.1),(6,.I q.2)]) (z,a) (rvF nf) (λq=>(0,[(5,.A .time q)]))
def cz:=λx y=>pcL (λs:(List Time)×Int=>pae x y s.1 s.2) ([],0)
def vV(x:LR)(y:Int):TA (List Time) ((List Time)):=.sx (cz x y) (λz=>.l (.n z))
def YK:=λx y=>pcT (vV x y) [0,1,1] [(0,.S .row x),(1,.I y),(5,.A .time [])] (rvF nf) (λq=>[(5,.A .time q)])
def wV(x:List Time)(z a:Int):TA (List Time) ((List Time)):=.k (pq (rd .time x z) (rd .time x a)) λy=>.w [inb z (ba .time x),inb a (ba .time x),qq (rd .time x z) (rd .time x a)] (.w [vm x y] (.c (!(um x y)) (.w [lim (ba .time x) (ba .time [y])] (.l (.n (x++[y]))))
 (.l (.n x))))
def ZK:=λz x y=>pcT (wV z x y) [0,1,0,0,1,0,0,1,0,0,1,0,1,1,1] [(5,.A .time z),(7,.I x),(8,.I y)] (rvF nf) (λq=>[(5,.A .time q),(7,.I x),(8,.I y)])
def dz(_:List Time)(y:Int)(z:List Time)(x:Int):TX (List Time) ((List Time)×Int) ((List Time)):=.c (cmp .lss x y) (.sn (ZK z y x) (λa=>.l (.n (a,(ar .add .i64 x 1)))))
 (.l (.x z))
def qae:=λa x y z=>pcR (dz a x y z) [0,0,1,0,0,1,0,0,1,0,1,1,1] (λq=>[(5,.A .time q.1),(7,.I x),(8,.I q.2)]) (y,z) (rvF nf) (λq=>(4,[(5,.A .time q),(7,.I x)]))
def ez:=λx y=>pcL (λs:(List Time)×Int=>qae x y s.1 s.2) (x,0)
def xV(x:List Time)(y:Int):TA (List Time) ((List Time)):=.sx (ez x y) (λz=>.l (.n z))
def aL:=λy x=>pcT (xV y x) [0,1,0,0,1,0,1,1,1] [(5,.A .time y),(7,.I x)] (rvF nf) (λq=>[(5,.A .time q),(7,.I x)])
def gz(_ x:List Time)(y:Int):TX (List Time) ((List Time)×Int) ((List Time)):=.c (cmp .lss y (ba .time x)) (.sn (aL x y) (λz=>.l (.n (z,(ar .add .i64 y 1)))))
 (.l (.x x))
def rae:=λz x y=>pcR (gz z x y) [0,0,1,0,1,1,1] (λq=>[(5,.A .time q.1),(7,.I q.2)]) (x,y) (rvF nf) (λq=>(2,[(5,.A .time q)]))
def iz:=λx=>pcL (λs:(List Time)×Int=>rae x s.1 s.2) (x,0)
def yV(x:List Time):TA (List Time) ((List Time)):=.sx (iz x) (λy=>.l (.n y))
def bL:=λx=>pcT (yV x) [0,1,1,1] [(5,.A .time x)] (rvF nf) (λq=>[(5,.A .time q)])
def zV(a z:List Time)(x y:Int):TA (List Time) ((List Time)):=.w [vm a (aaq x y)] (.c (um a (aaq x y)) (.w [lim (ba .time z) (ba .time [(aaq x y)])] (.l (.n (z++[(aaq x y)]))))
 (.l (.n z)))
def dL:=λx a y z=>pcT (zV x a y z) [0,1,0,0,1,0,0,1,0,0,1,0,1,1,1,1,1] [(5,.A .time x),(10,.A .time a),(11,.I y),(12,.I z)] (rvF nf) (λq=>[(5,.A .time x),(10,.A .time q),(11,.I y),(12,.I z)])
def rq(z _:List Time)(a:Int)(y:List Time)(x:Int):TX (List Time) ((List Time)×Int) ((List Time)):=.c (cmp .leq x 7) (.sn (dL z y a x) (λb=>.l (.n (b,(ar .add .i64 x 1)))))
 (.l (.x y))
def sae:=λx b y z a=>pcR (rq x b y z a) [0,0,1,0,0,1,0,0,1,0,1,1,1,1,1] (λq=>[(5,.A .time x),(10,.A .time q.1),(11,.I y),(12,.I q.2)]) (z,a) (rvF nf) (λq=>(8,[(5,.A .time x),(10,.A .time q),(11,.I y)]))
def jz:=λy x z=>pcL (λs:(List Time)×Int=>sae y x z s.1 s.2) (x,0)
def BV(x y:List Time)(z:Int):TA (List Time) ((List Time)):=.sx (jz x y z) (λa=>.l (.n a))
def eL:=λx z y=>pcT (BV x z y) [0,1,0,0,1,0,1,1,1,1,1] [(5,.A .time x),(10,.A .time z),(11,.I y)] (rvF nf) (λq=>[(5,.A .time x),(10,.A .time q),(11,.I y)])
def lz(z y:List Time)(x:Int):TX (List Time) ((List Time)×Int) ((List Time)):=.c (cmp .leq x 7) (.sn (eL z y x) (λa=>.l (.n (a,(ar .add .i64 x 1)))))
 (.l (.x y))
def tae:=λx y z=>pcR (lz x y z) [0,0,1,0,1,1,1,1,1] (λq=>[(5,.A .time x),(10,.A .time q.1),(11,.I q.2)]) (y,z) (rvF nf) (λq=>(6,[(10,.A .time q)]))
def mz:=λx=>pcL (λs:(List Time)×Int=>tae x s.1 s.2) ([],0)
def CV(x:List Time):TA (List Time) ((List Time)):=.sx (mz x) (λy=>.l (.n y))
def fL:=λx=>pcT (CV x) [0,1,1,1,1,1] [(5,.A .time x),(10,.A .time [])] (rvF nf) (λq=>[(10,.A .time q)])
def iL(x:LR)(y:Int):TN (List Time):=.sn (YK x y) (λz=>.sn (bL z) (λa=>.sn (fL a) (λb=>.l (.r b))))
def nz(x:LR)(y:Int):List Time:=ocR (iL x y).val
def oz(x:LR)(y:Int):Prop:=(iL x y).ob
def jL:Spec:=spF [(.lst .row),(.int .i64)] (.one (.acc true) (.lst .time)) nz oz
theorem uae(G:Gd oae):CP 159 jL:=ma (F:=nf) (fn:=Tryz.f159) G λ_ _=>Yc G [λe=>⟨YK (gL .row e 0 0) (gI e 1 0)⟩,λe=>⟨bL (gL .time e 5 0)⟩,λe=>⟨fL (gL .time e 5 0)⟩] ⟨λ_=>ia G (λe=>⟨cz (gL .row e 0 0) (gI e 1 0)⟩) λ_=>ra λ_=>ia G (λe=>⟨XK (gL .row e 0 0) (gI e 1 0) (gL .time e 5 0) (gI e 6 0)⟩) λ_=>ka G,λ_=>ia G (λe=>⟨iz (gL .time e 5 0)⟩) λ_=>ra λ_=>ia G (λe=>⟨aL (gL .time e 5 0) (gI e 7 0)⟩) λ_=>ia G (λe=>⟨ez (gL .time e 5 0) (gI e 7 0)⟩) λ_=>ra λ_=>ia G (λe=>⟨ZK (gL .time e 5 0) (gI e 7 0) (gI e 8 0)⟩) λ_=>ka G,λ_=>ia G (λe=>⟨mz (gL .time e 5 0)⟩) λ_=>ra λ_=>ia G (λe=>⟨eL (gL .time e 5 0) (gL .time e 10 0) (gI e 11 0)⟩) λ_=>ia G (λe=>⟨jz (gL .time e 5 0) (gL .time e 10 0) (gI e 11 0)⟩) λ_=>ra λ_=>ia G (λe=>⟨dL (gL .time e 5 0) (gL .time e 10 0) (gI e 11 0) (gI e 12 0)⟩) λ_=>ka G,trivial⟩
def vae:SP:=[(74,Yi)]
abbrev wae:Fnn:=⟨[.tmp 4],.one .fr .bool,none,[]⟩
def DV(x y:Time):TN Bool:=.w [qh x,((re x)&&true)=true->(qh y)] (.l (.r (cond (cond (cond (re x) (re y) false) (cmp .leq x.A y.A) false) (cmp .leq x.B y.B) false)))
def wm(x:Time)(y:Time):Bool:=ocR (DV x y).val
def sq(x:Time)(y:Time):Prop:=(DV x y).ob
def tq:Spec:=spF [(.st .time),(.st .time)] (.one .fr .bool) wm sq
theorem xae(G:Gd vae):CP 102 tq:=ma (F:=wae) (fn:=Tryz.f102) G λ_ _=>ka G
def yae:SP:=[(69,rh)]
abbrev uq:Fnn:=⟨[.tmp 2],.one (.acc true) (.lst .item),none,[]⟩
def qz(y:LI)(z:LR)(x:Int):TX LI (LR×Int) LR:=.c (cmp .lss x (ba .item y)) (.w [inb x (ba .item y),inb x (ba .item y),inb x (ba .item y),lim (ba .row z) (ba .row [(aar (rd .item y x).Key (rd .item y x).Val (aaq 0 0) (rd .item y x).Count)])] (.l (.n ((z++[(aar (rd .item y x).Key (rd .item y x).Val (aaq 0 0) (rd .item y x).Count)]),(ar .add .i64 x 1)))))
 (.l (.x z))
def zae:=λx y z=>pcR (qz x y z) [0,0,1,0,1,1] (λq=>[(0,.S .item x),(3,.A .row q.1),(4,.I q.2)]) (y,z) (rvF uq) (λq=>(0,[(3,.A .row q)]))
def rz:=λx=>pcL (λs:LR×Int=>zae x s.1 s.2) ([],0)
def EV(x:LI):TA LI LR:=.sx (rz x) (λy=>.l (.n y))
def kL:=λx=>pcT (EV x) [0,1,1] [(0,.S .item x),(3,.A .row [])] (rvF uq) (λq=>[(3,.A .row q)])
def tz(y:LR)(z:LI)(x:Int):TX LI (LI×Int) LI:=.c (cmp .lss x (ba .row y)) (.w [inb x (ba .row y),inb x (ba .row y),inb x (ba .row y),lim (ba .item z) (ba .item [(aaB (rd .row y x).Key (rd .row y x).Val (rd .row y x).Diff)])] (.l (.n ((z++[(aaB (rd .row y x).Key (rd .row y x).Val (rd .row y x).Diff)]),(ar .add .i64 x 1)))))
 (.l (.x z))
def Aae:=λx y z=>pcR (tz x y z) [0,0,1,0,1,1,1,1,1] (λq=>[(5,.A .row x),(6,.A .item q.1),(7,.I q.2)]) (y,z) (rvF uq) (λq=>(2,[(6,.A .item q)]))
def uz:=λx=>pcL (λs:LI×Int=>Aae x s.1 s.2) ([],0)
def FV(x:LR):TA LI LI:=.sx (uz x) (λy=>.l (.n y))
def lL:=λx=>pcT (FV x) [0,1,1,1,1,1] [(5,.A .row x),(6,.A .item [])] (rvF uq) (λq=>[(6,.A .item q)])
def nL(y:LI):TN LI:=.sn (kL y) (λx=>.w [Fg x] (.sn (lL (bg x)) (λz=>.l (.r z))))
def vq(x:LI):LI:=ocR (nL x).val
def wq(x:LI):Prop:=(nL x).ob
def wz:Spec:=spF [(.lst .item)] (.one (.acc true) (.lst .item)) vq wq
theorem Bae(G:Gd yae):CP 105 wz:=ma (F:=uq) (fn:=Tryz.f105) G λ_ _=>Yc G [λe=>⟨kL (gL .item e 0 0)⟩,λe=>⟨lL (gL .row e 5 0)⟩] ⟨λ_=>ia G (λe=>⟨rz (gL .item e 0 0)⟩) λ_=>ra λ_=>ka G,λ_=>ia G (λe=>⟨uz (gL .row e 5 0)⟩) λ_=>ra λ_=>ka G,trivial⟩
def Cae:SP:=[(99,om),(74,Yi),(102,tq),(105,wz)]
abbrev F75:Fnn:=⟨[.tmp 4],.one (.acc true) (.lst .item),none,[]⟩
def GV(x:LR)(a:Time)(z:LI)(y:Int):TA LI LI:=.w [inb y (ba .row x),sq (rd .row x y).At a] (.c (wm (rd .row x y).At a) (.w [inb y (ba .row x),inb y (ba .row x),inb y (ba .row x),lim (ba .item z) (ba .item [(aaB (rd .row x y).Key (rd .row x y).Val (rd .row x y).Diff)])] (.l (.n (z++[(aaB (rd .row x y).Key (rd .row x y).Val (rd .row x y).Diff)]))))
 (.l (.n z)))
def qL:=λy x a z=>pcT (GV y x a z) [0,1,0,0,1,0,1,1,1] [(0,.S .row y),(3,.B [x.A,x.B]),(5,.A .item a),(6,.I z)] (rvF F75) (λq=>[(0,.S .row y),(3,.B [x.A,x.B]),(5,.A .item q),(6,.I z)])
def xz(y:LR)(a:Time)(z:LI)(x:Int):TX LI (LI×Int) LI:=.c (cmp .lss x (ba .row y)) (.sn (qL y a z x) (λb=>.l (.n (b,(ar .add .i64 x 1)))))
 (.l (.x z))
def Dae:=λy x z a=>pcR (xz y x z a) [0,0,1,0,1,1,1] (λq=>[(0,.S .row y),(3,.B [x.A,x.B]),(5,.A .item q.1),(6,.I q.2)]) (z,a) (rvF F75) (λq=>(0,[(5,.A .item q)]))
def yz:=λx y=>pcL (λs:LI×Int=>Dae x y s.1 s.2) ([],0)
def HV(x:LR)(y:Time):TA LI LI:=.sx (yz x y) (λz=>.l (.n z))
def rL:=λy x=>pcT (HV y x) [0,1,1,1] [(0,.S .row y),(3,.B [x.A,x.B]),(5,.A .item [])] (rvF F75) (λq=>[(5,.A .item q)])
def tL(x:LR)(y:Time):TN LI:=.w [Ak x,((!(!(Zi x)))&&true)=true->(qh y)] (.c (cond (!(Zi x)) true (!(re y))) (.l (.r []))
 (.sn (rL x y) (λz=>.w [wq z] (.l (.r (vq z))))))
def xq(x:LR)(y:Time):LI:=ocR (tL x y).val
def yq(x:LR)(y:Time):Prop:=(tL x y).ob
def Az:Spec:=spF [(.lst .row),(.st .time)] (.one (.acc true) (.lst .item)) xq yq
theorem Eae(G:Gd Cae):CP 75 Az:=ma (F:=F75) (fn:=Tryz.f75) G λ_ _=>ia G (λe=>⟨rL (gL .row e 0 0) (Fd e 3)⟩) λ_=>ia G (λe=>⟨yz (gL .row e 0 0) (Fd e 3)⟩) λ_=>ra λ_=>ia G (λe=>⟨qL (gL .row e 0 0) (Fd e 3) (gL .item e 5 0) (gI e 6 0)⟩) λ_=>ka G
def Fae:SP:=[]
abbrev Gae:Fnn:=⟨[.tmp 2],.one .fr (.int .i64),none,[]⟩
def IV(x:Int):TN Int:=.w [(100:Int)≠0,(100:Int)≠0] (.l (.r (ar .rem .i64 (ar .add .i64 (ar .rem .i64 x 100) 100) 100)))
def Bz(x:Int):Int:=ocR (IV x).val
def uL(x:Int):Prop:=(IV x).ob
def vL:Spec:=spF [(.int .i64)] (.one .fr (.int .i64)) Bz uL
theorem Hae(G:Gd Fae):CP 186 vL:=ma (F:=Gae) (fn:=Tryz.f186) G λ_ _=>ka G
def Iae:SP:=[(186,vL)]
abbrev zq:Fnn:=⟨[.tmp 6],.one (.acc true) (.lst .item),none,[]⟩
def JV(x:LI)(a c:Int)(z:LI)(b y:Int):TA LI (LI×Int):=.w [inb y (ba .item x)] (.c (cmp .neq (rd .item x y).Key a) (.l (.n (z,b)))
 (.w [inb y (ba .item x)] (.w [inb y (ba .item x)] (.c (cond (cmp .gtr (rd .item x y).Count 0) (cond (cmp .eql c 2) true (cond (cmp .eql c 3) (cmp .eql (ba .item z) 0) false)) false) (.w [inb y (ba .item x),lim (ba .item z) (ba .item [(aaB a (rd .item x y).Val 1)])] (.l (.n ((z++[(aaB a (rd .item x y).Val 1)]),(ar .add .i64 b (rd .item x y).Count)))))
 (.l (.n (z,(ar .add .i64 b (rd .item x y).Count))))))))
def wL:=λx y z b c a=>pcT (JV x y z b c a) [0,1,0,0,1,0,1,1,1] [(0,.S .item x),(1,.I y),(2,.I z),(7,.A .item b),(8,.I c),(9,.I a)] (rvF zq) (λq=>[(0,.S .item x),(1,.I y),(2,.I z),(7,.A .item q.1),(8,.I q.2),(9,.I a)])
def Cz(y:LI)(c d:Int)(z:LI)(a x:Int):TX LI (LI×Int×Int) (LI×Int):=.c (cmp .lss x (ba .item y)) (.sn (wL y c d z a x) (λb=>.l (.n (b.1,b.2,(ar .add .i64 x 1)))))
 (.l (.x (z,a)))
def Jae:=λz x y a b c=>pcR (Cz z x y a b c) [0,0,1,0,1,1,1] (λq=>[(0,.S .item z),(1,.I x),(2,.I y),(7,.A .item q.1),(8,.I q.2.1),(9,.I q.2.2)]) (a,b,c) (rvF zq) (λq=>(0,[(1,.I x),(2,.I y),(7,.A .item q.1),(8,.I q.2)]))
def Dz:=λx y z=>pcL (λs:LI×Int×Int=>Jae x y z s.1 s.2.1 s.2.2) ([],0,0)
def MV(y:LI)(z a:Int):TA LI (LI×Int):=.sx (Dz y z a) (λx=>.l (.n (x.1,x.2)))
def xL:=λz x y=>pcT (MV z x y) [0,1,1,1] [(0,.S .item z),(1,.I x),(2,.I y),(7,.A .item []),(8,.I 0)] (rvF zq) (λq=>[(1,.I x),(2,.I y),(7,.A .item q.1),(8,.I q.2)])
def NV(z a:Int)(y:LI)(x:Int):TA LI LI:=.c (cond (cmp .eql a 1) (cmp .neq x 0) false) (.w [uL x,lim (ba .item y) (ba .item [(aaB z (Bz x) 1)])] (.l (.n (y++[(aaB z (Bz x) 1)]))))
 (.l (.n y))
def yL:=λx y z a=>pcT (NV x y z a) [0,1,1,1,1] [(1,.I x),(2,.I y),(7,.A .item z),(8,.I a)] (rvF zq) (λq=>[(7,.A .item q)])
def zL(a:LI)(x y:Int):TN LI:=.sn (xL a x y) (λz=>.sn (yL x y z.1 z.2) (λb=>.l (.r b)))
def Ez(x:LI)(y:Int)(z:Int):LI:=ocR (zL x y z).val
def Gz(x:LI)(y:Int)(z:Int):Prop:=(zL x y z).ob
def AL:Spec:=spF [(.lst .item),(.int .i64),(.int .i64)] (.one (.acc true) (.lst .item)) Ez Gz
theorem Kae(G:Gd Iae):CP 160 AL:=ma (F:=zq) (fn:=Tryz.f160) G λ_ _=>Yc G [λe=>⟨xL (gL .item e 0 0) (gI e 1 0) (gI e 2 0)⟩,λe=>⟨yL (gI e 1 0) (gI e 2 0) (gL .item e 7 0) (gI e 8 0)⟩] ⟨λ_=>ia G (λe=>⟨Dz (gL .item e 0 0) (gI e 1 0) (gI e 2 0)⟩) λ_=>ra λ_=>ia G (λe=>⟨wL (gL .item e 0 0) (gI e 1 0) (gI e 2 0) (gL .item e 7 0) (gI e 8 0) (gI e 9 0)⟩) λ_=>ka G,λ_=>ka G,trivial⟩
def Lae:SP:=[(159,jL),(75,Az),(160,AL),(102,tq),(105,wz)]
abbrev Gg:Fnn:=⟨[.tmp 6],.one (.acc true) (.lst .row),none,[]⟩
def QV(x:LR)(a _:Int)(z:LR)(y:Int):TA LR LR:=.w [inb y (ba .row x)] (.c (cmp .eql (rd .row x y).Key a) (.w [inb y (ba .row x),lim (ba .row z) (ba .row [(rd .row x y)])] (.l (.n (z++[(rd .row x y)]))))
 (.l (.n z)))
def CL:=λx y z b a=>pcT (QV x y z b a) [0,1,0,0,1,0,1,1] [(0,.S .row x),(1,.I y),(2,.I z),(7,.A .row b),(8,.I a)] (rvF Gg) (λq=>[(0,.S .row x),(1,.I y),(2,.I z),(7,.A .row q),(8,.I a)])
def Hz(y:LR)(a b:Int)(z:LR)(x:Int):TX LR (LR×Int) LR:=.c (cmp .lss x (ba .row y)) (.sn (CL y a b z x) (λc=>.l (.n (c,(ar .add .i64 x 1)))))
 (.l (.x z))
def Mae:=λx y z a b=>pcR (Hz x y z a b) [0,0,1,0,1,1] (λq=>[(0,.S .row x),(1,.I y),(2,.I z),(7,.A .row q.1),(8,.I q.2)]) (a,b) (rvF Gg) (λq=>(0,[(0,.S .row x),(1,.I y),(2,.I z),(7,.A .row q)]))
def Iz:=λx y z=>pcL (λs:LR×Int=>Mae x y z s.1 s.2) ([],0)
def SV(x:LR)(y z:Int):TA LR LR:=.sx (Iz x y z) (λa=>.l (.n a))
def DL:=λx y z=>pcT (SV x y z) [0,1,1] [(0,.S .row x),(1,.I y),(2,.I z),(7,.A .row [])] (rvF Gg) (λq=>[(0,.S .row x),(1,.I y),(2,.I z),(7,.A .row q)])
def TV(a _:Int)(_ x:LR)(_:List Time)(_:Int)(b:Time)(z:LI)(y:Int):TA LR LI:=.w [inb y (ba .row x),sq (rd .row x y).At b] (.c (wm (rd .row x y).At b) (.w [inb y (ba .row x),inb y (ba .row x),lim (ba .item z) (ba .item [(aaB a (rd .row x y).Val (aao .i64 (0 - (rd .row x y).Diff)))])] (.l (.n (z++[(aaB a (rd .row x y).Val (aao .i64 (0 - (rd .row x y).Diff)))]))))
 (.l (.n z)))
def FL:=λy z a b c d x g f=>pcT (TV y z a b c d x g f) [0,1,0,0,1,0,1,1,0,0,1,0,0,1,0,1,1,1,1,1] [(1,.I y),(2,.I z),(7,.A .row a),(9,.A .row b),(10,.A .time c),(11,.I d),(12,.B [x.A,x.B]),(13,.A .item g),(14,.I f)] (rvF Gg) (λq=>[(1,.I y),(2,.I z),(7,.A .row a),(9,.A .row b),(10,.A .time c),(11,.I d),(12,.B [x.A,x.B]),(13,.A .item q),(14,.I f)])
def Jz(a b:Int)(c y:LR)(d:List Time)(f:Int)(g:Time)(_ z:LI)(x:Int):TX LR (LI×Int) LI:=.c (cmp .lss x (ba .row y)) (.sn (FL a b c y d f g z x) (λh=>.l (.n (h,(ar .add .i64 x 1)))))
 (.l (.x z))
def Nae:=λy z a b c d x h f g=>pcR (Jz y z a b c d x h f g) [0,0,1,0,1,1,0,0,1,0,0,1,0,1,1,1,1,1] (λq=>[(1,.I y),(2,.I z),(7,.A .row a),(9,.A .row b),(10,.A .time c),(11,.I d),(12,.B [x.A,x.B]),(13,.A .item q.1),(14,.I q.2)]) (f,g) (rvF Gg) (λq=>(4,[(1,.I y),(2,.I z),(7,.A .row a),(9,.A .row b),(10,.A .time c),(11,.I d),(12,.B [x.A,x.B]),(13,.A .item q)]))
def Kz:=λy z a b c d f x=>pcL (λs:LI×Int=>Nae y z a b c d f x s.1 s.2) (x,0)
def UV(x y:Int)(z a:LR)(b:List Time)(c:Int)(d:Time)(f:LI):TA LR LI:=.sx (Kz x y z a b c d f) (λg=>.l (.n g))
def GL:=λy z a b c d x f=>pcT (UV y z a b c d x f) [0,1,1,0,0,1,0,0,1,0,1,1,1,1,1] [(1,.I y),(2,.I z),(7,.A .row a),(9,.A .row b),(10,.A .time c),(11,.I d),(12,.B [x.A,x.B]),(13,.A .item f)] (rvF Gg) (λq=>[(1,.I y),(2,.I z),(7,.A .row a),(9,.A .row b),(10,.A .time c),(11,.I d),(12,.B [x.A,x.B]),(13,.A .item q)])
def Lz(a _:Int)(_ _:LR)(_:List Time)(_:Int)(b:Time)(y:LI)(z:LR)(x:Int):TX LR (LR×Int) LR:=.c (cmp .lss x (ba .item y)) (.w [inb x (ba .item y),inb x (ba .item y),lim (ba .row z) (ba .row [(aar a (rd .item y x).Val b (rd .item y x).Count)])] (.l (.n ((z++[(aar a (rd .item y x).Val b (rd .item y x).Count)]),(ar .add .i64 x 1)))))
 (.l (.x z))
def Oae:=λx y z h a b c d f g=>pcR (Lz x y z h a b c d f g) [0,0,1,1,1,1,1,0,0,1,0,0,1,0,1,1,1,1,1] (λq=>[(1,.I x),(2,.I y),(7,.A .row z),(9,.A .row q.1),(10,.A .time a),(11,.I b),(12,.B [c.A,c.B]),(13,.A .item d),(15,.I q.2)]) (f,g) (rvF Gg) (λq=>(6,[(1,.I x),(2,.I y),(7,.A .row z),(9,.A .row q),(10,.A .time a),(11,.I b)]))
def Mz:=λy z a x b c d f=>pcL (λs:LR×Int=>Oae y z a x b c d f s.1 s.2) (x,0)
def Nz(z a:Int)(b c:LR)(x:List Time)(y:Int):TA LR LR:=.w [inb y (ba .time x)] (.k (xq b (rd .time x y)) λd=>.w [yq b (rd .time x y),Gz d z a] (.sn (GL z a b c x y (rd .time x y) (Ez d z a)) (λf=>.w [wq f] (.sx (Mz z a b c x y (rd .time x y) (vq f)) (λg=>.l (.n g))))))
def IL:=λx y z c a b=>pcT (Nz x y z c a b) [0,1,0,0,1,0,1,1,1,1,1] [(1,.I x),(2,.I y),(7,.A .row z),(9,.A .row c),(10,.A .time a),(11,.I b)] (rvF Gg) (λq=>[(1,.I x),(2,.I y),(7,.A .row z),(9,.A .row q),(10,.A .time a),(11,.I b)])
def Oz(a b:Int)(c:LR)(y:List Time)(z:LR)(x:Int):TX LR (LR×Int) LR:=.c (cmp .lss x (ba .time y)) (.sn (IL a b c z y x) (λd=>.l (.n (d,(ar .add .i64 x 1)))))
 (.l (.x z))
def Pae:=λx y z a b c=>pcR (Oz x y z a b c) [0,0,1,0,1,1,1,1,1] (λq=>[(1,.I x),(2,.I y),(7,.A .row z),(9,.A .row q.1),(10,.A .time a),(11,.I q.2)]) (b,c) (rvF Gg) (λq=>(2,[(9,.A .row q)]))
def Pz:=λx y z a=>pcL (λs:LR×Int=>Pae x y z a s.1 s.2) ([],0)
def VV(x y:Int)(z:LR)(a:List Time):TA LR LR:=.sx (Pz x y z a) (λb=>.l (.n b))
def ML:=λx y z a=>pcT (VV x y z a) [0,1,1,1,1,1] [(1,.I x),(2,.I y),(7,.A .row z),(9,.A .row []),(10,.A .time a)] (rvF Gg) (λq=>[(9,.A .row q)])
def NL(y:LR)(x z:Int):TN LR:=.sn (DL y x z) (λa=>.w [oz y x] (.sn (ML x z a (nz y x)) (λb=>.l (.r b))))
def Qz(x:LR)(y:Int)(z:Int):LR:=ocR (NL x y z).val
def Rz(x:LR)(y:Int)(z:Int):Prop:=(NL x y z).ob
def PL:Spec:=spF [(.lst .row),(.int .i64),(.int .i64)] (.one (.acc true) (.lst .row)) Qz Rz
theorem Qae(G:Gd Lae):CP 143 PL:=ma (F:=Gg) (fn:=Tryz.f143) G λ_ _=>Yc G [λe=>⟨DL (gL .row e 0 0) (gI e 1 0) (gI e 2 0)⟩,λe=>⟨ML (gI e 1 0) (gI e 2 0) (gL .row e 7 0) (gL .time e 10 0)⟩] ⟨λ_=>ia G (λe=>⟨Iz (gL .row e 0 0) (gI e 1 0) (gI e 2 0)⟩) λ_=>ra λ_=>ia G (λe=>⟨CL (gL .row e 0 0) (gI e 1 0) (gI e 2 0) (gL .row e 7 0) (gI e 8 0)⟩) λ_=>ka G,λ_=>ia G (λe=>⟨Pz (gI e 1 0) (gI e 2 0) (gL .row e 7 0) (gL .time e 10 0)⟩) λ_=>ra λ_=>ia G (λe=>⟨IL (gI e 1 0) (gI e 2 0) (gL .row e 7 0) (gL .row e 9 0) (gL .time e 10 0) (gI e 11 0)⟩) λ_=>Yc G [λe=>⟨GL (gI e 1 0) (gI e 2 0) (gL .row e 7 0) (gL .row e 9 0) (gL .time e 10 0) (gI e 11 0) (Fd e 12) (gL .item e 13 0)⟩,λe=>⟨Mz (gI e 1 0) (gI e 2 0) (gL .row e 7 0) (gL .row e 9 0) (gL .time e 10 0) (gI e 11 0) (Fd e 12) (gL .item e 13 0)⟩] ⟨λ_=>ia G (λe=>⟨Kz (gI e 1 0) (gI e 2 0) (gL .row e 7 0) (gL .row e 9 0) (gL .time e 10 0) (gI e 11 0) (Fd e 12) (gL .item e 13 0)⟩) λ_=>ra λ_=>ia G (λe=>⟨FL (gI e 1 0) (gI e 2 0) (gL .row e 7 0) (gL .row e 9 0) (gL .time e 10 0) (gI e 11 0) (Fd e 12) (gL .item e 13 0) (gI e 14 0)⟩) λ_=>ka G,λ_=>ra λ_=>ka G,trivial⟩,trivial⟩
def Rae:SP:=[(143,PL),(69,rh)]
abbrev QL:Fnn:=⟨[.tmp 4],.one (.acc true) (.lst .row),none,[]⟩
def Sz(z:LR)(a:Int)(y:LR)(x:Int):TX LR (LR×Int) LR:=.c (cmp .lss x 4) (.k (Qz z x a) λb=>.w [Rz z x a,lim (ba .row y) (ba .row b)] (.l (.n ((y++b),(ar .add .i64 x 1)))))
 (.l (.x y))
def Sae:=λx y z a=>pcR (Sz x y z a) [0,0,1,0,1,1] (λq=>[(0,.S .row x),(1,.I y),(5,.A .row q.1),(6,.I q.2)]) (z,a) (rvF QL) (λq=>(0,[(5,.A .row q)]))
def Tz:=λx y=>pcL (λs:LR×Int=>Sae x y s.1 s.2) ([],0)
def WV(x:LR)(y:Int):TA LR LR:=.sx (Tz x y) (λz=>.l (.n z))
def VL:=λx y=>pcT (WV x y) [0,1,1] [(0,.S .row x),(1,.I y),(5,.A .row [])] (rvF QL) (λq=>[(5,.A .row q)])
def WL(y:LR)(z:Int):TN LR:=.sn (VL y z) (λx=>.w [Fg x] (.l (.r (bg x))))
def Uz(x:LR)(y:Int):LR:=ocR (WL x y).val
def Vz(x:LR)(y:Int):Prop:=(WL x y).ob
def XL:Spec:=spF [(.lst .row),(.int .i64)] (.one (.acc true) (.lst .row)) Uz Vz
theorem Tae(G:Gd Rae):CP 125 XL:=ma (F:=QL) (fn:=Tryz.f125) G λ_ _=>ia G (λe=>⟨VL (gL .row e 0 0) (gI e 1 0)⟩) λ_=>ia G (λe=>⟨Tz (gL .row e 0 0) (gI e 1 0)⟩) λ_=>ra λ_=>ka G
abbrev Hg:=Plan->List LR->LR×Bool×Unit
abbrev Ig:=Plan->List LR->Prop
def Wz(v:Hg)(p:Ig):Spec:=⟨[(.st .plan),(.lst .lrow)],.tup [(false,(.lst .row)),(true,.bool)],false,λx=>(v x.1 x.2.1,0),λx=>p x.1 x.2.1⟩
def XV(x:Hg)(y:Ig):SP:=[(103,Wz x y),(123,zK),(69,rh),(73,Qy),(124,RK),(125,XL),(66,pm)]
abbrev xm:Fnn:=⟨[.tmp 4,.tmp 5],.tup [(false,(.lst .row)),(true,.bool)],none,[]⟩
abbrev Uae:=@OkP Tryz.f103 xm
def Xz(c:Hg)(d:Ig)(b:List LR)(_ _:Int)(y:LP)(z:List LR)(x:Int):TX (LR×Bool×Unit) ((List LR)×Int) ((List LR)):=.c (cmp .lss x (ba .plan y)) (.k (c (pE (rd .plan y x)) b) λa=>.w [inb x (ba .plan y),d (pE (rd .plan y x)) b] (.c (!a.2.1) (.l (.r ([],(false,()))))
 (.w [lim (ba .lrow z) (ba .lrow [a.1])] (.l (.n ((z++[a.1]),(ar .add .i64 x 1)))))))
 (.l (.x z))
def Vae:=λd f x y z a b c=>pcR (Xz d f x y z a b c) [0,0,1,0,1,1] (λq=>[(1,.S .lrow x),(2,bxP y z a),(6,.v (.acc false) (.lst .lrow q.1)),(7,.I q.2)]) (b,c) (rvF xm) (λq=>(0,[(1,.S .lrow x),(2,bxP y z a),(6,.v (.acc false) (.lst .lrow q))]))
def Yz:=λx y z a b c=>pcL (λs:(List LR)×Int=>Vae x y z a b c s.1 s.2) ([],0)
def YV(x:Hg)(y:Ig)(z:List LR)(a b:Int)(c:LP):TA (LR×Bool×Unit) ((List LR)):=.sx (Yz x y z a b c) (λd=>.l (.n d))
def YL:=λb c x y z a=>pcT (YV b c x y z a) [0,1,1] [(1,.S .lrow x),(2,bxP y z a),(6,.A .lrow [])] (rvF xm) (λq=>[(1,.S .lrow x),(2,bxP y z a),(6,.v (.acc false) (.lst .lrow q))])
def ZL(_:Hg)(_:Ig)(x:List LR):TA (LR×Bool×Unit) LR:=.w [inb 0 (ba .lrow x),lim (ba .row []) (ba .row (rd .lrow x 0)),inb 1 (ba .lrow x),lim (ba .row ([]++(rd .lrow x 0))) (ba .row (rd .lrow x 1)),Fg (([]++(rd .lrow x 0))++(rd .lrow x 1))] (.l (.n (bg (([]++(rd .lrow x 0))++(rd .lrow x 1)))))
def Zz:=λy z x=>pcT (ZL y z x) [0,1,1,1,1,1,0,1,0,1,1,1,1] [(6,.v (.acc false) (.lst .lrow x))] (rvF xm) (λq=>[(10,.A .row q)])
theorem Wae{x:Hg}{y:Ig}(G:Gd (XV x y)){fr z}:Uae fr (Zz x y z):=Ft G [10] [6,10,64,65,66,67,68,69,70,71,72,73] (ZL x y z)
def aA(b:Hg)(c:Ig)(a:List LR)(z y:Int)(_:LP)(x:List LR):TA (LR×Bool×Unit) LR:=.c (cmp .eql z 1) (.w [inb y (ba .lrow a),lim (ba .row []) (ba .row (rd .lrow a y))] (.l (.n ([]++(rd .lrow a y)))))
 (.c (cmp .eql z 2) (.w [inb 0 (ba .lrow x),Ly (rd .lrow x 0) y] (.l (.n (Ky (rd .lrow x 0) y))))
 (.c (cmp .eql z 3) (.sn (Zz b c x) (λd=>.l (.n d)))
 (.c (cmp .eql z 4) (.w [inb 0 (ba .lrow x),oq (rd .lrow x 0)] (.l (.n (Dk (rd .lrow x 0)))))
 (.c (cmp .eql z 5) (.w [inb 0 (ba .lrow x),inb 1 (ba .lrow x),Yy (rd .lrow x 0) (rd .lrow x 1)] (.l (.n (Xy (rd .lrow x 0) (rd .lrow x 1)))))
 (.w [inb 0 (ba .lrow x),Vz (rd .lrow x 0) y] (.l (.n (Uz (rd .lrow x 0) y))))))))
def aM:=λc d x y z a b=>pcT (aA c d x y z a b) [0,1,1,1,1] [(1,.S .lrow x),(2,bxP y z a),(6,.v (.acc false) (.lst .lrow b)),(10,.A .row [])] (rvF xm) (λq=>[(10,.S .row q)])
def Aq(z:Hg)(a:Ig)(x:Plan)(b:List LR):TN (LR×Bool×Unit):=.sn (YL z a b x.Kind x.Num x.Kids) (λc=>.sn (aM z a b x.Kind x.Num x.Kids c) (λy=>.w [aj y] (.l (.r (y,((Zh y),()))))))
theorem Xae{x:Hg}{y:Ig}(G:Gd (XV x y)):CP 103 (Wz (λz a=>ocR (Aq x y z a).val) (λz a=>(Aq x y z a).ob)):=ma (F:=xm) (fn:=Tryz.f103) G λ_ _=>Yc G [λe=>⟨YL x y (gL .lrow e 1 0) (gI e 2 0) (gI e 2 1) (gL .plan e 2 2)⟩,λe=>⟨aM x y (gL .lrow e 1 0) (gI e 2 0) (gI e 2 1) (gL .plan e 2 2) (gL .lrow e 6 0)⟩] ⟨λ_=>ia G (λe=>⟨Yz x y (gL .lrow e 1 0) (gI e 2 0) (gI e 2 1) (gL .plan e 2 2)⟩) λ_=>ra λ_=>ka G,λ_=>ia G (λe=>⟨Zz x y (gL .lrow e 6 0)⟩) λ_=>Wae G,trivial⟩
def sd:Nat->Hg×Ig
 |0=>(λ_ _=>default,λ_ _=>False)
 |n+1=>(λx y=>ocR (Aq (sd n).1 (sd n).2 x y).val,λx y=>(Aq (sd n).1 (sd n).2 x y).ob)
def bM:Hg:=(sd Ya).1
def cM:Ig:=(sd Ya).2
def ZV:Spec:=Wz bM cM
def Yae:SP:=[(27,Lo),(66,pm),(103,ZV)]
abbrev F72:Fnn:=⟨[.tmp 4,.tmp 5],.tup [(false,(.lst .row)),(true,.bool)],none,[]⟩
def bA(y:List LR)(_ _:Int)(_:LP)(x:Int):TX (LR×Bool×Unit) Int Unit:=.c (cmp .lss x (ba .lrow y)) (.w [inb x (ba .lrow y),aj (rd .lrow y x)] (.c (!(Zh (rd .lrow y x))) (.l (.r ([],(false,()))))
 (.l (.n (ar .add .i64 x 1)))))
 (.l (.x ()))
def Zae:=λx y z a b=>pcR (bA x y z a b) [0,0,1,0,1,1] (λq=>[(1,.S .lrow x),(2,bxP y z a),(6,.I q)]) b (rvF F72) (λ_=>(0,[(1,.S .lrow x),(2,bxP y z a)]))
def cA:=λx y z a=>pcL (λs:Int=>Zae x y z a s) 0
def aW(x:List LR)(y z:Int)(a:LP):TA (LR×Bool×Unit) Unit:=.sx (cA x y z a) (λ_=>.l (.n ()))
def dM:=λx y z a=>pcT (aW x y z a) [0,1,1] [(1,.S .lrow x),(2,bxP y z a)] (rvF F72) (λ_=>[(1,.S .lrow x),(2,bxP y z a)])
def eM(x:Plan)(y:List LR):TN (LR×Bool×Unit):=.w [Rl (pE x)] (.c (cond (!(Ql (pE x))) true (cmp .neq (ba .lrow y) 2)) (.l (.r ([],(false,()))))
 (.sn (dM y x.Kind x.Num x.Kids) (λ_=>.k (bM (pE x) y) λz=>.w [cM (pE x) y] (.c (!z.2.1) (.l (.r ([],(false,()))))
 (.l (.r (z.1,(true,()))))))))
def Bq(x:Plan)(y:List LR):LR×Bool×Unit:=ocR (eM x y).val
def Cq(x:Plan)(y:List LR):Prop:=(eM x y).ob
def fA:Spec:=spF [(.st .plan),(.lst .lrow)] (.tup [(false,(.lst .row)),(true,.bool)]) Bq Cq
theorem aaf(G:Gd Yae):CP 72 fA:=ma (F:=F72) (fn:=Tryz.f72) G λ_ _=>ia G (λe=>⟨dM (gL .lrow e 1 0) (gI e 2 0) (gI e 2 1) (gL .plan e 2 2)⟩) λ_=>ia G (λe=>⟨cA (gL .lrow e 1 0) (gI e 2 0) (gI e 2 1) (gL .plan e 2 2)⟩) λ_=>ra λ_=>ka G
def baf:SP:=[(70,jq),(102,tq)]
abbrev F71:Fnn:=⟨[.tmp 4],.one .fr .bool,none,[]⟩
def iA(y:List Time)(z:Time)(x:Int):TX Bool Int Unit:=.c (cmp .lss x (ba .time y)) (.w [inb x (ba .time y),sq (rd .time y x) z] (.c (wm (rd .time y x) z) (.l (.r true))
 (.l (.n (ar .add .i64 x 1)))))
 (.l (.x ()))
def caf:=λy x z=>pcR (iA y x z) [0,0,1,0,1,1] (λq=>[(0,.S .time y),(3,.B [x.A,x.B]),(5,.I q)]) z (rvF F71) (λ_=>(0,[]))
def jA:=λx y=>pcL (λs:Int=>caf x y s) 0
def bW(x:List Time)(y:Time):TA Bool Unit:=.sx (jA x y) (λ_=>.l (.n ()))
def fM:=λy x=>pcT (bW y x) [0,1,1] [(0,.S .time y),(3,.B [x.A,x.B])] (rvF F71) (λ_=>[])
def gM(x:List Time)(y:Time):TN Bool:=.w [mm x] (.c (!(lm x)) (.l (.r false))
 (.sn (fM x y) (λ_=>.l (.r false))))
def Fk(x:List Time)(y:Time):Bool:=ocR (gM x y).val
def Gk(x:List Time)(y:Time):Prop:=(gM x y).ob
def Dq:Spec:=spF [(.lst .time),(.st .time)] (.one .fr .bool) Fk Gk
theorem daf(G:Gd baf):CP 71 Dq:=ma (F:=F71) (fn:=Tryz.f71) G λ_ _=>ia G (λe=>⟨fM (gL .time e 0 0) (Fd e 3)⟩) λ_=>ia G (λe=>⟨jA (gL .time e 0 0) (Fd e 3)⟩) λ_=>ra λ_=>ka G
def eaf:SP:=[(71,Dq)]
abbrev F67:Fnn:=⟨[.tmp 4],.one .fr (.lst .row),none,[]⟩
def kA(x:LR)(a:List Time)(z:LR)(y:Int):TA LR LR:=.w [inb y (ba .row x),Gk a (rd .row x y).At] (.c (!(Fk a (rd .row x y).At)) (.w [inb y (ba .row x),lim (ba .row z) (ba .row [(rd .row x y)])] (.l (.n (z++[(rd .row x y)]))))
 (.l (.n z)))
def iM:=λx y a z=>pcT (kA x y a z) [0,1,0,0,1,0,1,1] [(0,.S .row x),(1,.S .time y),(5,.A .row a),(6,.I z)] (rvF F67) (λq=>[(0,.S .row x),(1,.S .time y),(5,.A .row q),(6,.I z)])
def lA(y:LR)(a:List Time)(z:LR)(x:Int):TX LR (LR×Int) LR:=.c (cmp .lss x (ba .row y)) (.sn (iM y a z x) (λb=>.l (.n (b,(ar .add .i64 x 1)))))
 (.l (.x z))
def faf:=λx y z a=>pcR (lA x y z a) [0,0,1,0,1,1] (λq=>[(0,.S .row x),(1,.S .time y),(5,.A .row q.1),(6,.I q.2)]) (z,a) (rvF F67) (λq=>(0,[(5,.A .row q)]))
def mA:=λx y=>pcL (λs:LR×Int=>faf x y s.1 s.2) ([],0)
def cW(x:LR)(y:List Time):TA LR LR:=.sx (mA x y) (λz=>.l (.n z))
def jM:=λx y=>pcT (cW x y) [0,1,1] [(0,.S .row x),(1,.S .time y),(5,.A .row [])] (rvF F67) (λq=>[(5,.A .row q)])
def kM(x:LR)(y:List Time):TN LR:=.sn (jM x y) (λz=>.l (.r z))
def ym(x:LR)(y:List Time):LR:=ocR (kM x y).val
def zm(x:LR)(y:List Time):Prop:=(kM x y).ob
def Fq:Spec:=spF [(.lst .row),(.lst .time)] (.one .fr (.lst .row)) ym zm
theorem gaf(G:Gd eaf):CP 67 Fq:=ma (F:=F67) (fn:=Tryz.f67) G λ_ _=>ia G (λe=>⟨jM (gL .row e 0 0) (gL .time e 1 0)⟩) λ_=>ia G (λe=>⟨mA (gL .row e 0 0) (gL .time e 1 0)⟩) λ_=>ra λ_=>ia G (λe=>⟨iM (gL .row e 0 0) (gL .time e 1 0) (gL .row e 5 0) (gI e 6 0)⟩) λ_=>ka G
def haf:SP:=[]
abbrev F98:Fnn:=⟨[.tmp 4],.one .fr .bool,none,[]⟩
def Gq(y z:LR)(x:Int):TX Bool Int Unit:=.c (cmp .lss x (ba .row y)) (.w [inb x (ba .row y),inb x (ba .row z)] (.c (!(cmp .eql (rd .row y x).Key (rd .row z x).Key&&(cmp .eql (rd .row y x).Val (rd .row z x).Val&&(cmp .eql (rd .row y x).At.A (rd .row z x).At.A&&(cmp .eql (rd .row y x).At.B (rd .row z x).At.B&&(cmp .eql (rd .row y x).Diff (rd .row z x).Diff&&true)))))) (.l (.r false))
 (.l (.n (ar .add .i64 x 1)))))
 (.l (.x ()))
def iaf:=λx y z=>pcR (Gq x y z) [0,0,1,0,1,1] (λq=>[(0,.S .row x),(1,.S .row y),(5,.I q)]) z (rvF F98) (λ_=>(0,[]))
def Hq:=λx y=>pcL (λs:Int=>iaf x y s) 0
def lM(x y:LR):TA Bool Unit:=.sx (Hq x y) (λ_=>.l (.n ()))
def Iq:=λx y=>pcT (lM x y) [0,1,1] [(0,.S .row x),(1,.S .row y)] (rvF F98) (λ_=>[])
def Jq(x y:LR):TN Bool:=.c (cmp .neq (ba .row x) (ba .row y)) (.l (.r false))
 (.sn (Iq x y) (λ_=>.l (.r true)))
def Am(x:LR)(y:LR):Bool:=ocR (Jq x y).val
def Bm(x:LR)(y:LR):Prop:=(Jq x y).ob
def mM:Spec:=spF [(.lst .row),(.lst .row)] (.one .fr .bool) Am Bm
theorem jaf(G:Gd haf):CP 98 mM:=ma (F:=F98) (fn:=Tryz.f98) G λ_ _=>ia G (λe=>⟨Iq (gL .row e 0 0) (gL .row e 1 0)⟩) λ_=>ia G (λe=>⟨Hq (gL .row e 0 0) (gL .row e 1 0)⟩) λ_=>ra λ_=>ka G
def kaf:SP:=[(70,jq),(72,fA),(67,Fq),(98,mM)]
abbrev F64:Fnn:=⟨[.tmp 2],.one .fr .bool,none,[]⟩
def nM(x:Sess):TN Bool:=.w [mm x.Front] (.c (!(lm x.Front)) (.l (.r false))
 (.k (Bq (pE x.Plan) x.Ins) λy=>.w [Cq (pE x.Plan) x.Ins] (.k (ym y.1 x.Front) λz=>.w [(y.2.1&&true)=true->(zm y.1 x.Front),(y.2.1&&true)=true->(Bm z x.Told)] (.l (.r (cond y.2.1 (Am z x.Told) false))))))
def ai(x:Sess):Bool:=ocR (nM x).val
def ci(x:Sess):Prop:=(nM x).ob
def Kq:Spec:=spF [(.st .sess)] (.one .fr .bool) ai ci
theorem laf(G:Gd kaf):CP 64 Kq:=ma (F:=F64) (fn:=Tryz.f64) G λ_ _=>ka G
def Lq:SP:=[(39,CJ)]
abbrev F68:Fnn:=⟨[.cell 2 45],.one .sh (.st .sess),none,[]⟩
abbrev oM:=@OkP Tryz.f68 F68
def nA(x y:Int)(z:LP)(_:List LR)(a:List Time)(b:LR):TA Sess (Int×Int×LP×(List Time)×LR):=.w [Mx (aal x y z),lim (ba .time []) (ba .time a),lim (ba .row []) (ba .row b)] (.l (.n ((Oe (aal x y z)).Kind,(Oe (aal x y z)).Num,(Oe (aal x y z)).Kids,([]++a),([]++b))))
def Mq:=λx y z a b c=>pcT (nA x y z a b c) [0,1] [(1,bxS x y z a b c),(2,bx0)] (rvF F68) (λq=>[(1,bxS x y z a b c),(2,bx0),(3,.box [(.fr,.i q.1),(.fr,.i q.2.1),(.sh,.lst .plan q.2.2.1),(.sh,.nl .lrow),(.sh,.lst .time q.2.2.2.1),(.sh,.lst .row q.2.2.2.2)])])
theorem dW(G:Gd Lq){fr x y z a b c}:oM fr (Mq x y z a b c):=Ft G [1,2,3] [1,2,3,5,6,7,8,9,10,11,12,13,14,15,16] (nA x y z a b c)
def oA(_ _:Int)(_:LP)(x:List LR)(_:List Time)(_:LR)(_ _:Int)(_:LP)(z:List LR)(_:List Time)(_:LR)(y:Int):TA Sess ((List LR)):=.w [inb y (ba .lrow x),lim (ba .row []) (ba .row (rd .lrow x y)),lim (ba .lrow z) (ba .lrow [([]++(rd .lrow x y))])] (.l (.n (z++[([]++(rd .lrow x y))])))
def Nq:=λx y z a b c d f g k h i j=>pcT (oA x y z a b c d f g k h i j) [0,0,1,0,0,1,0,1,1] [(1,bxS x y z a b c),(2,bx0),(3,.box [(.fr,.i d),(.fr,.i f),(.sh,.lst .plan g),((.acc false),.lst .lrow k),(.sh,.lst .time h),(.sh,.lst .row i)]),(4,.I j)] (rvF F68) (λq=>[(1,bxS x y z a b c),(2,bx0),(3,.box [(.fr,.i d),(.fr,.i f),(.sh,.lst .plan g),((.acc false),.lst .lrow q),(.sh,.lst .time h),(.sh,.lst .row i)]),(4,.I j)])
theorem maf(G:Gd Lq){fr x y z a b c d f g h i j k}:oM fr (Nq x y z a b c d f g h i j k):=Ft G [1,2,3,4] [1,2,3,4,24,25,26,27,28,29,30,31,32,33,34,35] (oA x y z a b c d f g h i j k)
def Oq(a b:Int)(c:LP)(y:List LR)(d:List Time)(f:LR)(g h:Int)(i:LP)(j:List Time)(k:LR)(z:List LR)(x:Int):TX Sess ((List LR)×Int) ((List LR)):=.c (cmp .lss x (ba .lrow y)) (.sn (Nq a b c y d f g h i z j k x) (λl=>.l (.n (l,(ar .add .i64 x 1)))))
 (.l (.x z))
def eW:=λc d f g h i x y z a b j k=>pcR (Oq c d f g h i x y z a b j k) [0,0,1,0,1,1] (λq=>[(1,bxS c d f g h i),(2,bx0),(3,.box [(.fr,.i x),(.fr,.i y),(.sh,.lst .plan z),((.acc false),.lst .lrow q.1),(.sh,.lst .time a),(.sh,.lst .row b)]),(4,.I q.2)]) (j,k) (rvF F68) (λq=>(0,[(2,bx0),(3,.box [(.fr,.i x),(.fr,.i y),(.sh,.lst .plan z),((.acc false),.lst .lrow q),(.sh,.lst .time a),(.sh,.lst .row b)])]))
def Pq:=λx y z a b c d f g h i=>pcL (λs:(List LR)×Int=>eW x y z a b c d f g h i s.1 s.2) ([],0)
def pA(x y:Int)(z:LP)(a:List LR)(b:List Time)(c:LR)(d f:Int)(g:LP)(h:List Time)(i:LR):TA Sess ((List LR)):=.sx (Pq x y z a b c d f g h i) (λj=>.l (.n j))
def Qq:=λc d f g h i x y z a b=>pcT (pA c d f g h i x y z a b) [0,1,1] [(1,bxS c d f g h i),(2,bx0),(3,.box [(.fr,.i x),(.fr,.i y),(.sh,.lst .plan z),(.sh,.nl .lrow),(.sh,.lst .time a),(.sh,.lst .row b)])] (rvF F68) (λq=>[(2,bx0),(3,.box [(.fr,.i x),(.fr,.i y),(.sh,.lst .plan z),((.acc false),.lst .lrow q),(.sh,.lst .time a),(.sh,.lst .row b)])])
theorem fW(G:Gd Lq){fr x y z a b c d f g h i}:oM fr (Qq x y z a b c d f g h i):=ia G (λe=>⟨Pq (gI e 1 0) (gI e 1 1) (gL .plan e 1 2) (gL .lrow e 1 3) (gL .time e 1 4) (gL .row e 1 5) (gI e 3 0) (gI e 3 1) (gL .plan e 3 2) (gL .time e 3 4) (gL .row e 3 5)⟩) λ_=>ra λ_=>ia G (λe=>⟨Nq (gI e 1 0) (gI e 1 1) (gL .plan e 1 2) (gL .lrow e 1 3) (gL .time e 1 4) (gL .row e 1 5) (gI e 3 0) (gI e 3 1) (gL .plan e 3 2) (gL .lrow e 3 3) (gL .time e 3 4) (gL .row e 3 5) (gI e 4 0)⟩) λ_=>maf G
def Rq(x:Sess):TN Sess:=.sn (Mq x.Plan.Kind x.Plan.Num x.Plan.Kids x.Ins x.Front x.Told) (λy=>.sn (Qq x.Plan.Kind x.Plan.Num x.Plan.Kids x.Ins x.Front x.Told y.1 y.2.1 y.2.2.1 y.2.2.2.1 y.2.2.2.2) (λz=>.l (.r (aan (aal y.1 y.2.1 y.2.2.1) z y.2.2.2.1 y.2.2.2.2))))
def Sd(x:Sess):Sess:=ocR (Rq x).val
def th(x:Sess):Prop:=(Rq x).ob
def qA:Spec:=spF [(.st .sess)] (.one .sh (.st .sess)) Sd th
theorem naf(G:Gd Lq):CP 68 qA:=ma (F:=F68) (fn:=Tryz.f68) G λ_ _=>Yc G [λe=>⟨Mq (gI e 1 0) (gI e 1 1) (gL .plan e 1 2) (gL .lrow e 1 3) (gL .time e 1 4) (gL .row e 1 5)⟩,λe=>⟨Qq (gI e 1 0) (gI e 1 1) (gL .plan e 1 2) (gL .lrow e 1 3) (gL .time e 1 4) (gL .row e 1 5) (gI e 3 0) (gI e 3 1) (gL .plan e 3 2) (gL .time e 3 4) (gL .row e 3 5)⟩] ⟨λ_=>dW G,λ_=>fW G,trivial⟩
def pM:SP:=[(64,Kq),(65,Pl),(66,pm),(67,Fq),(68,qA),(69,rh)]
abbrev F42:Fnn:=⟨[.cell 6 45,.tmp 7],.tup [(false,(.st .sess)),(true,.bool)],none,[]⟩
abbrev gW:=@OkP Tryz.f42 F42
def qM(_:Int)(_:LR)(x y:Int)(z:LP)(a:List LR)(b:List Time)(c:LR):TA (Sess×Bool×Unit) (Int×Int×LP×(List LR)×(List Time)×LR):=.w [th (aan (aal x y z) a b c)] (.l (.n ((Sd (aan (aal x y z) a b c)).Plan.Kind,(Sd (aan (aal x y z) a b c)).Plan.Num,(Sd (aan (aal x y z) a b c)).Plan.Kids,(Sd (aan (aal x y z) a b c)).Ins,(Sd (aan (aal x y z) a b c)).Front,(Sd (aan (aal x y z) a b c)).Told)))
def rA:=λx y z a b c d f=>pcT (qM x y z a b c d f) [0,1,1] [(1,.I x),(2,.S .row y),(3,bxS z a b c d f),(6,bx0)] (rvF F42) (λq=>[(1,.I x),(2,.S .row y),(6,bx0),(8,.box [(.fr,.i q.1),(.fr,.i q.2.1),(.sh,.lst .plan q.2.2.1),((.acc false),.lst .lrow q.2.2.2.1),(.sh,.lst .time q.2.2.2.2.1),(.sh,.lst .row q.2.2.2.2.2)])])
theorem oaf(G:GdB pM 68 Sd th){fr f g x z a b c d}:gW fr (rA f g x z a b c d):=HQ G.g G.b 45 3 32 33 8 [(1,.same),(2,.same),(6,.same),(8,.same)] (qM f g x z a b c d) (y:=aan (aal x z a) b c d)
def rM(x _ _:Int)(_:LP)(y:List LR)(_:List Time)(_ z:LR):TA (Sess×Bool×Unit) ((List LR)):=.w [inb x (ba .lrow y)] (.l (.n (List.set y (aav x) z)))
def sA:=λc x y z d a b f=>pcT (rM c x y z d a b f) [0,1,1,1,1,1] [(1,.I c),(6,bx0),(8,.box [(.fr,.i x),(.fr,.i y),(.sh,.lst .plan z),((.acc false),.lst .lrow d),(.sh,.lst .time a),(.sh,.lst .row b)]),(9,.A .row f)] (rvF F42) (λq=>[(6,bx0),(8,.box [(.fr,.i x),(.fr,.i y),(.sh,.lst .plan z),((.acc false),.lst .lrow q),(.sh,.lst .time a),(.sh,.lst .row b)])])
theorem paf(G:GdB pM 68 Sd th){fr h x a b c d f g}:gW fr (sA h x a b c d f g):=IQ G.g 45 41 43 8 1 9 48 49 50 51 52 [(0,3),(3,1),(4,1),(5,1)] 1 [(6,.same),(8,.same)] (rM h x a b c d f g) (y:=aan (aal x a b) c d f) (kr:=(.acc true)) (z:=g)
def sM(y:Sess)(z:Int)(a:LR):TN (Sess×Bool×Unit):=.k (ai (sE y)) λb=>.k (je z 0 1) λc=>.w [ci (sE y),((!(!b))&&true)=true->(mh z 0 1),((!(cond (!b) true (!c)))&&true)=true->(aj a),((!(cond (cond (!b) true (!c)) true (!(Zh a))))&&true)=true->(zm a y.Front)] (.c (cond (cond (cond (!b) true (!c)) true (!(Zh a))) true (cmp .gtr (ba .row (ym a y.Front)) 0)) (.l (.r ((aan (aal 0 0 []) [] [] []),(false,()))))
 (.sn (rA z a y.Plan.Kind y.Plan.Num y.Plan.Kids y.Ins y.Front y.Told) (λx=>.k (bg (([]++(rd .lrow x.2.2.2.1 z))++a)) λd=>.w [inb z (ba .lrow x.2.2.2.1),lim (ba .row []) (ba .row (rd .lrow x.2.2.2.1 z)),lim (ba .row ([]++(rd .lrow x.2.2.2.1 z))) (ba .row a),Fg (([]++(rd .lrow x.2.2.2.1 z))++a)] (.w [aj d] (.c (!(Zh d)) (.l (.r ((aan (aal 0 0 []) [] [] []),(false,()))))
 (.sn (sA z x.1 x.2.1 x.2.2.1 x.2.2.2.1 x.2.2.2.2.1 x.2.2.2.2.2 d) (λf=>.w [ci (aan (aal x.1 x.2.1 x.2.2.1) f x.2.2.2.2.1 x.2.2.2.2.2)] (.c (!(ai (aan (aal x.1 x.2.1 x.2.2.1) f x.2.2.2.2.1 x.2.2.2.2.2))) (.l (.r ((aan (aal 0 0 []) [] [] []),(false,()))))
 (.l (.r ((aan (aal x.1 x.2.1 x.2.2.1) f x.2.2.2.2.1 x.2.2.2.2.2),(true,()))))))))))))
def Sq(x:Sess)(y:Int)(z:LR):Sess×Bool×Unit:=ocR (sM x y z).val
def Tq(x:Sess)(y:Int)(z:LR):Prop:=(sM x y z).ob
def tM:Spec:=spF [(.st .sess),(.int .i64),(.lst .row)] (.tup [(false,(.st .sess)),(true,.bool)]) Sq Tq
theorem qaf(G:GdB pM 68 Sd th):CP 42 tM:=ma (F:=F42) (fn:=Tryz.f42) G.g λ_ _=>Yc G.g [λe=>⟨rA (gI e 1 0) (gL .row e 2 0) (gI e 3 0) (gI e 3 1) (gL .plan e 3 2) (gL .lrow e 3 3) (gL .time e 3 4) (gL .row e 3 5)⟩,λe=>⟨sA (gI e 1 0) (gI e 8 0) (gI e 8 1) (gL .plan e 8 2) (gL .lrow e 8 3) (gL .time e 8 4) (gL .row e 8 5) (gL .row e 9 0)⟩] ⟨λ_=>oaf G,λ_=>paf G,trivial⟩
def raf:SP:=[]
abbrev F44:Fnn:=⟨[.tmp 2],.one (.acc true) (.lst .time),none,[]⟩
def tA(y:LB)(z:List Time)(x:Int):TX (List Time) ((List Time)×Int) ((List Time)):=.c (cmp .lss (ar .add .i64 x 1) (ba .int y)) (.w [inb x (ba .int y),inb (ar .add .i64 x 1) (ba .int y),lim (ba .time z) (ba .time [(aaq (rd .int y x) (rd .int y (ar .add .i64 x 1)))])] (.l (.n ((z++[(aaq (rd .int y x) (rd .int y (ar .add .i64 x 1)))]),(ar .add .i64 x 2)))))
 (.l (.x z))
def saf:=λx y z=>pcR (tA x y z) [0,0,1,0,1,1] (λq=>[(0,.S .int x),(3,.A .time q.1),(4,.I q.2)]) (y,z) (rvF F44) (λq=>(0,[(3,.A .time q)]))
def uA:=λx=>pcL (λs:(List Time)×Int=>saf x s.1 s.2) ([],0)
def iW(x:LB):TA (List Time) ((List Time)):=.sx (uA x) (λy=>.l (.n y))
def uM:=λx=>pcT (iW x) [0,1,1] [(0,.S .int x),(3,.A .time [])] (rvF F44) (λq=>[(3,.A .time q)])
def vM(x:LB):TN (List Time):=.sn (uM x) (λy=>.l (.r y))
def Uq(x:LB):List Time:=ocR (vM x).val
def vA(x:LB):Prop:=(vM x).ob
def wM:Spec:=spF [(.lst .int)] (.one (.acc true) (.lst .time)) Uq vA
theorem taf(G:Gd raf):CP 44 wM:=ma (F:=F44) (fn:=Tryz.f44) G λ_ _=>ia G (λe=>⟨uM (gL .int e 0 0)⟩) λ_=>ia G (λe=>⟨uA (gL .int e 0 0)⟩) λ_=>ra λ_=>ka G
def jW:SP:=[(64,Kq),(70,jq),(71,Dq),(68,qA),(72,fA),(67,Fq),(73,Qy),(69,rh)]
abbrev F43:Fnn:=⟨[.cell 4 45,.tmp 5,.tmp 6],.tup [(false,(.st .sess)),(false,(.lst .row)),(true,.bool)],none,[]⟩
abbrev uaf:=@OkP Tryz.f43 F43
def wA(y:List Time)(_ _:Int)(_:LP)(_:List LR)(z:List Time)(_:LR)(x:Int):TX (Sess×LR×Bool×Unit) Int Unit:=.c (cmp .lss x (ba .time y)) (.w [inb x (ba .time y),Gk z (rd .time y x)] (.c (!(Fk z (rd .time y x))) (.l (.r ((aan (aal 0 0 []) [] [] []),([],(false,())))))
 (.l (.n (ar .add .i64 x 1)))))
 (.l (.x ()))
def vaf:=λx y z a b c d f=>pcR (wA x y z a b c d f) [0,0,1,0,1,1,1] (λq=>[(1,.S .time x),(2,bxS y z a b c d),(4,bx0),(7,.A .row []),(8,.I q)]) f (rvF F43) (λ_=>(0,[(1,.S .time x),(2,bxS y z a b c d),(4,bx0)]))
def xA:=λx y z a b c d=>pcL (λs:Int=>vaf x y z a b c d s) 0
def kW(x:List Time)(y z:Int)(a:LP)(b:List LR)(c:List Time)(d:LR):TA (Sess×LR×Bool×Unit) Unit:=.sx (xA x y z a b c d) (λ_=>.l (.n ()))
def xM:=λx y z a b c d=>pcT (kW x y z a b c d) [0,1,1,1] [(1,.S .time x),(2,bxS y z a b c d),(4,bx0),(7,.A .row [])] (rvF F43) (λ_=>[(1,.S .time x),(2,bxS y z a b c d),(4,bx0)])
def yM(_ _:Int)(_:LP)(_:List LR)(_:List Time)(x:LR)(_ _:Int)(_:LP)(_:List LR)(_:List Time)(y:LR):TA (Sess×LR×Bool×Unit) LR:=.w [lim (ba .row []) (ba .row y),oq x,lim (ba .row ([]++y)) (ba .row (Dk x)),Fg (([]++y)++(Dk x))] (.l (.n (bg (([]++y)++(Dk x)))))
def yA:=λd f g h i j x y z a b c=>pcT (yM d f g h i j x y z a b c) [0,1,1,1,1,1,1,1,1] [(2,bxS d f g h i j),(4,bx0),(9,.box [(.fr,.i x),(.fr,.i y),(.sh,.lst .plan z),(.sh,.lst .lrow a),((.acc false),.lst .time b),(.fr,.lst .row c)])] (rvF F43) (λq=>[(4,bx0),(9,.box [(.fr,.i x),(.fr,.i y),(.sh,.lst .plan z),(.sh,.lst .lrow a),((.acc false),.lst .time b),(.fr,.lst .row c)]),(12,.A .row q)])
theorem waf(G:Gd jW){fr x y z a b c d f g h i j}:uaf fr (yA x y z a b c d f g h i j):=any_ok G [4,9,12] 45 (yM x y z a b c d f g h i j) rfl rfl rfl (by kernel_rfl) (by kernel_rfl) (by kernel_rfl)
def zM(x:Sess)(y:List Time):TN (Sess×LR×Bool×Unit):=.k (ai (sE x)) λa=>.w [ci (sE x),((!(!a))&&true)=true->(mm y)] (.c (cond (!a) true (!(lm y))) (.l (.r ((aan (aal 0 0 []) [] [] []),([],(false,())))))
 (.sn (xM y x.Plan.Kind x.Plan.Num x.Plan.Kids x.Ins x.Front x.Told) (λ_=>.k (Sd (sE x)) λz=>.w [th (sE x)] (.k (Bq (pE x.Plan) x.Ins) λb=>.w [Cq (pE x.Plan) x.Ins] (.w [lim (ba .time []) (ba .time y)] (.k (ym b.1 y) λc=>.w [zm b.1 y] (.sn (yA x.Plan.Kind x.Plan.Num x.Plan.Kids x.Ins x.Front x.Told z.Plan.Kind z.Plan.Num z.Plan.Kids z.Ins ([]++y) c) (λd=>.l (.r ((aan (pE z.Plan) z.Ins ([]++y) c),(d,(true,()))))))))))))
def zA(x:Sess)(y:List Time):Sess×LR×Bool×Unit:=ocR (zM x y).val
def AA(x:Sess)(y:List Time):Prop:=(zM x y).ob
def AM:Spec:=spF [(.st .sess),(.lst .time)] (.tup [(false,(.st .sess)),(false,(.lst .row)),(true,.bool)]) zA AA
theorem xaf(G:Gd jW):CP 43 AM:=ma (F:=F43) (fn:=Tryz.f43) G λ_ _=>Yc G [λe=>⟨xM (gL .time e 1 0) (gI e 2 0) (gI e 2 1) (gL .plan e 2 2) (gL .lrow e 2 3) (gL .time e 2 4) (gL .row e 2 5)⟩,λe=>⟨yA (gI e 2 0) (gI e 2 1) (gL .plan e 2 2) (gL .lrow e 2 3) (gL .time e 2 4) (gL .row e 2 5) (gI e 9 0) (gI e 9 1) (gL .plan e 9 2) (gL .lrow e 9 3) (gL .time e 9 4) (gL .row e 9 5)⟩] ⟨λ_=>ia G (λe=>⟨xA (gL .time e 1 0) (gI e 2 0) (gI e 2 1) (gL .plan e 2 2) (gL .lrow e 2 3) (gL .time e 2 4) (gL .row e 2 5)⟩) λ_=>ra λ_=>ka G,λ_=>waf G,trivial⟩
def yaf:SP:=[(17,Sl)]
abbrev F45:Fnn:=⟨[.tmp 2],.one .fr .str,none,[]⟩
def CA(y:LR)(z:BA)(x:Int):TX BA (BA×Int) BA:=.c (cmp .lss x (ba .row y)) (.w [inb x (ba .row y)] (.k (xd (rd .row y x).Key) λa=>.k (xd (rd .row y x).Val) λb=>.k (xd (rd .row y x).At.A) λc=>.k (xd (rd .row y x).At.B) λd=>.k (xd (rd .row y x).Diff) λf=>.w [lim (fa z) (fa (bs [32])),Ld (rd .row y x).Key,lim (fa (z++(bs [32]))) (fa a),lim (fa ((z++(bs [32]))++a)) (fa (bs [58])),Ld (rd .row y x).Val,lim (fa (((z++(bs [32]))++a)++(bs [58]))) (fa b),lim (fa ((((z++(bs [32]))++a)++(bs [58]))++b)) (fa (bs [64])),Ld (rd .row y x).At.A,lim (fa (((((z++(bs [32]))++a)++(bs [58]))++b)++(bs [64]))) (fa c),lim (fa ((((((z++(bs [32]))++a)++(bs [58]))++b)++(bs [64]))++c)) (fa (bs [44])),Ld (rd .row y x).At.B,lim (fa (((((((z++(bs [32]))++a)++(bs [58]))++b)++(bs [64]))++c)++(bs [44]))) (fa d),lim (fa ((((((((z++(bs [32]))++a)++(bs [58]))++b)++(bs [64]))++c)++(bs [44]))++d)) (fa (bs [61])),Ld (rd .row y x).Diff,lim (fa (((((((((z++(bs [32]))++a)++(bs [58]))++b)++(bs [64]))++c)++(bs [44]))++d)++(bs [61]))) (fa f)] (.l (.n (((((((((((z++(bs [32]))++a)++(bs [58]))++b)++(bs [64]))++c)++(bs [44]))++d)++(bs [61]))++f),(ar .add .i64 x 1))))))
 (.l (.x z))
def zaf:=λx y z=>pcR (CA x y z) [0,0,1,0,1,1] (λq=>[(0,.S .row x),(3,.v .fr (.str q.1)),(4,.I q.2)]) (y,z) (rvF F45) (λq=>(0,[(3,.v .fr (.str q))]))
def DA:=λx=>pcL (λs:BA×Int=>zaf x s.1 s.2) (aam,0)
def lW(x:LR):TA BA BA:=.sx (DA x) (λy=>.l (.n y))
def BM:=λx=>pcT (lW x) [0,1,1] [(0,.S .row x),(3,.v .fr (.str aam))] (rvF F45) (λq=>[(3,.v .fr (.str q))])
def CM(x:LR):TN BA:=.sn (BM x) (λy=>.l (.r y))
def Vq(x:LR):BA:=ocR (CM x).val
def FA(x:LR):Prop:=(CM x).ob
def DM:Spec:=spF [(.lst .row)] (.one .fr .str) Vq FA
theorem Aaf(G:Gd yaf):CP 45 DM:=ma (F:=F45) (fn:=Tryz.f45) G λ_ _=>ia G (λe=>⟨BM (gL .row e 0 0)⟩) λ_=>ia G (λe=>⟨DA (gL .row e 0 0)⟩) λ_=>ra λ_=>ka G
def Baf:SP:=[(64,Kq),(74,Yi),(71,Dq),(75,Az)]
abbrev F46:Fnn:=⟨[.tmp 4,.tmp 5],.tup [(false,(.lst .item)),(true,.bool)],none,[]⟩
def EM(y:Sess)(x:Time):TN (LI×Bool×Unit):=.k (ai (sE y)) λz=>.w [ci (sE y),((!(!z))&&true)=true->(qh x),((!(cond (!z) true (!(re x))))&&true)=true->(Gk y.Front x)] (.c (cond (cond (!z) true (!(re x))) true (Fk y.Front x)) (.l (.r ([],(false,()))))
 (.w [yq y.Told x] (.l (.r ((xq y.Told x),(true,()))))))
def GA(x:Sess)(y:Time):LI×Bool×Unit:=ocR (EM x y).val
def HA(x:Sess)(y:Time):Prop:=(EM x y).ob
def FM:Spec:=spF [(.st .sess),(.st .time)] (.tup [(false,(.lst .item)),(true,.bool)]) GA HA
theorem Caf(G:Gd Baf):CP 46 FM:=ma (F:=F46) (fn:=Tryz.f46) G λ_ _=>ka G
def Daf:SP:=[(17,Sl)]
abbrev F47:Fnn:=⟨[.tmp 2],.one .fr .str,none,[]⟩
def IA(y:LI)(z:BA)(x:Int):TX BA (BA×Int) BA:=.c (cmp .lss x (ba .item y)) (.k (xd (rd .item y x).Key) λa=>.k (xd (rd .item y x).Val) λb=>.k (xd (rd .item y x).Count) λc=>.w [lim (fa z) (fa (bs [32])),inb x (ba .item y),Ld (rd .item y x).Key,lim (fa (z++(bs [32]))) (fa a),lim (fa ((z++(bs [32]))++a)) (fa (bs [58])),inb x (ba .item y),Ld (rd .item y x).Val,lim (fa (((z++(bs [32]))++a)++(bs [58]))) (fa b),lim (fa ((((z++(bs [32]))++a)++(bs [58]))++b)) (fa (bs [61])),inb x (ba .item y),Ld (rd .item y x).Count,lim (fa (((((z++(bs [32]))++a)++(bs [58]))++b)++(bs [61]))) (fa c)] (.l (.n (((((((z++(bs [32]))++a)++(bs [58]))++b)++(bs [61]))++c),(ar .add .i64 x 1)))))
 (.l (.x z))
def Eaf:=λx y z=>pcR (IA x y z) [0,0,1,0,1,1] (λq=>[(0,.S .item x),(3,.v .fr (.str q.1)),(4,.I q.2)]) (y,z) (rvF F47) (λq=>(0,[(3,.v .fr (.str q))]))
def JA:=λx=>pcL (λs:BA×Int=>Eaf x s.1 s.2) (aam,0)
def mW(x:LI):TA BA BA:=.sx (JA x) (λy=>.l (.n y))
def GM:=λx=>pcT (mW x) [0,1,1] [(0,.S .item x),(3,.v .fr (.str aam))] (rvF F47) (λq=>[(3,.v .fr (.str q))])
def HM(x:LI):TN BA:=.sn (GM x) (λy=>.l (.r y))
def Wq(x:LI):BA:=ocR (HM x).val
def PA(x:LI):Prop:=(HM x).ob
def IM:Spec:=spF [(.lst .item)] (.one .fr .str) Wq PA
theorem Faf(G:Gd Daf):CP 47 IM:=ma (F:=F47) (fn:=Tryz.f47) G λ_ _=>ia G (λe=>⟨GM (gL .item e 0 0)⟩) λ_=>ia G (λe=>⟨JA (gL .item e 0 0)⟩) λ_=>ra λ_=>ka G
def Xq:SP:=[(25,bq),(40,QJ),(24,Nx),(41,TJ),(42,tM),(44,wM),(43,AM),(45,DM),(46,FM),(47,IM)]
abbrev F26:Fnn:=⟨[.cell 4 45,.tmp 5],.tup [(false,(.st .sess)),(true,.str)],none,[]⟩
abbrev RA:=@OkP Tryz.f26 F26
def JM(y z:Int)(a:LP)(b:List LR)(c:List Time)(d:LR)(x:LB)(f g h i j:Int):TA (Sess×BA×Unit) (Int×Int×LP×(List LR)×(List Time)×LR×Bool):=.w [inb 0 (ba .int x),Tq (aan (aal y z a) b c d) (rd .int x 0) [(aar f g (aaq h i) j)]] (.l (.n ((λv=>(v.1.Plan.Kind,v.1.Plan.Num,v.1.Plan.Kids,v.1.Ins,v.1.Front,v.1.Told,v.2.1)) (Sq (aan (aal y z a) b c d) (rd .int x 0) [(aar f g (aaq h i) j)]))))
def SA:=λx y z a b c d f g h i j=>pcT (JM x y z a b c d f g h i j) [0,1,0,1,1,1,0,0,1,1,1,1] [(2,bxS x y z a b c),(4,bx0),(11,.S .int d),(13,.B [f,g,h,i,j])] (rvF F26) (λq=>[(2,bxS x y z a b c),(4,bx0),(14,bxS q.1 q.2.1 q.2.2.1 q.2.2.2.1 q.2.2.2.2.1 q.2.2.2.2.2.1),(15,.O q.2.2.2.2.2.2)])
theorem Gaf(G:Gd Xq){fr x y z a b c d f g h i j}:RA fr (SA x y z a b c d f g h i j):=pure_ok G [2,4,14,15] 11 9 (JM x y z a b c d f g h i j)
def MM(y z:Int)(a:LP)(b:List LR)(c:List Time)(d:LR)(x:LB):TA (Sess×BA×Unit) (Int×Int×LP×(List LR)×(List Time)×LR×LR×Bool):=.w [vA x,AA (aan (aal y z a) b c d) (Uq x)] (.l (.n ((λv=>(v.1.Plan.Kind,v.1.Plan.Num,v.1.Plan.Kids,v.1.Ins,v.1.Front,v.1.Told,v.2.1,v.2.2.1)) (zA (aan (aal y z a) b c d) (Uq x)))))
def VA:=λx y z a b c d=>pcT (MM x y z a b c d) [0,0,1,1,1,1,1,0,0,1,1,1,1] [(2,bxS x y z a b c),(4,bx0),(11,.S .int d)] (rvF F26) (λq=>[(2,bxS x y z a b c),(4,bx0),(16,bxS q.1 q.2.1 q.2.2.1 q.2.2.2.1 q.2.2.2.2.1 q.2.2.2.2.2.1),(17,.S .row q.2.2.2.2.2.2.1),(18,.O q.2.2.2.2.2.2.2)])
theorem Haf(G:Gd Xq){fr x y z a b c d}:RA fr (VA x y z a b c d):=Ft G [2,4,16,17,18] [2,4,11,16,17,18,112,113,114,115,116,117,118,119] (MM x y z a b c d)
def NM(_ _:Int)(_:LP)(_:List LR)(_:List Time)(_ x:LR):TA (Sess×BA×Unit) BA:=.w [FA x,lim (fa (bs [116,111,108,100])) (fa (Vq x))] (.l (.n ((bs [116,111,108,100])++(Vq x))))
def WA:=λx y z a b c d=>pcT (NM x y z a b c d) [0,1,1,0,1,1,1,1,1,0,0,1,1,1,1] [(4,bx0),(16,bxS x y z a b c),(17,.S .row d)] (rvF F26) (λq=>[(4,bxS x y z a b c),(5,.v .fr (.str q))])
theorem Iaf(G:Gd Xq){fr x y z a b c d}:RA fr (WA x y z a b c d):=any_ok G [4,5] 7 (NM x y z a b c d) rfl rfl rfl (by kernel_rfl) (by kernel_rfl) (by kernel_rfl)
def OM(_ _:Int)(_:LP)(_:List LR)(_:List Time)(_:LR)(x:LI):TA (Sess×BA×Unit) BA:=.w [PA x,lim (fa (bs [116,104,101,114,101])) (fa (Wq x))] (.l (.n ((bs [116,104,101,114,101])++(Wq x))))
def XA:=λx y z a b c d=>pcT (OM x y z a b c d) [0,1,1,0,1,1,1,1,1,1,1,0,0,1,1,1,1] [(2,bxS x y z a b c),(4,bx0),(19,.S .item d)] (rvF F26) (λq=>[(4,bxS x y z a b c),(5,.v .fr (.str q))])
theorem Jaf(G:Gd Xq){fr x y z a b c d}:RA fr (XA x y z a b c d):=any_ok G [4,5] 7 (OM x y z a b c d) rfl rfl rfl (by kernel_rfl) (by kernel_rfl) (by kernel_rfl)
def PM(x:Sess)(b:BA):TN (Sess×BA×Unit):=.k (Wh b 32) λa=>.w [Xh b 32] (.w [inb 0 (ba .str a)] (.c (cond (seq (rd .str a 0) (bs [112,108,97,110])) (cmp .gtr (fa b) 5) false) (.k (fq (Jc b 5 (fa b))) λd=>.w [le3 5 (fa b) (fa b),gq (Jc b 5 (fa b))] (.k (Zp (pE d.1)) λf=>.w [aq (pE d.1)] (.c (cond (!d.2.1) true (!f.2.1)) (.l (.r ((sE x),((bs [110,111]),()))))
 (.l (.r ((sE f.1),((bs [112,108,97,110]),())))))))
 (.k (fy a) λy=>.w [iy a] (.c (!y.2.1) (.l (.r ((sE x),((bs [110,111]),()))))
 (.w [inb 0 (ba .str a)] (.c (cond (seq (rd .str a 0) (bs [105,110])) (cmp .eql (ba .int y.1) 6) false) (.w [inb 1 (ba .int y.1),inb 2 (ba .int y.1),inb 3 (ba .int y.1),inb 4 (ba .int y.1),inb 5 (ba .int y.1)] (.sn (SA x.Plan.Kind x.Plan.Num x.Plan.Kids x.Ins x.Front x.Told y.1 (rd .int y.1 1) (rd .int y.1 2) (rd .int y.1 3) (rd .int y.1 4) (rd .int y.1 5)) (λc=>.c (!c.2.2.2.2.2.2) (.l (.r ((sE x),((bs [110,111]),()))))
 (.l (.r ((aan (aal c.1 c.2.1 c.2.2.1) c.2.2.2.1 c.2.2.2.2.1 c.2.2.2.2.2.1),((bs [105,110]),())))))))
 (.w [inb 0 (ba .str a),((seq (rd .str a 0) (bs [111,110]))&&true)=true->(2:Int)≠0] (.c (cond (seq (rd .str a 0) (bs [111,110])) (cmp .eql (ar .rem .i64 (ba .int y.1) 2) 0) false) (.sn (VA x.Plan.Kind x.Plan.Num x.Plan.Kids x.Ins x.Front x.Told y.1) (λz=>.c (!z.2.2.2.2.2.2.2) (.l (.r ((sE x),((bs [110,111]),()))))
 (.sn (WA z.1 z.2.1 z.2.2.1 z.2.2.2.1 z.2.2.2.2.1 z.2.2.2.2.2.1 z.2.2.2.2.2.2.1) (λh=>.l (.r ((aan (aal z.1 z.2.1 z.2.2.1) z.2.2.2.1 z.2.2.2.2.1 z.2.2.2.2.2.1),(h,())))))))
 (.w [inb 0 (ba .str a)] (.c (cond (seq (rd .str a 0) (bs [97,116])) (cmp .eql (ba .int y.1) 2) false) (.k (GA (sE x) (aaq (rd .int y.1 0) (rd .int y.1 1))) λg=>.w [inb 0 (ba .int y.1),inb 1 (ba .int y.1),HA (sE x) (aaq (rd .int y.1 0) (rd .int y.1 1))] (.c (!g.2.1) (.l (.r ((sE x),((bs [110,111]),()))))
 (.sn (XA x.Plan.Kind x.Plan.Num x.Plan.Kids x.Ins x.Front x.Told g.1) (λi=>.l (.r ((sE x),(i,())))))))
 (.l (.r ((sE x),((bs [119,104,97,116]),()))))))))))))))
def YA(x:Sess)(y:BA):Sess×BA×Unit:=ocR (PM x y).val
def ZA(x:Sess)(y:BA):Prop:=(PM x y).ob
def QM:Spec:=spF [(.st .sess),.str] (.tup [(false,(.st .sess)),(true,.str)]) YA ZA
theorem Kaf(G:Gd Xq):CP 26 QM:=ma (F:=F26) (fn:=Tryz.f26) G λ_ _=>Yc G [λe=>⟨SA (gI e 2 0) (gI e 2 1) (gL .plan e 2 2) (gL .lrow e 2 3) (gL .time e 2 4) (gL .row e 2 5) (gL .int e 11 0) (gI e 13 0) (gI e 13 1) (gI e 13 2) (gI e 13 3) (gI e 13 4)⟩,λe=>⟨VA (gI e 2 0) (gI e 2 1) (gL .plan e 2 2) (gL .lrow e 2 3) (gL .time e 2 4) (gL .row e 2 5) (gL .int e 11 0)⟩,λe=>⟨WA (gI e 16 0) (gI e 16 1) (gL .plan e 16 2) (gL .lrow e 16 3) (gL .time e 16 4) (gL .row e 16 5) (gL .row e 17 0)⟩,λe=>⟨XA (gI e 2 0) (gI e 2 1) (gL .plan e 2 2) (gL .lrow e 2 3) (gL .time e 2 4) (gL .row e 2 5) (gL .item e 19 0)⟩] ⟨λ_=>Gaf G,λ_=>Haf G,λ_=>Iaf G,λ_=>Jaf G,trivial⟩
def nW:SP:=[(24,Nx),(25,bq),(26,QM)]
abbrev F10:Fnn:=⟨[.tmp 2],.one .fr .str,none,[]⟩
abbrev Laf:=@OkP Tryz.f10 F10
def VM(z a:Int)(b:LP)(c:List LR)(d:List Time)(f:LR)(_:BA)(x:List BA)(y:Int):TA BA (Int×Int×LP×(List LR)×(List Time)×LR×BA):=.w [inb y (ba .str x),ZA (aan (aal z a b) c d f) (rd .str x y)] (.l (.n ((λv=>(v.1.Plan.Kind,v.1.Plan.Num,v.1.Plan.Kids,v.1.Ins,v.1.Front,v.1.Told,v.2.1)) (YA (aan (aal z a b) c d f) (rd .str x y)))))
def aB:=λx y z a b c d f g=>pcT (VM x y z a b c d f g) [0,1,0,0,1,0,0,1,0,1,1,1,1,1] [(3,bxS x y z a b c),(5,.v .fr (.str d)),(6,.A .str f),(7,.I g)] (rvF F10) (λq=>[(3,bxS x y z a b c),(5,.v .fr (.str d)),(6,.A .str f),(7,.I g),(8,bxS q.1 q.2.1 q.2.2.1 q.2.2.2.1 q.2.2.2.2.1 q.2.2.2.2.2.1),(9,.v .fr (.str q.2.2.2.2.2.2))])
theorem Maf(G:Gd nW){fr x y z a b c d f g}:Laf fr (aB x y z a b c d f g):=pure_ok G [3,5,6,7,8,9] 10 8 (VM x y z a b c d f g)
def oW(b c:Int)(d:LP)(f:List LR)(g:List Time)(h:LR)(y:BA)(z:List BA)(a:Int):TA BA (Int×Int×LP×(List LR)×(List Time)×LR×BA):=.w [inb a (ba .str z)] (.c (seq (rd .str z a) aam) (.l (.n (b,c,d,f,g,h,y)))
 (.sn (aB b c d f g h y z a) (λx=>.w [lim (fa y) (fa x.2.2.2.2.2.2),lim (fa (y++x.2.2.2.2.2.2)) (fa (bs [10]))] (.l (.n (x.1,x.2.1,x.2.2.1,x.2.2.2.1,x.2.2.2.2.1,x.2.2.2.2.2.1,((y++x.2.2.2.2.2.2)++(bs [10]))))))))
def WM:=λz a b c d f g x y=>pcT (oW z a b c d f g x y) [0,1,0,0,1,0,1,1,1,1,1] [(3,bxS z a b c d f),(5,.v .fr (.str g)),(6,.A .str x),(7,.I y)] (rvF F10) (λq=>[(3,bxS q.1 q.2.1 q.2.2.1 q.2.2.2.1 q.2.2.2.2.1 q.2.2.2.2.2.1),(5,.v .fr (.str q.2.2.2.2.2.2)),(6,.A .str x),(7,.I y)])
def bB(_ _:Int)(_:LP)(_:List LR)(_:List Time)(_:LR)(z:List BA)(b c:Int)(d:LP)(f:List LR)(g:List Time)(h:LR)(a:BA)(y:Int):TX BA (Int×Int×LP×(List LR)×(List Time)×LR×BA×Int) BA:=.c (cmp .lss y (ba .str z)) (.sn (WM b c d f g h a z y) (λx=>.l (.n (x.1,x.2.1,x.2.2.1,x.2.2.2.1,x.2.2.2.2.1,x.2.2.2.2.2.1,x.2.2.2.2.2.2,(ar .add .i64 y 1)))))
 (.l (.x a))
def Naf:=λh i j k l m x y z a b c d f g=>pcR (bB h i j k l m x y z a b c d f g) [0,0,1,0,1,1,1,1,1] (λq=>[(3,bxS q.1 q.2.1 q.2.2.1 q.2.2.2.1 q.2.2.2.2.1 q.2.2.2.2.2.1),(5,.v .fr (.str q.2.2.2.2.2.2.1)),(6,.A .str x),(7,.I q.2.2.2.2.2.2.2)]) (y,z,a,b,c,d,f,g) (rvF F10) (λq=>(0,[(5,.v .fr (.str q))]))
def cB:=λx y z a b c d=>pcL (λs:Int×Int×LP×(List LR)×(List Time)×LR×BA×Int=>Naf x y z a b c d s.1 s.2.1 s.2.2.1 s.2.2.2.1 s.2.2.2.2.1 s.2.2.2.2.2.1 s.2.2.2.2.2.2.1 s.2.2.2.2.2.2.2) (x,y,z,a,b,c,aam,0)
def pW(x y:Int)(z:LP)(a:List LR)(b:List Time)(c:LR)(d:List BA):TA BA BA:=.sx (cB x y z a b c d) (λf=>.l (.n f))
def XM:=λx y z a b c d=>pcT (pW x y z a b c d) [0,1,1,1,1,1] [(3,bxS x y z a b c),(5,.v .fr (.str aam)),(6,.A .str d)] (rvF F10) (λq=>[(5,.v .fr (.str q))])
def dB(y:BA):TN BA:=.c (cmp .gtr (fa y) 2000) (.l (.r (bs [116,111,111,32,108,111,110,103,10])))
 (.k (Zp (aal 1 0 [])) λx=>.w [aq (aal 1 0 [])] (.w [Xh y 10] (.sn (XM x.1.Plan.Kind x.1.Plan.Num x.1.Plan.Kids x.1.Ins x.1.Front x.1.Told (Wh y 10)) (λz=>.l (.r z)))))
def eB(x:BA):BA:=ocR (dB x).val
def fB(x:BA):Prop:=(dB x).ob
def qW:Spec:=spF [.str] (.one .fr .str) eB fB
theorem Oaf(G:Gd nW):CP 10 qW:=ma (F:=F10) (fn:=Tryz.f10) G λ_ _=>ia G (λe=>⟨XM (gI e 3 0) (gI e 3 1) (gL .plan e 3 2) (gL .lrow e 3 3) (gL .time e 3 4) (gL .row e 3 5) (gL .str e 6 0)⟩) λ_=>ia G (λe=>⟨cB (gI e 3 0) (gI e 3 1) (gL .plan e 3 2) (gL .lrow e 3 3) (gL .time e 3 4) (gL .row e 3 5) (gL .str e 6 0)⟩) λ_=>ra λ_=>ia G (λe=>⟨WM (gI e 3 0) (gI e 3 1) (gL .plan e 3 2) (gL .lrow e 3 3) (gL .time e 3 4) (gL .row e 3 5) (gS e 5 0) (gL .str e 6 0) (gI e 7 0)⟩) λ_=>ia G (λe=>⟨aB (gI e 3 0) (gI e 3 1) (gL .plan e 3 2) (gL .lrow e 3 3) (gL .time e 3 4) (gL .row e 3 5) (gS e 5 0) (gL .str e 6 0) (gI e 7 0)⟩) λ_=>Maf G
end
section
namespace Ds
open Go
set_option maxRecDepth 100000
section
variable {P:Program}{tt:TT}{N:NP}{fr:Fr}{Cd:Code}{F:Fnn}{R A X Y Z:Type}
theorem go{S:ac R A X Y Z}(h:ld P tt N fr Cd F S)(hob:S.ob){q:A}(ho:S.o=.n q){c:Code}(hc:c=Ba Cd S.path){a:Act}{w:World}(hs:Sim N fr.B fr.IoB fr.W0 fr.F0 S.env a w){Q:Exit->Act->World->Prop}
  (hQ:∀a w,Sim N fr.B fr.IoB fr.W0 fr.F0 (S.pn q) a w->Q .normal a w):c.wp P Q a w:=by
 subst hc;refine wp_mono (h hob a w hs) ?_;rintro ex a w ⟨e',hh,hp⟩;cases ex with
 |normal=>
  obtain⟨q',hq,hw⟩:=hp;rw[ho]at hq;cases hq;exact hQ _ _ (hw _ _ _ _ _ _ _ hh)
 |ret=>
  obtain⟨q',hq,_⟩:=hp;rw[ho]at hq;cases hq
 |exit i=>
  rcases hp with⟨q',hq,_⟩|⟨q',hq,_⟩|⟨q',hq,_⟩<;>(rw[ho]at hq;cases hq)
 |_=>exact hp.elim
end
theorem tO{σ ρ:Type}[Inhabited ρ]{step:σ->Lp σ ρ}{ob:σ->Prop}{G:ρ->Prop}{s:σ}(h:LpT step ob s)(hG:∀s r,step s=.out r->G r):G (lpV step s):=by
 induction h with
 |mk s _ _ ih=>
  cases hs:step s with
  |go s'=>rw[oP hs];exact ih s' hs
  |out r=>rw[nP hs];exact hG s r hs
noncomputable def CS:Code:=pg Tryz.f68
noncomputable def CI:Code:=pg Tryz.f88
theorem conS(G:Gd Lq):xl aas 68 Sd th:=by
 refine⟨⟨Tryz.f68,by kernel_rfl,by kernel_rfl,by kernel_rfl⟩,λy hy W0 F0 us hl hus=>?_⟩;have hh:xe F0 W0 [.st .sess] (y,()) [.agg us.toArray] none:=⟨_,[],rfl,⟨us,rfl,hus⟩,rfl,rfl⟩;refine calls_of_wp (fn:=Tryz.f68) (c:=CS) (by kernel_rfl) (by kernel_rfl) ?_;have hs:=xD (nt:=(Tryz.f68).ntmps) [] hl hh (aaO (by kernel_rfl));obtain⟨h1,h2,_⟩:=(show(Rq y).ob from hy);obtain⟨h3,_⟩:=h2 _ rfl
 obtain⟨l,hi⟩ : ∃l,(pA y.Plan.Kind y.Plan.Num y.Plan.Kids y.Ins y.Front y.Told (Oe (aal y.Plan.Kind y.Plan.Num y.Plan.Kids)).Kind (Oe (aal y.Plan.Kind y.Plan.Num y.Plan.Kids)).Num (Oe (aal y.Plan.Kind y.Plan.Num y.Plan.Kids)).Kids ([]++y.Front) ([]++y.Told)).val=.n l:=by
  obtain⟨h4,_⟩:=h3
  have h5:=tO (G:=λr=>∃l,r=Oc.x l) h4 (λs r hr=>by
   obtain⟨s1,s2⟩:=s
   revert hr
   simp only[eW,pcR,Oq,Nq,oA,pcT,aat];cases cmp .lss s2 (ba .lrow y.Ins) with
   |true=>intro hr;cases hr
   |false=>intro hr;cases hr;exact⟨_,rfl⟩)
  obtain⟨l,h5⟩:=h5;refine⟨l,?_⟩;have h6:(Pq y.Plan.Kind y.Plan.Num y.Plan.Kids y.Ins y.Front y.Told (Oe (aal y.Plan.Kind y.Plan.Num y.Plan.Kids)).Kind (Oe (aal y.Plan.Kind y.Plan.Num y.Plan.Kids)).Num (Oe (aal y.Plan.Kind y.Plan.Num y.Plan.Kids)).Kids ([]++y.Front) ([]++y.Told)).o=.x l:=h5;simp only[pA,aat,h6]
 have hv:Sd y=⟨⟨(Oe (aal y.Plan.Kind y.Plan.Num y.Plan.Kids)).Kind,(Oe (aal y.Plan.Kind y.Plan.Num y.Plan.Kids)).Num,(Oe (aal y.Plan.Kind y.Plan.Num y.Plan.Kids)).Kids⟩,l,[]++y.Front,[]++y.Told⟩:=by
  simp only[Sd,Rq,Mq,nA,Qq,pcT,aat,hi,ocR]
 have hj:=MS.of hs rfl;refine dh (c1:=nav CS [0]) (c2:=nav CS [1]) (by kernel_rfl) ?_;refine MS.regD G (keep:=[1,2]) (e':=[(1,boxS y),(2,Sj)]) (ps:=[]) hj (λa w hs=>?_);show(nav CS [1]).wp _ _ a w;refine wpS ?_;refine go (fr:=⟨W0.heap.size,[],W0,F0⟩) (dW G) h1 rfl (by kernel_rfl) hs.to (λa w hs=>?_);show(nav CS [1,1]).wp _ _ a w;refine wpS ?_;refine go (fr:=⟨W0.heap.size,[],W0,F0⟩) (fW G) h3 hi (by kernel_rfl) hs (λa w hs=>?_);show(nav CS [1,1,1]).wp _ _ a w
 refine GQ G.htt (t:=45) (d:=(lk tt 45).get (by kernel_rfl)) (X:=3) (R:=2) (d0:=36) (fn:=Tryz.f68) (c:=nav CS [1,1,1]) (c1:=nav CS [1,1,1,0]) (c2:=nav CS [1,1,1,1]) (o0:=opN (opsOf (nav CS [1,1,1,0])) 0) (o1:=opN (opsOf (nav CS [1,1,1,0])) 1)
  (by kernel_rfl) (by kernel_rfl) (by kernel_rfl) (by kernel_rfl) (by decide) (by decide) (by decide) (by kernel_rfl) (by kernel_rfl) (by kernel_rfl) (by kernel_rfl) (by kernel_rfl) (by kernel_rfl) (by kernel_rfl) (by kernel_rfl) (by kernel_rfl) (by kernel_rfl) (by kernel_rfl) (by kernel_rfl)
  (y:=Sd y) (by rw[hv];exact hs) (by rw[hs.tmps.size];exact Nat.lt_of_succ_le (aaO (by kernel_rfl))) (λa w hd ⟨vs,F',ob,r1,r2,r3,r4,r5⟩=>⟨hd,_,r1,vs,F',ob,rfl,r2,r3,r4,r5⟩)
theorem conI(G:Gd WI):xl aas 88 Rd ph:=by
 refine⟨⟨Tryz.f88,by kernel_rfl,by kernel_rfl,by kernel_rfl⟩,λy hy W0 F0 us hl hus=>?_⟩;have hh:xe F0 W0 [.st .sess] (y,()) [.agg us.toArray] none:=⟨_,[],rfl,⟨us,rfl,hus⟩,rfl,rfl⟩;refine calls_of_wp (fn:=Tryz.f88) (c:=CI) (by kernel_rfl) (by kernel_rfl) ?_;have hs:=xD (nt:=(Tryz.f88).ntmps) [] hl hh (aaO (by kernel_rfl));obtain⟨⟨q1,q2,q3,_⟩,h3,_⟩:=(show(Tp y).ob from hy)
 obtain⟨l,hi⟩ : ∃l,(Pw y.Plan.Kind y.Plan.Num y.Plan.Kids y.Ins y.Front y.Told (Ee (aal y.Plan.Kind y.Plan.Num y.Plan.Kids)).Kind (Ee (aal y.Plan.Kind y.Plan.Num y.Plan.Kids)).Num (Ee (aal y.Plan.Kind y.Plan.Num y.Plan.Kids)).Kids (Vh y.Front) (oh y.Told)).val=.n l:=by
  obtain⟨h4,_⟩:=h3
  have h5:=tO (G:=λr=>∃l,r=Oc.x l) h4 (λs r hr=>by
   obtain⟨s1,s2⟩:=s
   revert hr
   simp only[CU,pcR,Qp,aat];cases cmp .lss s2 (ba .lrow y.Ins) with
   |true=>intro hr;cases hr
   |false=>intro hr;cases hr;exact⟨_,rfl⟩)
  obtain⟨l,h5⟩:=h5;refine⟨l,?_⟩;have h6:(Rp (Ee (aal y.Plan.Kind y.Plan.Num y.Plan.Kids)).Kind (Ee (aal y.Plan.Kind y.Plan.Num y.Plan.Kids)).Num (Ee (aal y.Plan.Kind y.Plan.Num y.Plan.Kids)).Kids (Vh y.Front) (oh y.Told) y.Ins (ba .lrow y.Ins)).o=.x l:=h5;simp only[Pw,aat,h6]
 have hv:Rd y=⟨⟨(Ee (aal y.Plan.Kind y.Plan.Num y.Plan.Kids)).Kind,(Ee (aal y.Plan.Kind y.Plan.Num y.Plan.Kids)).Num,(Ee (aal y.Plan.Kind y.Plan.Num y.Plan.Kids)).Kids⟩,l,Vh y.Front,oh y.Told⟩:=by
  simp only[Rd,Tp,Sp,pcT,aat,hi,ocR]
 have hj:=MS.of hs rfl;refine dh (c1:=nav CI [0]) (c2:=nav CI [1]) (by kernel_rfl) ?_;refine MS.regD G (keep:=[1,2]) (e':=[(1,boxS y),(2,Sj)]) (ps:=[]) hj (λa w hs=>?_);show(nav CI [1]).wp _ _ a w;refine wpS ?_
 refine MS.regC G (keep:=[1,2,3]) (e':=[(1,boxS y),(2,Sj),(3,.box [(.fr,.i (Ee (aal y.Plan.Kind y.Plan.Num y.Plan.Kids)).Kind),(.fr,.i (Ee (aal y.Plan.Kind y.Plan.Num y.Plan.Kids)).Num),(.sh,.lst .plan (Ee (aal y.Plan.Kind y.Plan.Num y.Plan.Kids)).Kids),(.sh,.nl .lrow),(.sh,.lst .time (Vh y.Front)),(.sh,.lst .row (oh y.Told))])])
  (ps:=[To (aal y.Plan.Kind y.Plan.Num y.Plan.Kids),fm y.Front,uk y.Told]) (by kernel_rfl) ⟨q1,q2,q3,trivial⟩ hs (λa w hs=>?_)
 show(nav CI [1,1]).wp _ _ a w;refine wpS ?_;refine go (fr:=⟨W0.heap.size,[],W0,F0⟩) (DU G) h3 hi (by kernel_rfl) hs.to (λa w hs=>?_);show(nav CI [1,1,1]).wp _ _ a w
 refine GQ G.htt (t:=45) (d:=(lk tt 45).get (by kernel_rfl)) (X:=3) (R:=2) (d0:=31) (fn:=Tryz.f88) (c:=nav CI [1,1,1]) (c1:=nav CI [1,1,1,0]) (c2:=nav CI [1,1,1,1]) (o0:=opN (opsOf (nav CI [1,1,1,0])) 0) (o1:=opN (opsOf (nav CI [1,1,1,0])) 1)
  (by kernel_rfl) (by kernel_rfl) (by kernel_rfl) (by kernel_rfl) (by decide) (by decide) (by decide) (by kernel_rfl) (by kernel_rfl) (by kernel_rfl) (by kernel_rfl) (by kernel_rfl) (by kernel_rfl) (by kernel_rfl) (by kernel_rfl) (by kernel_rfl) (by kernel_rfl) (by kernel_rfl) (by kernel_rfl)
  (y:=Rd y) (by rw[hv];exact hs) (by rw[hs.tmps.size];exact Nat.lt_of_succ_le (aaO (by kernel_rfl))) (λa w hd ⟨vs,F',ob,r1,r2,r3,r4,r5⟩=>⟨hd,_,r1,vs,F',ob,rfl,r2,r3,r4,r5⟩)
end Ds
end
theorem mb(a b:Int):cmp .eql a b=decide (a=b):=by
 show(a == b)=_;by_cases h:a=b<;>simp[h]
theorem jf(a b:Int):cmp .neq a b=!decide (a=b):=by
 show(a != b)=_;by_cases h:a=b<;>simp[h]
theorem Ra(a b:Int):cmp .lss a b=decide (a<b):=rfl
theorem de(a b:Int):cmp .leq a b=decide (a<=b):=rfl
theorem Lb(a b:Int):cmp .gtr a b=decide (b<a):=rfl
theorem vg(a b:Int):cmp .geq a b=decide (b<=a):=rfl
theorem ub{a b:Int}(h : -9223372036854775808<=a+b/\a+b<=9223372036854775807):ar .add .i64 a b=a+b:=aaC _ h
theorem fh{a b:Int}(h : -9223372036854775808<=a - b/\a - b<=9223372036854775807):ar .sub .i64 a b=a - b:=aaC _ h
theorem wg{a b:Int}(h : -9223372036854775808<=a*b/\a*b<=9223372036854775807):ar .mul .i64 a b=a*b:=aaC _ h
theorem Xj(a b:Int):ar .rem .i64 a b=a.tmod b:=rfl
theorem fo{a b:Int}(h:0<=a/\a<=9223372036854775807/\1<=b):ar .quo .i64 a b=a / b:=IntWalk.i64_quo a b h
theorem v6(a b:Int):ar .add .i64 a b=ar .add .i64 b a:=by show aao _ _=aao _ _;rw[Int.add_comm]
theorem sR{t:Ty}{l r:List t.T}{x:t.T}:ba t (l++x::r)=(l.length:Int)+(r.length+1):=by
 unfold ba;simp
theorem Ki{t:Ty}{l r:List t.T}{x:t.T}:rd t (l++x::r) (l.length:Int)=x:=by
 unfold rd;rw[abf,aau];simp
theorem Li{t:Ty}{l r:List t.T}{x:t.T}:inb (l.length:Int) (ba t (l++x::r)):=by
 rw[sR];unfold inb;omega
theorem VE{t:Ty}{l r:List t.T}{x:t.T}:cmp .lss (l.length:Int) (ba t (l++x::r))=true:=by
 rw[sR,Ra];simp;omega
theorem Ha{t:Ty}{l:List t.T}:cmp .lss (l.length:Int) (ba t l)=false:=by
 rw[Ra];simp[ba]
theorem La{t:Ty}{xs l r:List t.T}{x:t.T}(h:xs=l++x::r):xs.length=l.length+(r.length+1)/\rd t xs (l.length:Int)=x/\inb (l.length:Int) (ba t xs)/\cmp .lss (l.length:Int) (ba t xs)=true:=by
 subst h;exact⟨by simp,Ki,Li,VE⟩
theorem Jb{t:Ty}{o:List t.T}{y:t.T}(h:o.length<1099511627776):lim (ba t o) (ba t [y]):=by
 simp only[lim,ba,aaD];omega
theorem WE{t:Ty}{o u:List t.T}(h:o.length+u.length<1099511627776):lim (ba t o) (ba t u):=by
 simp only[lim,ba];omega
theorem Ea{α:Type}{l:List α}(h:l.length<1099511627776):ar .add .i64 (l.length:Int) 1=((l.length+1:Nat):Int):=by
 rw[ub (by omega)];omega
structure la{σ ρ:Type}[Inhabited ρ](step:σ->Lp σ ρ)(ob:σ->Prop)(s:σ)(r:ρ):Prop where
 t:LpT step ob s
 v:lpV step s=r
abbrev ua{R A X Y Z:Type}[Inhabited R](T:A->Tr R A X Y Z)(s:A)(r:Oc Empty R X Y Z):Prop:=la (λs=>na (T s).val) (λs=>(T s).ob) s r
theorem la.out{σ ρ:Type}[Inhabited ρ]{step:σ->Lp σ ρ}{ob:σ->Prop}{s:σ}{r:ρ}(ho:ob s)(h:step s=.out r):la step ob s r:=⟨.mk s ho (λs' hs=>by rw[h]at hs;cases hs),nP h⟩
theorem la.go{σ ρ:Type}[Inhabited ρ]{step:σ->Lp σ ρ}{ob:σ->Prop}{s s':σ}{r:ρ}(ho:ob s)(h:step s=.go s')(hr:la step ob s' r):la step ob s r:=⟨.mk s ho (λs2 hs=>by rw[h]at hs;cases hs;exact hr.t),(oP h).trans hr.v⟩
theorem la.list{σ ρ α β:Type}[Inhabited ρ]{step:σ->Lp σ ρ}{ob:σ->Prop}(xs:List α)(st:Nat->β->σ)(I:List α->β->Prop){Q:ρ->Prop}{s0:σ}{b0:β}(hs:st 0 b0=s0)(h0:I [] b0)
  (hgo:∀l x r b,xs=l++x::r->I l b->ob (st l.length b)/\((∃b',step (st l.length b)=.go (st (l.length+1) b')/\I (l++[x]) b')\/∃q,step (st l.length b)=.out q/\Q q))
  (hout:∀b,I xs b->ob (st xs.length b)/\∃q,step (st xs.length b)=.out q/\Q q):∃q,la step ob s0 q/\Q q:=by
 subst hs
 suffices ∀(r l:List α) (b:β),xs=l++r->I l b->∃q,la step ob (st l.length b) q/\Q q from this xs [] b0 rfl h0
 intro r
 induction r with
 |nil=>
  intro l b hx hI;rw[aba]at hx;subst hx;obtain⟨ho,q,h1,h2⟩:=hout b hI;exact⟨q,.out ho h1,h2⟩
 |cons x r ih=>
  intro l b hx hI;obtain⟨ho,⟨b',h1,h2⟩|⟨q,h1,h2⟩⟩:=hgo l x r b hx hI
  .obtain⟨q,hq,hQ⟩:=ih (l++[x]) b' (by rw[hx,aaN];rfl) h2;rw[aaJ,aaD]at hq;exact⟨q,.go ho h1 hq,hQ⟩
  .exact⟨q,.out ho h1,h2⟩
theorem la.fold{σ ρ α β:Type}[Inhabited ρ]{step:σ->Lp σ ρ}{ob:σ->Prop}(xs:List α)(st:Nat->β->σ)(f:List α->β){fin:ρ}{s0:σ}(hs:st 0 (f [])=s0)
  (hgo:∀l x r,xs=l++x::r->ob (st l.length (f l))/\step (st l.length (f l))=.go (st (l.length+1) (f (l++[x]))))
  (hout:ob (st xs.length (f xs))/\step (st xs.length (f xs))=.out fin):la step ob s0 fin:=by
 subst hs
 obtain⟨q,h1,h2⟩:=la.list (step:=step) (ob:=ob) (Q:=λq=>q=fin) xs st (λl b=>b=f l) (b0:=f []) rfl rfl
  (λl x r b hx hb=>by subst hb;exact⟨(hgo l x r hx).1,.inl ⟨_,(hgo l x r hx).2,rfl⟩⟩)
  (λb hb=>by subst hb;exact⟨hout.1,_,hout.2,rfl⟩)
 rw[h2]at h1;exact h1
theorem XE{α:Type}{lt:α->α->Prop}(irr:∀a,¬ lt a a)(tr:∀ {a b c},lt a b->lt b c->lt a c):∀ {a b:List α},a.Pairwise lt->b.Pairwise lt->(∀x,x∈a↔x∈b)->a=b
 |[],[],_,_,_=>rfl
 |[],y::b,_,_,h=>absurd ((h y).2 (by simp)) (by simp)
 |x::a,[],_,_,h=>absurd ((h x).1 (by simp)) (by simp)
 |x::a,y::b,ha,hb,h=>by
  have ha':=aaw.1 ha;have hh:=aaw.1 hb
  have hi:x=y:=by
   rcases aaA.1 ((h x).1 (by simp)) with e|e
   .exact e
   .rcases aaA.1 ((h y).2 (by simp)) with e2|e2
    .exact e2.symm
    .exact absurd (tr (hh.1 x e) (ha'.1 y e2)) (irr _)
  subst hi;refine congrArg (x::·) (XE irr tr ha'.2 hh.2 λz=>⟨λhz=>?_,λhz=>?_⟩)
  .rcases aaA.1 ((h z).1 (by simp[hz])) with e|e
   .subst e;exact absurd (ha'.1 z hz) (irr _)
   .exact e
  .rcases aaA.1 ((h z).2 (by simp[hz])) with e|e
   .subst e;exact absurd (hh.1 z hz) (irr _)
   .exact e
theorem Kt{a b:MP}(ha:Asc a)(hb:Asc b)(h:∀p,p∈a↔p∈b):a=b:=XE (lt:=λp q:List Int×Int=>ltK p.1 q.1=true) (λp hp=>by rw[rg]at hp;cases hp) (λh1 h2=>Gh h1 h2) ha hb h
def Lc(q:List Int×Int):MP->MP
 |[]=>[q]
 |p::m=>if ltK q.1 p.1=true then q::p::m else if p.1=q.1 then(q.1,ar .add .i64 q.2 p.2)::m else p::Lc q m
def xg(l:List (List Int×Int)):MP:=l.foldl (λm q=>Lc q m) []
theorem YE(q:List Int×Int):∀(m:MP) (k:List Int),k∈oa (Lc q m)↔k=q.1\/k∈oa m
 |[],k=>by simp[Lc,oa]
 |p::m,k=>by
  simp only[Lc];split
  .simp[oa]
  .split
   .rename_i h;simp[oa,h]
   .have:=YE q m k;simp only[oa,abq,aaA]at this⊢;rw[this];constructor
    .rintro (h|h|h)
     .exact .inr (.inl h)
     .exact .inl h
     .exact .inr (.inr h)
    .rintro (h|h|h)
     .exact .inr (.inl h)
     .exact .inl h
     .exact .inr (.inr h)
theorem w6{n:Nat}{q:List Int×Int}{m:MP}(hm:Tb n m)(hq:q.1.length=n):Tb n (Lc q m):=by
 intro p hp;have:p.1∈oa (Lc q m):=aap.2 ⟨p,hp,rfl⟩;rcases (YE q m p.1).1 this with h|h
 .rw[h];exact hq
 .obtain⟨p',h1,h2⟩:=aap.1 h;rw[<-h2];exact hm p' h1
theorem tR{n:Nat}{q:List Int×Int}(hq:q.1.length=n):∀ {m:MP},Asc m->Tb n m->Asc (Lc q m)
 |[],_,_=>by simp[Lc,Asc]
 |p::m,ha,hk=>by
  have ha':=aaw.1 ha;simp only[Lc];split
  .rename_i h;refine aaw.2 ⟨λs hs=>?_,ha⟩;rcases aaA.1 hs with rfl|hs
   .exact h
   .exact Gh h (ha'.1 s hs)
  .split
   .rename_i h1 h2;exact aaw.2 ⟨λs hs=>by show ltK q.1 s.1=true;rw[<-h2];exact ha'.1 s hs,ha'.2⟩
   .rename_i h1 h2
    have hh:ltK p.1 q.1=true:=by
     rcases ct ((hk p (by simp)).trans hq.symm) h2 with h|h
     .exact h
     .exact absurd h h1
    refine aaw.2 ⟨λs hs=>?_,tR hq ha'.2 λs hs=>hk s (by simp[hs])⟩;rcases (YE q m s.1).1 (aap.2 ⟨s,hs,rfl⟩) with h|h
    .rw[h];exact hh
    .obtain⟨s',h1,h2⟩:=aap.1 h;rw[<-h2];exact ha'.1 s' h1
theorem uR{n:Nat}{q:List Int×Int}(hq:q.1.length=n):∀ {m:MP},Asc m->Tb n m->∀k,rb (Lc q m) k=if k=q.1 then(if q.1∈oa m then ar .add .i64 q.2 (rb m k) else q.2) else rb m k
 |[],_,_,k=>by
  simp only[Lc,qg,oa,List.map_nil,List.not_mem_nil,if_false];by_cases h:q.1=k
  .simp[h]
  .simp[h,abv h]
 |p::m,ha,hk,k=>by
  have ha':=aaw.1 ha;simp only[Lc];split
  .rename_i h
   have hi:q.1 ∉ oa (p::m):=by
    intro hm;obtain⟨s,hs,e⟩:=aap.1 hm;rcases aaA.1 hs with rfl|hs
    .rw[e,rg]at h;cases h
    .have:=Gh h (ha'.1 s hs);rw[e,rg]at this;cases this
   rw[if_neg hi,qg];by_cases h2:q.1=k
   .simp[h2]
   .simp[h2,abv h2]
  .split
   .rename_i h1 h2;have hm:q.1∈oa (p::m):=by simp[oa,h2]
    rw[if_pos hm,qg,qg];by_cases h3:q.1=k
    .simp[h3,h2.trans h3]
    .have h4:¬ p.1=k:=λe=>h3 (h2.symm.trans e);simp[h3,abv h3,h4]
   .rename_i h1 h2;rw[qg,uR hq ha'.2 (λs hs=>hk s (by simp[hs])) k,qg];have hh:q.1∈oa (p::m)↔q.1∈oa m:=by simp[oa,abv h2]
    by_cases h3:p.1=k
    .have:¬ k=q.1:=λe=>h2 (h3.trans e);simp[h3,this]
    .simp only[h3,if_false,hh]
theorem z6{n:Nat}{l:List (List Int×Int)}(hk:Tb n l)(hr:∀q∈l,aaW.wrap q.2=q.2):Asc (xg l)/\Tb n (xg l)/\∀k,rb (xg l) k=Ff l k:=by
 suffices ∀(l:List (List Int×Int)) (m:MP),Tb n l->(∀q∈l,aaW.wrap q.2=q.2)->Asc m->Tb n m->Asc (l.foldl (λm q=>Lc q m) m)/\Tb n (l.foldl (λm q=>Lc q m) m) /\
   ∀k,rb (l.foldl (λm q=>Lc q m) m) k=l.foldl (λs q=>if q.1=k then ar .add .i64 s q.2 else s) (rb m k) by
  obtain⟨h1,h2,h3⟩:=this l [] hk hr (by simp[Asc]) (λp hp=>by simp at hp);refine⟨h1,h2,λk=>?_⟩;exact h3 k
 intro l
 induction l with
 |nil=>exact λm _ _ h1 h2=>⟨h1,h2,λ_=>rfl⟩
 |cons q r ih=>
  intro m hl hh ha hm;have hq:=hl q (by simp);obtain⟨h1,h2,h3⟩:=ih (Lc q m) (λp hp=>hl p (by simp[hp])) (λp hp=>hh p (by simp[hp])) (tR hq ha hm) (w6 hm hq);refine⟨h1,h2,λk=>?_⟩;rw[aax,aax,h3 k,uR hq ha hm]
  congr 1
  by_cases h:k=q.1
  .subst h;simp only[if_true];by_cases hmem:q.1∈oa m
   .simp only[hmem,if_true];exact v6 _ _
   .simp only[hmem,if_false];rw[QD hmem];show q.2=aaW.wrap (0+q.2);rw[abt,hh q (by simp)]
  .simp[h,abv h]
theorem vR{f:List Int->List Int}(hf:∀a b,f a=f b->a=b)(l:List (List Int×Int))(k:List Int):Ff (l.map λq=>(f q.1,q.2)) (f k)=Ff l k:=by
 unfold Ff;rw[List.foldl_map]
 congr 1
 funext s q
 by_cases h:q.1=k
 .simp[h]
 .have h2:¬ f q.1=f k:=λe=>h (hf _ _ e);simp[h,h2]
theorem A6{l:List (List Int×Int)}{k:List Int}(h:∀q∈l,q.1≠k):Ff l k=0:=by
 suffices ∀(l:List (List Int×Int)) (s:Int),(∀q∈l,q.1≠k)->l.foldl (λs q=>if q.1=k then ar .add .i64 s q.2 else s) s=s from this l 0 h
 intro l
 induction l with
 |nil=>exact λ_ _=>rfl
 |cons q r ih=>
  intro s h;rw[aax,if_neg (h q (by simp))];exact ih s λp hp=>h p (by simp[hp])
theorem jo{l:List (List Int×Int)}{k:List Int}(h:Ff l k≠0):∃q∈l,q.1=k:=by
 by_cases he:∃q∈l,q.1=k
 .exact he
 .exact absurd (A6 λq hq e=>he ⟨q,hq,e⟩) h
theorem wR{n:Nat}{l:List (List Int×Int)}(hk:Tb n l)(hr:∀q∈l,aaW.wrap q.2=q.2):(xg l).filter (λp=>p.2 != 0)=Xc l:=by
 obtain⟨h1,h2,h3⟩:=z6 hk hr
 have hh:(oa (xg l)).Nodup:=by
  refine List.Pairwise.map _ (λp q h e=>?_) h1;rw[e,rg]at h;cases h
 refine Kt (h1.sublist List.filter_sublist) (Mj hk) λp=>?_;rw[Gf,aaK];constructor
 .rintro⟨a,b⟩;exact⟨by rw[<-h3,bt hh a],by simpa using b⟩
 .rintro⟨a,b⟩;refine⟨?_,by simpa using b⟩;by_cases hm:p.1∈oa (xg l)
  .obtain⟨q,hq,e⟩:=aap.1 hm;have:=bt hh hq;rw[h3,e,<-a]at this;have:q=p:=Prod.ext e this.symm;rwa [this]at hq
  .exact absurd (by rw[a,<-h3,QD hm]) b
theorem xR{n m:Nat}{f:List Int->List Int}(hf:∀a b,f a=f b->a=b)(hn:∀k:List Int,k.length=n->(f k).length=m)
  (hlt:∀a b,a.length=n->b.length=n->ltK (f a) (f b)=ltK a b) {l:List (List Int×Int)} (hk:Tb n l) :
  Xc (l.map λq=>(f q.1,q.2))=(Xc l).map λq=>(f q.1,q.2):=by
 have hi:Tb m (l.map λq=>(f q.1,q.2)):=by
  intro p hp;obtain⟨q,hq,rfl⟩:=aap.1 hp;exact hn _ (hk q hq)
 have hh:∀p∈Xc l,p.1.length=n:=by
  intro p hp;obtain⟨h1,h2⟩:=Gf.1 hp;obtain⟨q,hq,e⟩:=jo (h1▸h2);rw[<-e];exact hk q hq
 refine Kt (Mj hi) ?_ λp=>?_
 .refine abg.2 ((Mj hk).imp_of_mem λ{a b} ha hb h=>?_);show ltK (f a.1) (f b.1)=true;rw[hlt _ _ (hh a ha) (hh b hb)];exact h
 .rw[Gf,aap];constructor
  .rintro⟨h1,h2⟩;obtain⟨q,hq,e⟩:=jo (h1▸h2);obtain⟨q',hj,rfl⟩:=aap.1 hq;have e:f q'.1=p.1:=e;refine⟨(q'.1,p.2),Gf.2 ⟨?_,h2⟩,Prod.ext e rfl⟩;rw[h1,<-e,vR hf]
  .rintro⟨q,hq,rfl⟩;obtain⟨h1,h2⟩:=Gf.1 hq;exact⟨by rw[vR hf];exact h1,h2⟩
structure Yj(b:List Int):Prop where
 byte:∀x∈b,0<=x/\x<=255
 len:b.length<=2000
def Fl(b:List Int)(i:Int):Int:=b.getD i.toNat 0
theorem Q6(b:List Int)(i:Int):rd .byte b i=Fl b i:=rfl
theorem eF{b:List Int}(h:Yj b)(i:Int):0<=Fl b i/\Fl b i<=255:=by
 unfold Fl;rw[aau];cases hg:b[i.toNat]? with
 |none=>simp
 |some x=>exact h.byte x (abb hg)
theorem R6{a b:Int}(ha:0<=a/\a<4611686018427387904)(hb:0<=b/\b<4611686018427387904):0<=xr .i64 a b/\xr .i64 a b<4611686018427387904:=by
 unfold xr;have h1:(aaI 64 a).toNat<2 ^ 62:=by rw[abu];omega
 have h2:(aaI 64 b).toNat<2 ^ 62:=by rw[abu];omega
 have h3:=Nat.xor_lt_two_pow h1 h2;show 0<=aaW.wrap ((aaI 64 a ^^^ aaI 64 b).toNat:Int)/\aaW.wrap ((aaI 64 a ^^^ aaI 64 b).toNat:Int)<4611686018427387904;rw[BitVec.toNat_xor];generalize (aaI 64 a).toNat ^^^ (aaI 64 b).toNat=m at h3;rw[aaC _ (by omega)];omega
theorem ee{b:List Int}(hb:Yj b){p n:Int}(hp:0<=p/\p<=1000000)(hn:1<=n/\n<=1000000) :
  Id (b,p) n/\(ib (b,p) n).2=p+1/\0<=(ib (b,p) n).1/\(ib (b,p) n).1<n:=by
 have h1:ar .add .i64 p 1=p+1:=ub (by omega);have h2:ar .sub .i64 (p+1) 1=p:=by rw[fh (by omega)];omega
 have hj:cmp .lss n 1=false:=by rw[Ra];simp;omega
 have hl:n≠0:=by omega
 have hlen:=hb.len;have hi:ba .byte b=(b.length:Int):=rfl;simp only[Id,ib,SF,aat,aaF,ga];simp only[h1,h2,hj,cond_false,mb,hi,Q6];by_cases h0:(b.length:Int)=0
 .simp only[h0,decide_true,ocR];refine⟨by simp,trivial,abn _,by omega⟩
 .have hL:1<=(b.length:Int):=by omega
  have hh:b≠[]:=by rintro rfl;exact h0 rfl
  by_cases h3:p<(b.length:Int)
  .have hc:cmp .lss p (b.length:Int)=true:=by rw[Ra];simpa using h3
   simp only[h0,decide_false,hc,ocR];have hx:=eF hb p;rw[aaC _ (by omega)];exact⟨by simp[inb,hp.1,h3,hl],trivial,abc _ hx.1,aaL _ (by omega)⟩
  .have hc:cmp .lss p (b.length:Int)=false:=by rw[Ra];simpa using h3
   have hm:ar .mul .i64 p 7=p*7:=wg (by omega);have hk:ar .add .i64 (p*7) 3=p*7+3:=ub (by omega);simp only[h0,decide_false,hc,ocR,hm,hk,Xj];have i1:inb (p.tmod b.length) b.length:=⟨abc _ hp.1,aaL _ (by omega)⟩;have i2:inb ((p*7+3).tmod b.length) b.length:=⟨abc _ (by omega),aaL _ (by omega)⟩;refine⟨by simp[hh,i1,i2,hl],trivial,?_⟩;have x1:=eF hb (p.tmod b.length);have x2:=eF hb ((p*7+3).tmod b.length);generalize Fl b (p.tmod b.length)=y1 at x1⊢;generalize Fl b ((p*7+3).tmod b.length)=y2 at x2⊢;rw[aaC y1 (by omega),aaC y2 (by omega)];have m1:ar .mul .i64 y1 131=y1*131:=wg (by omega);have m2:ar .mul .i64 y2 1117=y2*1117:=wg (by omega);have m3:ar .mul .i64 p 29=p*29:=wg (by omega);have m4:ar .quo .i64 p b.length=p / b.length:=fo (by omega);have q0:0<=p / (b.length:Int):=Int.ediv_nonneg hp.1 (by omega);have q1:p / (b.length:Int)<=p:=Int.ediv_le_self _ hp.1;rw[m4];generalize p / (b.length:Int)=pl at q0 q1⊢;have m5:ar .mul .i64 pl 53=pl*53:=wg (by omega);simp only[m1,m2,m3,m5];rw[ub (a:=y1*131) (b:=y2*1117) (by omega),ub (a:=y1*131+y2*1117) (b:=p*29) (by omega),ub (a:=y1*131+y2*1117+p*29) (b:=pl*53) (by omega)];have hX:0<=y1*131+y2*1117+p*29+pl*53/\y1*131+y2*1117+p*29+pl*53<=1000000000000:=by omega
   generalize y1*131+y2*1117+p*29+pl*53=X at hX⊢;rw[fo (by omega)];have ho:=R6 (a:=X) (b:=X / 64) (by omega) (by omega);exact⟨abc _ ho.1,aaL _ (by omega)⟩
theorem T6{c:List Int}(hc:∀x∈c,0<=x/\x<=255):Yt c/\∃b,Xt c=(b,0)/\Yj b:=by
 have hl:ba .byte c=(c.length:Int):=rfl;simp only[Yt,Xt,QF,gT,MF,pcT,aat,aaF,ga];by_cases h:2000<(c.length:Int)
 .have hg:cmp .gtr (ba .byte c) 2000=true:=by rw[Lb,hl];simpa using h
  have h3:le3 0 2000 (ba .byte c):=⟨by omega,by omega,by rw[hl];omega⟩;simp only[hg,ocR];exact⟨by simp[h3],_,rfl,λx hx=>hc x (abp (List.mem_of_mem_drop hx)),by simp;omega⟩
 .have hg:cmp .gtr (ba .byte c) 2000=false:=by rw[Lb,hl];simpa using h
  simp only[hg,ocR];exact⟨by simp,_,rfl,hc,by omega⟩
def rK(r:Row):List Int:=[r.Key,r.Val,r.At.A,r.At.B]
def chR(xs:List Row):List (List Int×Int):=xs.map λr=>(rK r,r.Diff)
def mkR(p:List Int×Int):Row:=match p.1 with
 |[k,v,a,b]=>⟨k,v,⟨a,b⟩,p.2⟩
 |_=>⟨0,0,⟨0,0⟩,0⟩
def Pa(xs:List Row):List Row:=(Xc (chR xs)).map mkR
theorem U6(xs:List Row):(chR xs).map mkR=xs:=by
 unfold chR;rw[aaU];exact(abe λx _=>rfl).trans (List.map_id xs)
theorem ro(xs:List Row):Tb 4 (chR xs):=by
 intro p hp;obtain⟨r,_,rfl⟩:=aap.1 hp;rfl
theorem V6(x y:List Int)(h:x.length=y.length)(hl:x.length<1099511627776) :
  (ny x y).ob/\(ny x y).o=if ltK x y=true then .r (-1) else if ltK y x=true then .r 1 else .x ():=by
 have hz:(x.zip y).length=x.length:=by rw[List.length_zip];omega
 suffices key:∃q,ua (λs:Int=>Yh x y s) 0 q/\q=if ltK x y=true then .r (-1) else if ltK y x=true then .r 1 else .x () by
  obtain⟨q,h1,h2⟩:=key;exact⟨h1.t,h1.v.trans h2⟩
 refine la.list (x.zip y) (λi (_:Unit)=>(i:Int))
  (λl _=>ltK x y=ltK (x.drop l.length) (y.drop l.length)/\ltK y x=ltK (y.drop l.length) (x.drop l.length))
  (b0:=()) rfl ⟨rfl,rfl⟩ ?_ ?_
 .rintro l ⟨u,v⟩ r ⟨⟩ hx ⟨i1,i2⟩;have hlen:l.length<x.length:=by rw[<-hz,hx];simp
  have hg:(x.zip y)[l.length]? = some (u,v):=by rw[hx];simp
  rw[List.getElem?_zip_eq_some]at hg
  have hu:rd .int x (l.length:Int)=u:=by
   show x.getD (aav l.length) 0=u;rw[abf,aau,hg.1];rfl
  have hv:rd .int y (l.length:Int)=v:=by
   show y.getD (aav l.length) 0=v;rw[abf,aau,hg.2];rfl
  have hh:x.drop l.length=u::x.drop (l.length+1):=by
   rw[abh hlen]
   congr 1
   have:=hg.1;rw[abi hlen]at this;exact aby this
  have hi:y.drop l.length=v::y.drop (l.length+1):=by
   rw[abh (by omega)]
   congr 1
   have:=hg.2;rw[abi (by omega)]at this;exact aby this
  rw[hh,hi]at i1 i2;have hm:cmp .lss (l.length:Int) (ba .int x)=true:=by rw[Ra];simp[ba];omega
  have hj:inb (l.length:Int) (ba .int x):=⟨by omega,by simp[ba];omega⟩;have hk:inb (l.length:Int) (ba .int y):=⟨by omega,by simp[ba];omega⟩;refine⟨by simp[Yh,hm,hj,hk,aaF,ga],?_⟩;show((∃b',na (Yh x y (l.length:Int)).val=_/\_)\/∃q,na (Yh x y (l.length:Int)).val=_/\_);simp only[Yh,aat];rw[hm,hu,hv,Ea (l:=l) (by omega)];rcases Int.lt_trichotomy u v with c|c|c
  .right;refine⟨.r (-1),by rw[show cmp .lss u v=true by rw[Ra];simpa using c];rfl,?_⟩;rw[if_pos (by rw[i1];simp[ltK,c])]
  .left;subst c;refine⟨(),by rw[show cmp .lss u u=false by rw[Ra];simp,show cmp .gtr u u=false by rw[Lb];simp];rfl,?_⟩;rw[aaJ,aaD,i1,i2];simp[ltK]
  .right;refine⟨.r 1,by rw[show cmp .lss u v=false by rw[Ra];simp;omega,show cmp .gtr u v=true by rw[Lb];simpa using c];rfl,?_⟩;rw[if_neg (by rw[i1];simp[ltK];omega),if_pos (by rw[i2];simp[ltK,c])]
 .rintro⟨⟩ ⟨i1,i2⟩;have hm:cmp .lss ((x.zip y).length:Int) (ba .int x)=false:=by rw[Ra,hz];simp[ba]
  refine⟨by simp only[Yh,hm,aaF,ga];simp,.x (),?_,?_⟩
  .show na (Yh x y ((x.zip y).length:Int)).val=_;simp only[Yh,aat];rw[hm];rfl
  .rw[hz,List.drop_length,show x.length=y.length from h,List.drop_length]at i1 i2;rw[i1,i2];rfl
theorem CR(a b:Row):lq a b/\Ck a b=if ltK (rK a) (rK b)=true then -1 else if ltK (rK b) (rK a)=true then 1 else 0:=by
 obtain⟨h1,h2⟩:=V6 (rK a) (rK b) rfl (by simp[rK]);unfold rK at h1 h2⊢;simp only[lq,Ck,fK,dV,dK,pcT,aat,aaF];rw[h2];refine⟨by simp[h1],?_⟩;by_cases c1:ltK [a.Key,a.Val,a.At.A,a.At.B] [b.Key,b.Val,b.At.A,b.At.B]=true
 .rw[if_pos c1,if_pos c1];rfl
 .rw[if_neg c1,if_neg c1];by_cases c2:ltK [b.Key,b.Val,b.At.A,b.At.B] [a.Key,a.Val,a.At.A,a.At.B]=true
  .rw[if_pos c2,if_pos c2];rfl
  .rw[if_neg c2,if_neg c2];rfl
def ic(r:Row):List Row->List Row
 |[]=>[r]
 |y::ys=>if ltK (rK r) (rK y)=true then r::y::ys else if rK y=rK r then⟨r.Key,r.Val,⟨r.At.A,r.At.B⟩,ar .add .i64 r.Diff y.Diff⟩::ys else y::ic r ys
theorem DR(r:Row):∀ys:List Row,chR (ic r ys)=Lc (rK r,r.Diff) (chR ys)
 |[]=>rfl
 |y::ys=>by
  simp only[ic,chR,abq,Lc];split
  .rfl
  .split
   .rfl
   .have:=DR r ys;unfold chR at this;rw[abq,this]
theorem ER(r:Row):∀ys:List Row,(ic r ys).length<=ys.length+1
 |[]=>aaH _
 |y::ys=>by
  have:=ER r ys;simp only[ic];split
  .simp
  .split<;>simp<;>omega
theorem X6(xs:List Row)(r:Row)(hl:xs.length<1000000000000):Ay xs r/\zy xs r=ic r xs:=by
 suffices key:∃q,ua (λs:Int×(List Row)×Bool×Int=>bj xs r s.1 s.2.1 s.2.2.1 s.2.2.2) (r.Diff,[],false,0) q /\
   ∃d out done,q=.x (d,out,done)/\out.length<=xs.length+1/\((done=false/\out++[⟨r.Key,r.Val,⟨r.At.A,r.At.B⟩,d⟩]=ic r xs)\/(done=true/\out=ic r xs)) by
  obtain⟨q,h1,h2⟩:=key;obtain⟨d,out,done,rfl,hp,hd⟩:=h2;have hh:(xy xs r).o=.x (d,out,done):=h1.v;have hr:(xy xs r).ob:=h1.t;have hn:∀y:Row,lim (ba .row out) (ba .row [y]):=λy=>by simp[lim,ba];omega
  simp only[Ay,zy,pK,iV,mK,oK,pcT,aat,aaF];rw[hh];rcases hd with⟨rfl,hd⟩|⟨rfl,hd⟩
  .simp only[nK,Bool.not_false,ocR,aat,aaF,ga];exact⟨by simp[hr,hn],hd⟩
  .simp only[nK,Bool.not_true,ocR,aat,aaF,ga];exact⟨by simp[hr],hd⟩
 refine la.list
  xs (λi (b:Int×List Row×Bool)=>(b.1,b.2.1,b.2.2,(i:Int)))
  (λl b=>b.2.1.length<=l.length+1/\((b.2.2=false/\b.1=r.Diff/\b.2.1=l/\∀rest,ic r (l++rest)=l++ic r rest)\/(b.2.2=true/\∀rest,ic r (l++rest)=b.2.1++rest)))
  (b0:=(r.Diff,[],false)) rfl ⟨by simp,.inl ⟨rfl,rfl,rfl,λ_=>rfl⟩⟩ ?_ ?_
 .rintro l x rest ⟨d,out,done⟩ hx ⟨hp,hI⟩;obtain⟨hlen,hs,hm,hq⟩:=La (t:=.row) hx;have hn:∀(o:List Row) (y:Row),o.length<=out.length+1->lim (ba .row o) (ba .row [y]):=λo y ho=>by simp only[lim,ba,aaD] at *;omega
  have ht:∀d,rK (aar r.Key r.Val (aaq r.At.A r.At.B) d)=rK r:=λ_=>rfl;obtain⟨pc,vc⟩:=CR x (aar r.Key r.Val (aaq r.At.A r.At.B) d);rw[ht]at vc;have hp:out.length<=l.length+1:=hp;show(bj xs r d out done (l.length:Int)).ob/\((∃b',na (bj xs r d out done (l.length:Int)).val=_/\_)\/_);simp only[bj,gV,fV,wy,lK,pcT,aat,aaF,ga];rw[hq,hs,Ea (l:=l) (by omega)];generalize hc:Ck x (aar r.Key r.Val (aaq r.At.A r.At.B) d)=c at vc;have hi:=hn out x (by omega);have hj:=λy=>hn out y (by omega);have hk:=λy z=>hn (out++[y]) z (by simp);rcases hI with⟨rfl,h2,h3,h4⟩|⟨rfl,h4⟩
  .have h2:d=r.Diff:=h2;have h3:out=l:=h3;subst h2 h3;by_cases k1:ltK (rK x) (rK r)=true
   .rw[if_pos k1]at vc;subst vc;refine⟨by simp[Lb,mb,hm,pc,hj],.inl ⟨(r.Diff,out++[x],false),by simp[Lb,mb,na],?_⟩⟩;refine⟨by simp,.inl ⟨rfl,rfl,rfl,λrest=>?_⟩⟩;rw[aaN,h4];have n1:¬ ltK (rK r) (rK x)=true:=λh=>by have:=Gh k1 h;rw[rg]at this;cases this
    have n2:¬ rK x=rK r:=λh=>by rw[h,rg]at k1;cases k1
    show out++ic r (x::rest)=_;simp[ic,n1,n2]
   .rw[if_neg k1]at vc;by_cases k2:ltK (rK r) (rK x)=true
    .rw[if_pos k2]at vc;subst vc;refine⟨by simp[Lb,mb,hm,pc,hj,hk],.inl ⟨(r.Diff,out++[r]++[x],true),by simp[Lb,mb,na],?_⟩⟩;refine⟨by simp,.inr ⟨rfl,λrest=>?_⟩⟩;rw[aaN,h4];show out++ic r (x::rest)=_;simp[ic,k2]
    .rw[if_neg k2]at vc;subst vc
     have he:rK x=rK r:=by
      by_cases e:rK x=rK r
      .exact e
      .rcases ct (a:=rK x) (b:=rK r) rfl e with h|h
       .exact absurd h k1
       .exact absurd h k2
     refine⟨by simp[Lb,mb,hm,pc,hj],.inl ⟨(ar .add .i64 r.Diff x.Diff,out++[⟨r.Key,r.Val,⟨r.At.A,r.At.B⟩,ar .add .i64 r.Diff x.Diff⟩],true),by simp[Lb,mb,na],?_⟩⟩;refine⟨by simp,.inr ⟨rfl,λrest=>?_⟩⟩;rw[aaN,h4];show out++ic r (x::rest)=_;simp[ic,he,rg]
  .refine⟨by simp[hm,pc,hj],.inl ⟨(d,out++[x],true),by simp[na],?_⟩⟩;refine⟨by simp;omega,.inr ⟨rfl,λrest=>?_⟩⟩;rw[aaN,h4];simp
 .rintro⟨d,out,done⟩ ⟨hp,hI⟩;have hq:cmp .lss (xs.length:Int) (ba .row xs)=false:=Ha;show(bj xs r d out done (xs.length:Int)).ob/\∃q,na (bj xs r d out done (xs.length:Int)).val=_/\_;simp only[bj,wy,pcT,aat,aaF];rw[hq];refine⟨by simp,_,rfl,d,out,done,rfl,hp,?_⟩;rcases hI with⟨h1,h2,h3,h4⟩|⟨h1,h4⟩
  .have h2:d=r.Diff:=h2;have h3:out=xs:=h3;have:=h4 [];rw[aba]at this;exact .inl ⟨h1,by rw[h2,h3,this];rfl⟩
  .have:=h4 [];rw[aba,aba]at this;exact .inr ⟨h1,this.symm⟩
theorem Y6(xs:List Row):∀s:List Row,chR (xs.foldl (λs x=>ic x s) s)=(chR xs).foldl (λm q=>Lc q m) (chR s):=by
 induction xs with
 |nil=>exact λ_=>rfl
 |cons x r ih=>
  intro s;rw[aax,ih,DR];rfl
theorem fF(xs:List Row):∀s:List Row,(xs.foldl (λs x=>ic x s) s).length<=s.length+xs.length:=by
 induction xs with
 |nil=>exact λ_=>by simp
 |cons x r ih=>
  intro s;have h1:=ih (ic x s);have h2:=ER x s;rw[aax,aaQ];omega
def InR(n:Int):Prop:=-9223372036854775808<=n/\n<=9223372036854775807
theorem FR{xs:List Row}(hr:∀x∈xs,InR x.Diff):(xs.foldl (λs x=>ic x s) []).filter (λx=>x.Diff != 0)=Pa xs:=by
 have h1:chR (xs.foldl (λs x=>ic x s) [])=xg (chR xs):=Y6 xs []
 have h2:=wR (ro xs) (λq hq=>by
  obtain⟨r,hh,rfl⟩:=aap.1 hq;exact aaC _ (hr r hh))
 have h3:((chR (xs.foldl (λs x=>ic x s) [])).filter (λp=>p.2 != 0)).map mkR=((xg (chR xs)).filter (λp=>p.2 != 0)).map mkR:=by rw[h1]
 rw[h2]at h3;unfold Pa;rw[<-h3];unfold chR;rw[List.filter_map,aaU];exact((abe λx _=>rfl).trans (List.map_id _)).symm
theorem gF{xs:List Row}(hr:∀x∈xs,InR x.Diff):(Pa xs).length<=xs.length:=by
 rw[<-FR hr];have:=fF xs [];have h2:=aaG (λx:Row=>x.Diff != 0) (xs.foldl (λs x=>ic x s) []);simp at this;omega
theorem Mi(xs:List Row)(hl:xs.length<1000000000)(hr:∀x∈xs,InR x.Diff):Fg xs/\bg xs=Pa xs:=by
 have k2:ua (λs:(List Row)×Int=>Cy xs s.1 s.2) ([],0) (.x (xs.foldl (λs x=>ic x s) [])):=by
  refine la.fold xs (λi b=>(b,(i:Int))) (λl=>l.foldl (λs x=>ic x s) []) rfl (λl x r hx=>?_) ?_
  .have hlen:xs.length=l.length+(r.length+1):=by rw[hx];simp
   have hi:=fF l [];simp at hi;obtain⟨p1,p2⟩:=X6 (l.foldl (λs x=>ic x s) []) x (by omega);obtain⟨_,hn,hj,hm⟩:=La (t:=.row) hx;simp only[Cy,hm,hn,Ea (l:=l) (by omega),p2,aat,aaF,ga];exact⟨by simp[hj,p1],by simp[na]⟩
  .have hh:cmp .lss (xs.length:Int) (ba .row xs)=false:=Ha (t:=.row);simp only[Cy,hh,aat,aaF,ga];exact⟨by simp,rfl⟩
 have hi:=fF xs [];simp at hi;generalize hys:xs.foldl (λs x=>ic x s) []=ys at k2 hi
 have k4:ua (λs:(List Row)×Int=>Fy ys s.1 s.2) ([],0) (.x (ys.filter (λx=>x.Diff != 0))):=by
  refine la.fold ys (λi b=>(b,(i:Int))) (λl=>l.filter (λx=>x.Diff != 0)) rfl (λl x r hx=>?_) ?_
  .have hlen:ys.length=l.length+(r.length+1):=by rw[hx];simp
   have hi:=aaG (λx:Row=>x.Diff != 0) l;obtain⟨_,hn,hj,hm⟩:=La (t:=.row) hx;have hk:lim (ba .row (l.filter (λx=>x.Diff != 0))) (ba .row [x]):=Jb (t:=.row) (show(l.filter (λx:Row=>x.Diff != 0)).length<1099511627776 by omega);simp only[Fy,kV,hm,hn,Ea (l:=l) (by omega),jf,Ey,pcT,aat,aaF,ga];by_cases h0:x.Diff=0
   .simp only[h0,decide_true,Bool.not_true];exact⟨by simp[hj],by simp[na,h0,aaM]⟩
   .simp only[h0,decide_false,Bool.not_false];exact⟨by simp[hj,hk],by simp[na,h0,aaM]⟩
  .have hh:cmp .lss (ys.length:Int) (ba .row ys)=false:=Ha (t:=.row);simp only[Fy,hh,Ey,pcT,aat,aaF];exact⟨by simp,rfl⟩
 have a2:(Dy xs).o=.x ys:=k2.v;have b2:(Dy xs).ob:=k2.t;have a4:(Gy ys).o=.x (ys.filter (λx=>x.Diff != 0)):=k4.v;have b4:(Gy ys).ob:=k4.t;rw[<-FR hr,hys];simp only[Fg,bg,vK,jV,lV,a2,a4,ocR,sK,uK,pcT,aat,aaF];exact⟨by simp[b2,b4],trivial⟩
def itR(x:Item):Row:=⟨x.Key,x.Val,⟨0,0⟩,x.Count⟩
def rIt(x:Row):Item:=⟨x.Key,x.Val,x.Diff⟩
theorem iF:∀(a b:List Int),a.length=b.length->ltK (a++[0]) (b++[0])=ltK a b
 |[],[],_=>by simp[ltK]
 |a::r,b::r',h=>by simp only[aaX,ltK];rw[iF r r' (by simpa using h)]
 |[],_::_,h=>by simp at h
 |_::_,[],h=>by simp at h
theorem uo(xs:List Item):Tb 3 (chI xs):=by
 intro p hp;obtain⟨r,_,rfl⟩:=aap.1 hp;rfl
theorem Lt{xs:List Item}{p:List Int×Int}(hp:p∈Xc (chI xs)):∃x∈xs,p.1=kI x:=by
 obtain⟨h1,h2⟩:=Gf.1 hp;obtain⟨q,hq,e⟩:=jo (h1▸h2);obtain⟨x,hx,rfl⟩:=aap.1 hq;exact⟨x,hx,e.symm⟩
theorem GR(xs:List Item):(Pa (xs.map itR)).map rIt=gathI xs:=by
 have h1:chR (xs.map itR)=(chI xs).map λq=>(q.1++[0],q.2):=by
  unfold chR chI;rw[aaU,aaU];rfl
 unfold Pa gathI;rw[h1,xR (n:=3) (m:=4) (f:=λk=>k++[0]) (λa b h=>List.append_cancel_right h) (λk h=>by simp[h]) (λa b ha hb=>iF a b (ha.trans hb.symm)) (uo xs),aaU,aaU];refine abe λp hp=>?_;obtain⟨x,_,e⟩:=Lt hp;show rIt (mkR (p.1++[0],p.2))=mkI p;obtain⟨k,d⟩:=p;have e:k=kI x:=e;subst e;rfl
theorem HR(xs:List Item)(hl:xs.length<100000000)(hr:∀x∈xs,InR x.Count):wq xs/\vq xs=gathI xs:=by
 have k2:ua (λs:(List Row)×Int=>qz xs s.1 s.2) ([],0) (.x (xs.map itR)):=by
  refine la.fold xs (λi b=>(b,(i:Int))) (λl=>l.map itR) rfl (λl x r hx=>?_) ?_
  .obtain⟨hlen,ho,hj,hm⟩:=La (t:=.item) hx;have hk:∀y,lim (ba .row (l.map itR)) (ba .row [y]):=λy=>by simp only[lim,ba,aaD,aay];omega
   simp only[qz,hm,ho,Ea (l:=l) (by omega),aat,aaF,ga];exact⟨by simp[hj,hk],by simp[na,itR]⟩
  .have hh:cmp .lss (xs.length:Int) (ba .item xs)=false:=Ha (t:=.item);simp only[qz,hh,aat,aaF,ga];exact⟨by simp,rfl⟩
 have hn:∀y∈xs.map itR,InR y.Diff:=by
  intro y hy;obtain⟨x,hx,rfl⟩:=aap.1 hy;exact hr x hx
 obtain⟨p1,p2⟩:=Mi (xs.map itR) (by simp;omega) hn;have hi:=gF hn;rw[aay]at hi;generalize hys:Pa (xs.map itR)=ys at p2 hi
 have k4:ua (λs:(List Item)×Int=>tz ys s.1 s.2) ([],0) (.x (ys.map rIt)):=by
  refine la.fold ys (λi b=>(b,(i:Int))) (λl=>l.map rIt) rfl (λl x r hx=>?_) ?_
  .obtain⟨hlen,ho,hj,hm⟩:=La (t:=.row) hx;have hk:∀y,lim (ba .item (l.map rIt)) (ba .item [y]):=λy=>by simp only[lim,ba,aaD,aay];omega
   simp only[tz,hm,ho,Ea (l:=l) (by omega),aat,aaF,ga];exact⟨by simp[hj,hk],by simp[na,rIt]⟩
  .have hh:cmp .lss (ys.length:Int) (ba .row ys)=false:=Ha (t:=.row);simp only[tz,hh,aat,aaF,ga];exact⟨by simp,rfl⟩
 have a2:(rz xs).o=.x (xs.map itR):=k2.v;have b2:(rz xs).ob:=k2.t;have a4:(uz ys).o=.x (ys.map rIt):=k4.v;have b4:(uz ys).ob:=k4.t;rw[<-GR,hys];simp only[wq,vq,nL,EV,FV,a2,p2,a4,ocR,kL,lL,pcT,aat,aaF,ga];exact⟨by simp[b2,b4,p1,p2],trivial⟩
def sumT:List (List Int×Int)->List Int->Int
 |[],_=>0
 |q::r,k=>(if q.1=k then q.2 else 0)+sumT r k
def fe:List (List Int×Int)->Int
 |[]=>0
 |q::r=>(if 0<=q.2 then q.2 else -q.2)+fe r
theorem IR:∀l,0<=fe l
 |[]=>abn _
 |q::r=>by have:=IR r;simp only[fe];split<;>omega
theorem JR:∀l k,sumT l k<=fe l/\-fe l<=sumT l k
 |[],k=>by simp[sumT,fe]
 |q::r,k=>by
  have:=JR r k;simp only[fe,sumT];split<;>split<;>omega
theorem Z6{l:List (List Int×Int)}(h:fe l<=1000000000000000)(k:List Int):Ff l k=sumT l k:=by
 suffices ∀(l:List (List Int×Int)) (s B:Int),B+fe l<=1000000000000000->s<=B/\-B<=s->l.foldl (λs q=>if q.1=k then ar .add .i64 s q.2 else s) s=s+sumT l k by
  have:=this l 0 0 (by omega) (by omega);unfold Ff;rw[this,abt]
 intro l
 induction l with
 |nil=>intro s B _ _;simp[sumT]
 |cons q r ih=>
  intro s B h1 h2;have hn:=IR r;simp only[fe]at h1;rw[aax]
  have key:∀t:Int,(if q.1=k then ar .add .i64 s q.2 else s)=t->(t=s+(if q.1=k then q.2 else 0))->(r.foldl (λs q=>if q.1=k then ar .add .i64 s q.2 else s) (if q.1=k then ar .add .i64 s q.2 else s))=s+sumT (q::r) k:=by
   intro t h3 h4;rw[h3,ih t (B+(if 0<=q.2 then q.2 else -q.2)) (by split at h1<;>split<;>omega) (by split at h4<;>split<;>omega),h4];simp only[sumT];omega
  refine key _ rfl ?_;by_cases hq:q.1=k
  .rw[if_pos hq,if_pos hq,ub];split at h1<;>omega
  .rw[if_neg hq,if_neg hq,Int.add_zero]
def Small(c:Int)(xs:List Item):Prop:=∀x∈xs,-c<=x.Count/\x.Count<=c
theorem Small.mono{c d:Int}{xs:List Item}(h:Small c xs)(hc:c<=d):Small d xs:=λx hx=>by have:=h x hx;omega
theorem MR{c:Int}:∀ {xs:List Item},Small c xs->fe (chI xs)<=(xs.length:Int)*c
 |[],_=>by simp[chI,fe]
 |x::r,h=>by
  have h1:=MR (xs:=r) (λy hy=>h y (by simp[hy]));have h2:=h x (by simp);show(if 0<=x.Count then x.Count else -x.Count)+fe (chI r)<=_;rw[aaQ,Int.natCast_add,Int.add_mul];split<;>omega
theorem c7{c:Int}{xs:List Item}(h:Small c xs)(hb:(xs.length:Int)*c<=1000000000000):Small ((xs.length:Int)*c) (gathI xs):=by
 intro y hy;obtain⟨p,hp,rfl⟩:=aap.1 hy;obtain⟨x,_,e⟩:=Lt hp;obtain⟨h1,_⟩:=Gf.1 hp;have h2:=MR h
 have hc:(mkI p).Count=p.2:=by
  obtain⟨k,d⟩:=p;have e:k=kI x:=e;subst e;rfl
 rw[hc,h1,Z6 (by omega)];have:=JR (chI xs) p.1;omega
theorem d7{xs:List Item}(h:∀x∈xs,InR x.Count):(gathI xs).length<=xs.length:=by
 rw[<-GR,aay];have:=gF (xs:=xs.map itR) (λy hy=>by obtain⟨x,hx,rfl⟩:=aap.1 hy;exact h x hx);simpa using this
theorem Gl(a b c:Int):mh a b c:=trivial
theorem Hl(a b c:Int):je a b c=(decide (b<=a)&&decide (a<=c)):=by
 show cond (cmp .geq a b) (cmp .leq a c) false=_;rw[vg,de];cases decide (b<=a)<;>rfl
theorem Lh(t:Time):qh t:=⟨⟨Gl _ _ _,λ_=>Gl _ _ _,trivial⟩,trivial⟩
theorem vo(s t:Time):sq s t:=⟨⟨Lh _,λ_=>Lh _,trivial⟩,trivial⟩
theorem g7(r:Row):YJ r:=⟨⟨Gl _ _ _,λ_=>Gl _ _ _,λ_=>Lh _,λ_=>Gl _ _ _,trivial⟩,trivial⟩
theorem la.down{σ ρ β:Type}[Inhabited ρ]{step:σ->Lp σ ρ}{ob:σ->Prop}(st:Nat->β->σ)(I:Nat->β->Prop){Q:ρ->Prop}{n0:Nat}{b0:β}{s0:σ}(hs:st n0 b0=s0)(h0:I n0 b0)
  (hgo:∀n b,n+1<=n0->I (n+1) b->ob (st (n+1) b)/\∃b',step (st (n+1) b)=.go (st n b')/\I n b')
  (hout:∀b,I 0 b->ob (st 0 b)/\∃q,step (st 0 b)=.out q/\Q q):∃q,la step ob s0 q/\Q q:=by
 subst hs
 suffices ∀(n:Nat) (b:β),n<=n0->I n b->∃q,la step ob (st n b) q/\Q q from this n0 b0 (aaH _) h0
 intro n
 induction n with
 |zero=>
  intro b _ hI;obtain⟨ho,q,h1,h2⟩:=hout b hI;exact⟨q,.out ho h1,h2⟩
 |succ n ih=>
  intro b hn hI;obtain⟨ho,b',h1,h2⟩:=hgo n b hn hI;obtain⟨q,hq,hQ⟩:=ih b' (by omega) h2;exact⟨q,.go ho h1 hq,hQ⟩
def okI(x:Item):Bool:=decide (0<=x.Key/\x.Key<=3/\0<=x.Val/\x.Val<=99/\x.Count≠0/\-1099511627776<=x.Count/\x.Count<=1099511627776)
def jF:Option Item->Item->Bool
 |none,_=>false
 |some y,x=>decide (x.Key<y.Key\/(y.Key=x.Key/\x.Val<=y.Val))
def okR:Option Item->List Item->Bool
 |_,[]=>true
 |y,x::r=>okI x&&(!jF y x&&okR (some x) r)
def NR(s:List Item):Bool:=okR none s&&decide (s.length<=400)
theorem last_cases{α:Type}(l:List α):(l=[]/\l.getLast? = none)\/∃l' y,l=l'++[y]/\l.getLast? = some y:=by
 rcases List.eq_nil_or_concat l with h|⟨l',y,h⟩
 .exact .inl ⟨h,by rw[h];rfl⟩
 .exact .inr ⟨l',y,by rw[h,List.concat_eq_append],by rw[h];simp⟩
def md(xs:List Item):List Item:=(xs.filter λx=>decide (0<x.Count)).map λx=>⟨x.Key,x.Val,1⟩
theorem PR(xs:List Item)(hl:xs.length<1000000000):Bp xs/\bm xs=md xs:=by
 have k2:ua (λs:(List Item)×Int=>cw xs (ba .item xs) s.1 s.2) ([],0) (.x (md xs)):=by
  refine la.fold xs (λi b=>(b,(i:Int))) md rfl (λl x r hx=>?_) ?_
  .obtain⟨hlen,hm,hi,hk⟩:=La (t:=.item) hx;have ho:(md l).length<=l.length:=by unfold md;rw[aay];exact aaG _ _
   have hj:∀y,lim (ba .item (md l)) (ba .item [y]):=λy=>Jb (t:=.item) (show(md l).length<1099511627776 by omega);simp only[cw,oU,hk,hm,Ea (l:=l) (by omega),Lb,bw,pcT,aat,aaF,ga];by_cases h0:0<x.Count
   .simp only[h0,decide_true];exact⟨by simp[hi,hj],by simp[na,md,h0,aaM]⟩
   .simp only[h0,decide_false];exact⟨by simp[hi],by simp[na,md,h0,aaM]⟩
  .have hh:cmp .lss (xs.length:Int) (ba .item xs)=false:=Ha (t:=.item);simp only[cw,hh,bw,pcT,aat,aaF];exact⟨by simp,rfl⟩
 have a2:(dw xs (ba .item xs)).o=.x (md xs):=k2.v;have b2:(dw xs (ba .item xs)).ob:=k2.t;simp only[Bp,bm,bI,pU,a2,ocR,aI,pcT,aat,aaF];exact⟨by simp[b2],trivial⟩
def sumF(φ:List Int->Bool):List (List Int×Int)->Int
 |[]=>0
 |q::r=>(if φ q.1=true then q.2 else 0)+sumF φ r
theorem ZE:∀(l l':List (List Int×Int)) (k:List Int),sumT (l++l') k=sumT l k+sumT l' k
 |[],l',k=>by simp[sumT]
 |q::r,l',k=>by have:=ZE r l' k;simp only[aaX,sumT,this];omega
theorem aF(k:List Int):∀l,sumT l k=sumF (λx=>decide (x=k)) l
 |[]=>rfl
 |q::r=>by simp only[sumT,sumF,aF k r,decide_eq_true_eq]
theorem yR(φ:List Int->Bool):∀m:MP,sumF φ (m.filter λp=>p.2 != 0)=sumF φ m/\fe (m.filter λp=>p.2 != 0)=fe m
 |[]=>⟨rfl,rfl⟩
 |p::m=>by
  obtain⟨h1,h2⟩:=yR φ m;by_cases h:p.2=0
  .simp[h,sumF,fe,h1,h2]
  .simp[h,sumF,fe,h1,h2]
theorem ko(xs:List Item):chI (gathI xs)=Xc (chI xs):=by
 unfold gathI
 have:∀m:MP,(∀p∈m,∃x∈xs,p.1=kI x)->chI (m.map mkI)=m:=by
  intro m
  induction m with
  |nil=>exact λ_=>rfl
  |cons p m ih=>
   intro h;obtain⟨x,_,e⟩:=h p (by simp);show(kI (mkI p),(mkI p).Count)::chI (m.map mkI)=_;rw[ih λq hq=>h q (by simp[hq])];obtain⟨k,d⟩:=p;have e:k=kI x:=e;subst e;rfl
 exact this _ λp hp=>Lt hp
theorem B6{xs:List Row}{p:List Int×Int}(hp:p∈Xc (chR xs)):∃x∈xs,p.1=rK x:=by
 obtain⟨h1,h2⟩:=Gf.1 hp;obtain⟨q,hq,e⟩:=jo (h1▸h2);obtain⟨x,hx,rfl⟩:=aap.1 hq;exact⟨x,hx,e.symm⟩
theorem C6(a b:List Item):chI (a++b)=chI a++chI b:=abk
theorem D6(a b:List Row):chR (a++b)=chR a++chR b:=abk
def vd(s t:Time):Bool:=decide (s.A<=t.A)&&decide (s.B<=t.B)
def Za(L:List Row)(t:Time):List Item:=(L.filter λr=>vd r.At t).map rIt
def qc(L:List Row)(t:Time):List Item:=gathI (Za L t)
theorem bF(a b:List Row)(t:Time):Za (a++b) t=Za a t++Za b t:=by simp[Za]
def yg(x y:Row):Prop:=ltK (rK x) (rK y)=true
def Eqm(a b:Int):Prop:=∃q:Int,a=b+q*18446744073709551616
theorem Eqm.refl(a:Int):Eqm a a:=⟨0,by omega⟩
theorem Eqm.of{a b:Int}(h:a=b):Eqm a b:=⟨0,by omega⟩
theorem Eqm.symm{a b:Int}(h:Eqm a b):Eqm b a:=by obtain⟨q,h⟩:=h;exact⟨-q,by omega⟩
theorem Eqm.trans{a b c:Int}(h:Eqm a b)(h':Eqm b c):Eqm a c:=by
 obtain⟨q,h⟩:=h;obtain⟨p,h'⟩:=h';exact⟨q+p,by omega⟩
theorem Eqm.add{a b c d:Int}(h:Eqm a b)(h':Eqm c d):Eqm (a+c) (b+d):=by
 obtain⟨q,h⟩:=h;obtain⟨p,h'⟩:=h';exact⟨q+p,by omega⟩
theorem Eqm.neg{a b:Int}(h:Eqm a b):Eqm (-a) (-b):=by obtain⟨q,h⟩:=h;exact⟨-q,by omega⟩
theorem Eqm.eq{a b:Int}(h:Eqm a b)(ha:InR a)(hb:InR b):a=b:=by
 obtain⟨q,h⟩:=h;unfold InR at ha hb;omega
theorem mo(n:Int):Eqm (aao .i64 n) n:=by
 rw[abw];exact⟨-((n+9223372036854775808) / 18446744073709551616),by omega⟩
theorem po(n:Int):InR (aao .i64 n):=by
 rw[abw];unfold InR;omega
theorem cF{n:Int}(h:InR n):aao .i64 n=n:=aaC _ h
theorem Eqm.wrap{a b:Int}(h:Eqm a b):aao .i64 a=aao .i64 b:=((mo a).trans (h.trans (mo b).symm)).eq (po a) (po b)
theorem qo(l:List (List Int×Int))(k:List Int):Eqm (Ff l k) (sumT l k)/\InR (Ff l k):=by
 suffices ∀(l:List (List Int×Int)) (s:Int),InR s->Eqm (l.foldl (λs q=>if q.1=k then ar .add .i64 s q.2 else s) s) (s+sumT l k)/\InR (l.foldl (λs q=>if q.1=k then ar .add .i64 s q.2 else s) s) by
  have:=this l 0 (by unfold InR;omega);rw[abt]at this;exact this
 intro l
 induction l with
 |nil=>intro s hs;exact⟨Eqm.of (by simp[sumT]),hs⟩
 |cons q r ih=>
  intro s hs;rw[aax];simp only[sumT];by_cases hq:q.1=k
  .simp only[hq,if_true];obtain⟨h1,h2⟩:=ih (ar .add .i64 s q.2) (po _);refine⟨h1.trans ?_,h2⟩;have h3:Eqm (ar .add .i64 s q.2) (s+q.2):=mo _;exact(h3.add (Eqm.refl _)).trans (Eqm.of (by omega))
  .simp only[hq,if_false];obtain⟨h1,h2⟩:=ih s hs;exact⟨h1.trans (Eqm.of (by omega)),h2⟩
theorem zR{n:Nat}{l l':List (List Int×Int)}(hk:Tb n l)(hk':Tb n l')(hs:∀k,Eqm (sumT l k) (sumT l' k)):Xc l=Xc l':=Kt (Mj hk) (Mj hk') λp=>by
  obtain⟨h1,h2⟩:=qo l p.1;obtain⟨h3,h4⟩:=qo l' p.1;rw[Gf,Gf,(h1.trans ((hs p.1).trans h3.symm)).eq h2 h4]
theorem E6{a b:List Item}(h:∀k,Eqm (sumT (chI a) k) (sumT (chI b) k)):gathI a=gathI b:=congrArg (List.map mkI) (zR (uo a) (uo b) h)
theorem G6{a b:List Row}(h:∀k,Eqm (sumT (chR a) k) (sumT (chR b) k)):Pa a=Pa b:=congrArg (List.map mkR) (zR (ro a) (ro b) h)
theorem AR(φ:List Int->Bool)(q:List Int×Int):∀m:MP,Eqm (sumF φ (Lc q m)) ((if φ q.1=true then q.2 else 0)+sumF φ m)
 |[]=>Eqm.refl _
 |p::m=>by
  unfold Lc;split
  .exact Eqm.refl _
  .split
   .rename_i h1 h2;simp only[sumF,h2];have ha:Eqm (ar .add .i64 q.2 p.2) (q.2+p.2):=mo _;split
    .exact (ha.add (Eqm.refl _)).trans (Eqm.of (by omega))
    .exact Eqm.of (by omega)
   .simp only[sumF];exact((Eqm.refl _).add (AR φ q m)).trans (Eqm.of (by omega))
theorem H6(φ:List Int->Bool)(l:List (List Int×Int)):Eqm (sumF φ (xg l)) (sumF φ l):=by
 suffices ∀(l:List (List Int×Int)) (m:MP),Eqm (sumF φ (l.foldl (λm q=>Lc q m) m)) (sumF φ m+sumF φ l) by
  have:=this l [];simpa [xg,sumF] using this
 intro l
 induction l with
 |nil=>intro m;exact Eqm.of (by simp[sumF])
 |cons q r ih=>
  intro m;rw[aax];simp only[sumF];exact(ih (Lc q m)).trans (((AR φ q m).add (Eqm.refl _)).trans (Eqm.of (by omega)))
theorem I6{n:Nat}{l:List (List Int×Int)}(hk:Tb n l)(hr:∀q∈l,InR q.2)(φ:List Int->Bool):Eqm (sumF φ (Xc l)) (sumF φ l):=by
 rw[<-wR hk λq hq=>cF (hr q hq),(yR φ (xg l)).1];exact H6 φ l
theorem J6{a:List Item}(h:∀x∈a,InR x.Count):∀q∈chI a,InR q.2:=λq hq=>by
 obtain⟨x,hx,rfl⟩:=aap.1 hq;exact h x hx
theorem L6{l:List (List Int×Int)}{p:List Int×Int}(hp:p∈Xc l):InR p.2:=by
 rw[(Gf.1 hp).1];exact(qo l p.1).2
theorem dF{a:List Item}{x:Item}(hx:x∈gathI a):InR x.Count:=by
 have:(kI x,x.Count)∈chI (gathI a):=aap.2 ⟨x,hx,rfl⟩;rw[ko]at this;exact L6 this
theorem O6{a:List Item}(h:∀x∈a,InR x.Count)(k:List Int):Eqm (sumT (chI (gathI a)) k) (sumT (chI a) k):=by
 rw[ko,aF,aF];exact I6 (uo a) (J6 h) _
theorem Eqm.mul{a b:Int}(c:Int)(h:Eqm a b):Eqm (c*a) (c*b):=by
 obtain⟨q,h⟩:=h;exact⟨c*q,by rw[h,Int.mul_add,Int.mul_assoc]⟩
theorem El{xs:List Row}(h:∀x∈xs,InR x.Diff):(Pa xs).length<=xs.length:=gF h
theorem BR(a b:List Item)(k:List Int):sumT (chI (a++b)) k=sumT (chI a) k+sumT (chI b) k:=by
 rw[C6,ZE]
theorem P6(a b:List Row)(k:List Int):sumT (chR (a++b)) k=sumT (chR a) k+sumT (chR b) k:=by
 rw[D6,ZE]
section
namespace Tg
open Go
instance:DecidableEq Time:=λs t=>decidable_of_iff (s.A=t.A/\s.B=t.B) ⟨λh=>by
 obtain⟨a,b⟩:=s;obtain⟨c,d⟩:=t;simp only at h;rw[h.1,h.2],λh=>by rw[h];exact⟨rfl,rfl⟩⟩
def tK(t:Time):List Int:=[t.A,t.B]
def Cb(s t:Time):Time:=⟨mx s.A t.A,mx s.B t.B⟩
theorem Kk(a b:Int):mx a b=if a<=b then b else a:=by
 unfold mx;split<;>split<;>omega
theorem vB{s t:Time}(h:tK s=tK t):s=t:=by
 obtain⟨a,b⟩:=s;obtain⟨c,d⟩:=t;simp[tK]at h;obtain⟨rfl,rfl⟩:=h;rfl
theorem jr{xs:List Row}{k:Int}{t:Time}:jT xs k t=true↔(∃x∈xs,x.Key=k/\x.At.A=t.A/\x.At.B<=t.B)/\∃x∈xs,x.Key=k/\x.At.B=t.B/\x.At.A<=t.A:=by
 simp[jT,List.any_eq_true]
theorem EX{xs:List Row}{k:Int}{x:Row}(hx:x∈xs)(hk:x.Key=k):jT xs k x.At=true:=jr.2 ⟨⟨x,hx,hk,rfl,abn _⟩,x,hx,hk,rfl,abn _⟩
theorem FX{xs:List Row}{k:Int}{s t:Time}(hs:jT xs k s=true)(ht:jT xs k t=true):jT xs k (Cb s t)=true:=by
 obtain⟨⟨x1,m1,k1,a1,b1⟩,y1,n1,l1,c1,d1⟩:=jr.1 hs;obtain⟨⟨x2,m2,k2,a2,b2⟩,y2,n2,l2,c2,d2⟩:=jr.1 ht;rw[jr];simp only[Cb,Kk];refine⟨?_,?_⟩
 .by_cases h:s.A<=t.A
  .exact⟨x2,m2,k2,by rw[if_pos h];exact a2,by split<;>omega⟩
  .exact⟨x1,m1,k1,by rw[if_neg h];exact a1,by split<;>omega⟩
 .by_cases h:s.B<=t.B
  .exact⟨y2,n2,l2,by rw[if_pos h];exact c2,by split<;>omega⟩
  .exact⟨y1,n1,l1,by rw[if_neg h];exact c1,by split<;>omega⟩
theorem GX{xs:List Row}{k:Int}{M:Time->Prop}(h1:∀x∈xs,x.Key=k->M x.At)(h2:∀s t,M s->M t->M (Cb s t)){t:Time}(h:jT xs k t=true):M t:=by
 obtain⟨⟨x,m1,k1,a1,b1⟩,y,n1,l1,c1,d1⟩:=jr.1 h;have:=h2 _ _ (h1 x m1 k1) (h1 y n1 l1)
 have e:Cb x.At y.At=t:=by
  obtain⟨ta,tb⟩:=t;simp only[Cb,Kk] at *;subst a1 c1
  congr 1<;>split<;>omega
 rw[e]at this;exact this
theorem Fah{p q:Time->Bool}{i:Int}:∀ {n:Nat},(∀b:Nat,b<n->p ⟨i,b⟩=q ⟨i,b⟩)->rowP p i n=rowP q i n:=by
 intro n h;unfold rowP
 congr 1
 refine List.filter_congr λb hb=>h b (by simpa using hb)
theorem BN{p q:Time->Bool}:∀ {n:Nat},(∀a b:Nat,a<n->b<8->p ⟨a,b⟩=q ⟨a,b⟩)->Zc p n=Zc q n
 |0,_=>rfl
 |n+1,h=>by
  simp only[Zc];rw[BN λa b ha hb=>h a b (by omega) hb,Fah λb hb=>h n b (by omega) hb]
theorem HX(p:Time->Bool)(i:Int)(n:Nat):(rowP p i n).length<=n:=by
 unfold rowP;rw[aay];exact Nat.le_trans (aaG _ _) (by simp)
theorem wB(p:Time->Bool):∀n,(Zc p n).length<=8*n
 |0=>by simp[Zc]
 |n+1=>by
  have h1:=wB p n;have h2:=HX p n 8;simp only[Zc,aaJ];omega
theorem Gah(p:Time->Bool)(i:Int)(n:Nat):rowP p i (n+1)=rowP p i n++(if p ⟨i,(n:Int)⟩=true then [(⟨i,(n:Int)⟩ : Time)] else []):=by
 unfold rowP;rw[List.range_succ,aaM,abk]
 congr 1
 by_cases h:p ⟨i,(n:Int)⟩=true<;>simp[h]
theorem Hah{p:Time->Bool}{i:Int}{n:Nat}{t:Time}:t∈rowP p i n↔p t=true/\t.A=i/\0<=t.B/\t.B<n:=by
 unfold rowP;simp only[aap,aaK,List.mem_range];constructor
 .rintro⟨b,⟨h1,h2⟩,rfl⟩;exact⟨h2,rfl,by simp,by simp;omega⟩
 .rintro⟨h1,h2,h3,h4⟩;obtain⟨a,b⟩:=t;simp only at h2 h3 h4;subst h2;obtain⟨m,rfl⟩:=Int.eq_ofNat_of_zero_le h3;exact⟨m,⟨by omega,h1⟩,rfl⟩
theorem xB{p:Time->Bool}{t:Time}:∀ {n:Nat},t∈Zc p n↔p t=true/\0<=t.A/\t.A<n/\0<=t.B/\t.B<8
 |0=>by simp[Zc];omega
 |n+1=>by
  simp only[Zc,abl,xB,Hah];constructor
  .rintro (⟨h1,h2,h3,h4,h5⟩|⟨h1,h2,h3,h4⟩)
   .exact⟨h1,h2,by omega,h4,h5⟩
   .exact⟨h1,by omega,by omega,h3,h4⟩
  .rintro⟨h1,h2,h3,h4,h5⟩;by_cases h:t.A=n
   .exact .inr ⟨h1,h,h4,h5⟩
   .exact .inl ⟨h1,h2,by omega,h4,h5⟩
theorem Iah{s t:Time}(hs:xa s=true)(ht:xa t=true):xa (Cb s t)=true:=by
 simp only[xa,Cb,Kk,decide_eq_true_eq] at *;refine⟨?_,?_,?_,?_⟩<;>split<;>omega
def cnt{α:Type}(p:α->Bool):List α->Nat
 |[]=>0
 |x::r=>(if p x=true then 0 else 1)+cnt p r
theorem cnt_le{α:Type}{p q:α->Bool}:∀ {l:List α},(∀x∈l,p x=true->q x=true)->cnt q l<=cnt p l
 |[],_=>aaH _
 |x::r,h=>by
  have h1:=cnt_le (l:=r) λy hy=>h y (by simp[hy]);have h2:=h x (by simp);simp only[cnt];by_cases hp:p x=true
  .rw[if_pos hp,if_pos (h2 hp)];omega
  .rw[if_neg hp];split<;>omega
theorem cnt_lt{α:Type}{p q:α->Bool}{y:α}:∀ {l:List α},(∀x∈l,p x=true->q x=true)->y∈l->p y=false->q y=true->cnt q l<cnt p l
 |x::r,h,hy,hp,hq=>by
  have h1:=cnt_le (l:=r) λy hy=>h y (by simp[hy]);simp only[cnt];rcases aaA.1 hy with rfl|hy
  .rw[if_pos hq,if_neg (by rw[hp];simp)];omega
  .have h3:=cnt_lt (l:=r) (λz hz=>h z (by simp[hz])) hy hp hq;have h2:=h x (by simp);by_cases hpx:p x=true
   .rw[if_pos hpx,if_pos (h2 hpx)];omega
   .rw[if_neg hpx];split<;>omega
def allT:List Time:=Zc (λ_=>true) 8
theorem IX{t:Time}:t∈allT↔xa t=true:=by
 unfold allT;rw[xB];simp only[xa,decide_eq_true_eq,true_and];omega
end Tg
end
abbrev Aa:=List (List Int)
def gj(i:Nat)(k:List Int):MapEntry:={ key:=Na k,val:=.bool true,born:=i }
def Qc:Nat->Aa->List MapEntry
 |_,[]=>[]
 |i,k::r=>gj i k::Qc (i+1) r
def Va(S:Aa):Obj:=.map (Qc 0 S).toArray S.length
def dg:Aa->List Int->Nat->Option Nat
 |[],_,_=>none
 |p::r,ks,i=>if p=ks then some i else dg r ks (i+1)
def ue(S:Aa)(ks:List Int):Aa:=if ks∈S then S else S++[ks]
def Cc(n:Nat)(S:Aa):Prop:=∀k∈S,k.length=n
theorem JX:∀(j:Nat) (S:Aa) (i:Nat),(Qc j S)[i]? = (S[i]?).map (gj (j+i))
 |_,[],_=>by simp[Qc]
 |j,k::r,0=>by simp[Qc]
 |j,k::r,i+1=>by
  have:=JX (j+1) r i;simp only[Qc,List.getElem?_cons_succ,this];rw[show j+1+i=j+(i+1) by omega]
theorem LX:∀(j:Nat) (S U:Aa),Qc j (S++U)=Qc j S++Qc (j+S.length) U
 |j,[],U=>by simp[Qc]
 |j,k::r,U=>by
  simp only[aaX,Qc,LX (j+1) r U,aaQ];rw[show j+1+r.length=j+(r.length+1) by omega]
theorem CN:∀ {S:Aa}{ks:List Int}{j i:Nat},dg S ks j=some i->j<=i/\S[i - j]? = some ks
 |[],_,_,_,h=>by cases h
 |p::r,ks,j,i,h=>by
  simp only[dg]at h;split at h
  .rename_i e;cases h;exact⟨aaH _,by simp[e]⟩
  .obtain⟨h1,h2⟩:=CN h;refine⟨by omega,?_⟩;rw[show i - j=i - (j+1)+1 by omega];simpa using h2
theorem DN:∀ {S:Aa}{ks:List Int}{j:Nat},dg S ks j=none->ks ∉ S
 |[],_,_,_=>by simp
 |p::r,ks,j,h=>by
  simp only[dg]at h;split at h
  .cases h
  .rename_i e;simp only[aaA,not_or];exact⟨λh'=>e h'.symm,DN h⟩
section
variable {P:Program}{K n:Nat}
theorem MX(hE:Eh P K n)(w:World){ks:List Int}(hk:ks.length=n):∀(S:Aa) (j i:Nat),Cc n S ->
  (abj K (Na ks) (Qc j S) i).run P w=.ok ((dg S ks i).map λq=>(q,Value.bool true)) w
 |[],j,i,_=>by simp[Qc,abj,dg]
 |p::r,j,i,hm=>by
  have h1:=BP hE w hk (hm p (by simp));simp only[Qc,abj,aaP,dg];show((Op.equal K (Na ks) (Na p)).run P w).andThen _=_;rw[h1,aaE];by_cases e:p=ks
  .simp[e,gj]
  .have e':¬ ks=p:=λh=>e h.symm;simp only[e',decide_false,e,if_false,Bool.false_eq_true];exact MX hE w hk r (j+1) (i+1) (λq hq=>hm q (by simp[hq]))
theorem NX(hE:Eh P K n){fs:Array Field}(hu:P.underlying K=some (.struct fs))(w:World){ks:List Int}(hk:ks.length=n)(S:Aa)(hm:Cc n S) :
  (Instr.findKey K (Na ks) (Qc 0 S)).run P w=.ok ((dg S ks 0).map λq=>(q,Value.bool true)) w:=by
 unfold Instr.findKey;simp only[aaP,abo hu,aaE];cases S with
 |nil=>simp[Qc,abr,dg]
 |cons p r=>
  have:abr (.struct fs) (Na ks) (Qc 0 (p::r)) 0=none:=by simp[Qc,abr,Instr.sameNow]
  rw[this];exact MX hE w hk _ 0 0 hm
structure PX(P:Program)(T K E n:Nat):Prop where
 u:P.underlying T=some (.map K E)
 k:∃fs,P.underlying K=some (.struct fs)
 eq:Eh P K n
 ck:GD P K n
 z:∀w,(zeroValue E).run P w=.ok (.bool false) w
variable {T E:Nat} (M:PX P T K E n) {w:World}{r:Nat}{S:Aa} (hr:w.heap[r]? = some (Va S)) (hm:Cc n S) {ks:List Int} (hk:ks.length=n)
include M hr hm hk
theorem QX:(Instr.lookup T (.map (some r)) (Na ks) false).run P w=.ok (.bool (decide (ks∈S))) w:=by
 obtain⟨fs,hu⟩:=M.k;have h1:=NX M.eq hu w hk S hm;have h2:∀b,(Instr.checkKey b 10000 K (Na ks)).run P w=.ok () w:=λb=>M.ck b w ks hk;have hg:(getObj r).run P w=.ok (Va S) w:=by simp[getObj,Sem.run,hr,Va]
 unfold Instr.lookup;simp only[aaP,abo M.u,aaE,hg];simp only[Va,aaP,Sem.run_pure,aaE,h2,h1];cases hl:dg S ks 0 with
 |none=>simp[M.z w,DN hl]
 |some i=>
  have:=abb (CN hl).2;simp[this]
theorem RX:(abd T (.map (some r)) (Na ks) (.bool true)).run P w=.ok () (Dd w r (Va (ue S ks))):=by
 obtain⟨fs,hu⟩:=M.k;have h1:=NX M.eq hu w hk S hm;have h2:∀b,(Instr.checkKey b 10000 K (Na ks)).run P w=.ok () w:=λb=>M.ck b w ks hk;have hg:(getObj r).run P w=.ok (Va S) w:=by simp[getObj,Sem.run,hr,Va]
 have hs:∀o,(setObj r o).run P w=.ok () (Dd w r o):=λo=>by simp[setObj,Sem.run,hr,Va,Dd]
 unfold abd;simp only[aaP,abo M.u,aaE,hg];simp only[Va,aaP,aaE,h2,h1];cases hl:dg S ks 0 with
 |none=>
  have hn:=DN hl;simp only[Option.map_none,hs]
  have:Va (ue S ks)=.map ((Qc 0 S).toArray.push { key:=Na ks,val:=.bool true,born:=S.length }) (S.length+1):=by
   unfold Va ue;rw[if_neg hn,LX];simp[Qc,gj]
  rw[<-this];rfl
 |some i=>
  obtain⟨_,hi⟩:=CN hl;rw[Nat.sub_zero]at hi;have ho:=abb hi
  have he:(Qc 0 S).toArray[i]? = some (gj i ks):=by
   have:=JX 0 S i;rw[hi]at this;simpa using this
  simp only[Option.map_some,aaP,he,Option.getD_some];have hq:=HP (P:=P) w ks;have hj:(gj i ks).key=Na ks:=rfl;rw[hj,hq,aaE]
  have hp:((Qc 0 S).toArray.modify i λe=>{ e with key:=Na ks,val:=.bool true })=(Qc 0 S).toArray:=by
   apply Array.ext';apply List.ext_getElem?;intro j;simp only[Array.toList_modify,List.getElem?_modify];by_cases hij:i=j
   .subst hij;have hh:(Qc 0 S)[i]? = some (gj i ks):=by simpa using he
    simp[hh,gj]
   .simp[hij]
  rw[hp,hs];unfold ue;rw[if_pos ho]
end
theorem SX{P:Program}{a:Act}{w:World}{o:Oper}{t x k:Nat}(hop:o.op=.mapUpdate t (.tmp x) (.tmp k) (.const (.bool true))){w':World}(h:(abd t (a.tmps.getD x undef) (a.tmps.getD k undef) (.bool true)).run P w=.ok () w'):(execOp a.eval o).run P w=.ok .skip w':=by
 obtain⟨hh,op,ty,pos,aft,gd⟩:=o;simp only[]at hop;subst hop;exact dQ (s:=abd t (a.tmps.getD x undef) (a.tmps.getD k undef) (.bool true)) rfl h
section
open Go Tg
def Gc(h k v:Int):Int×Int×Bool:=if h=1 then(v % 4,v - v % 4+k,true) else if h=2 then(k,(v+1) % 100,true) else if h=3 then(v % 4,v,true) else if h=4 then(0,v,true) else
 if h=5 then(k,v,decide (v % 2=0)) else if h=6 then(k,v,decide (k % 2=0)) else(k,v,decide (v<10))
def Mh(h:Int)(x:Row):List Row:=if(Gc h x.Key x.Val).2.2=true then [⟨(Gc h x.Key x.Val).1,(Gc h x.Key x.Val).2.1,x.At,x.Diff⟩] else []
def ed(h:Int)(a:List Row):List Row:=a.flatMap (Mh h)
def wo(x y:Int):Int:=(10*x+y) % 100
def Mc(x y:Row):List Row:=if x.Key=y.Key then [⟨x.Key,wo x.Val y.Val,Cb x.At y.At,x.Diff*y.Diff⟩] else []
def Ic(a b:List Row):List Row:=a.flatMap λx=>b.flatMap (Mc x)
def gh(x:Row):Row:=⟨x.Key,x.Val,x.At,aao .i64 (0 - x.Diff)⟩
def fb(a:List Row):List Row:=a.map gh
def Il(n:Int):Int:=ar .rem .i64 (ar .add .i64 (ar .rem .i64 n 100) 100) 100
def kf(s:List Item):Int:=s.foldl (λn x=>ar .add .i64 n x.Count) 0
def od(k:Int)(s:List Item):List Item:=(s.filter λx=>decide (0<x.Count)).map λx=>⟨k,x.Val,1⟩
def vb(kind k:Int)(s:List Item):List Item:=if kind=1 then(if kf s=0 then [] else [⟨k,Il (kf s),1⟩]) else if kind=2 then od k s else(od k s).take 1
def Yb(x:Item):Item:=⟨x.Key,x.Val,aao .i64 (0 - x.Count)⟩
def rowT(t:Time)(x:Item):Row:=⟨x.Key,x.Val,t,x.Count⟩
def Zj(kind k:Int)(own made:List Row)(t:Time):List Item:=gathI (vb kind k (qc own t)++(qc made t).map Yb)
def zg(kind k:Int)(own made:List Row)(t:Time):List Row:=made++(Zj kind k own made t).map (rowT t)
def za(k:Int)(a:List Row):List Row:=a.filter λx=>decide (x.Key=k)
def Ub(kind k:Int)(own:List Row)(ts:List Time):List Row:=ts.foldl (zg kind k own) []
def Yf(kind:Int)(a:List Row):List Row:=(List.range 4).flatMap λk:Nat=>Ub kind k (za k a) (yb a k)
def Be:Option Row->Row->Bool
 |none,x=>decide (x.Diff=0)
 |some y,x=>decide (x.Diff=0)||!ltK (rK y) (rK x)
def Kb{α:Type}(bad:Option α->α->Bool):Option α->List α->Bool
 |_,[]=>true
 |y,x::r=>!bad y x&&Kb bad (some x) r
def Oa(xs:List Row):Bool:=Kb Be none xs&&Nb xs
def opR(kind num:Int)(ks ins:List (List Row)):List Row:=if kind=1 then ins.getD num.toNat [] else if kind=2 then Pa (ed num (ks.getD 0 [])) else if kind=3 then Pa (ks.getD 0 []++ks.getD 1 []) else
 if kind=4 then Pa (fb (ks.getD 0 [])) else if kind=5 then Pa (Ic (ks.getD 0 []) (ks.getD 1 [])) else Pa (Yf num (ks.getD 0 []))
def jc{α β:Type}(f:α->Option β):List α->Option (List β)
 |[]=>some []
 |x::r=>match f x with
  |none=>none
  |some y=>match jc f r with
   |none=>none
   |some ys=>some (y::ys)
def lc:Nat->List (List Row)->Plan->Option (List Row)
 |0,_,_=>none
 |d+1,ins,p=>match jc (lc d ins) p.Kids with
  |none=>none
  |some ks=>if Oa (opR p.Kind p.Num ks ins)=true then some (opR p.Kind p.Num ks ins) else none
theorem xo{α β:Type}(f:α->Option β):∀(l r:List α),jc f (l++r)=match jc f l with
  |none=>none
  |some ys=>match jc f r with
   |none=>none
   |some zs=>some (ys++zs)
 |[],r=>by simp only[List.nil_append,jc];cases jc f r<;>rfl
 |x::l,r=>by
  simp only[aaX,jc,xo f l r];cases f x with
  |none=>rfl
  |some y=>
   cases jc f l with
   |none=>rfl
   |some ys=>cases jc f r<;>rfl
theorem yo{α β:Type}{f:α->Option β}:∀ {l:List α}{ys:List β},jc f l=some ys->ys.length=l.length
 |[],ys,h=>by simp[jc]at h;subst h;rfl
 |x::l,ys,h=>by
  simp only[jc]at h;split at h
  .cases h
  .split at h
   .cases h
   .rename_i zs hz;cases h;simp[yo hz]
theorem lF{α β:Type}{f:α->Option β}:∀ {l:List α}{ys:List β},jc f l=some ys->∀y∈ys,∃x∈l,f x=some y
 |[],ys,h=>by simp[jc]at h;subst h;simp
 |x::l,ys,h=>by
  simp only[jc]at h;split at h
  .cases h
  .rename_i y hy;split at h
   .cases h
   .rename_i zs hz;cases h;intro w hw;rcases aaA.1 hw with rfl|hw
    .exact⟨x,by simp,hy⟩
    .obtain⟨x',h1,h2⟩:=lF hz w hw;exact⟨x',by simp[h1],h2⟩
theorem gb{xs:List Row}(h:Nb xs=true):xs.length<=400/\∀x∈xs,Mb x=true:=by
 simp only[Nb,Bool.and_eq_true,decide_eq_true_eq,List.all_eq_true]at h;exact⟨h.2,h.1⟩
theorem Ag{x:Row}(h:Mb x=true):xa x.At=true:=by
 simp only[Mb,decide_eq_true_eq]at h;simp only[xa,decide_eq_true_eq];exact h.2.2.2.2.1
theorem Jf{x:Row}(h:Mb x=true):InR x.Diff:=by
 simp only[Mb,decide_eq_true_eq]at h;unfold InR;omega
theorem Pd{xs:List Row}(h:Oa xs=true):Nb xs=true:=by
 simp only[Oa,Bool.and_eq_true]at h;exact h.2
theorem mF{d:Nat}{ins:List (List Row)}{p:Plan}{x:List Row}(h:lc d ins p=some x):Oa x=true:=by
 cases d with
 |zero=>cases h
 |succ d=>
  simp only[lc]at h;split at h
  .cases h
  .split at h
   .rename_i hb;cases h;exact hb
   .cases h
theorem QR{n:Int}:Eqm (aao .i64 (0 - n)) (-n):=(mo _).trans (Eqm.of (by omega))
theorem nF:∀(s:List Item) (k:List Int),Eqm (sumT (chI (s.map Yb)) k) (-sumT (chI s) k)
 |[],k=>Eqm.refl _
 |x::r,k=>by
  have ih:=nF r k;show Eqm ((if kI (Yb x)=k then(Yb x).Count else 0)+sumT (chI (r.map Yb)) k) (-((if kI x=k then x.Count else 0)+sumT (chI r) k));have e:kI (Yb x)=kI x:=rfl;rw[e];by_cases h:kI x=k
  .rw[if_pos h,if_pos h];exact(Eqm.add (QR (n:=x.Count)) ih).trans (Eqm.of (by omega))
  .rw[if_neg h,if_neg h];exact(Eqm.add (Eqm.refl 0) ih).trans (Eqm.of (by omega))
theorem RR(x:Item):InR (Yb x).Count:=po _
theorem i7{a s:List Item}(hs:∀x∈s,InR x.Count):gathI (a++(gathI s).map Yb)=gathI (a++s.map Yb):=E6 λk=>by
  rw[BR,BR];exact(Eqm.refl _).add ((nF _ k).trans (((O6 hs k).neg).trans (nF s k).symm))
theorem TR(hi:Int):∀(l:List Int) (lo:Int),l.Pairwise (· < ·)->(∀x∈l,lo<=x/\x<=hi)->lo<=hi+1->(l.length:Int)<=hi+1 - lo
 |[],lo,_,_,h=>by simp;omega
 |x::r,lo,hp,hb,h=>by
  have hp':=aaw.1 hp;have hx:=hb x (by simp);have:=TR hi r (x+1) hp'.2 (λy hy=>⟨by have:=hp'.1 y hy;omega,(hb y (by simp[hy])).2⟩) (by omega);rw[aaQ];omega
theorem oF(xs:List Item):(gathI xs).Pairwise λx y=>ltK (kI x) (kI y)=true:=by
 have h:=Mj (uo xs);rw[<-ko]at h;exact abg.1 (show((gathI xs).map λx=>(kI x,x.Count)).Pairwise (λp q=>ltK p.1 q.1=true) from h)
theorem Mt{xs:List Item}{x:Item}(hx:x∈gathI xs):∃y∈xs,y.Key=x.Key/\y.Val=x.Val:=by
 have h:(kI x,x.Count)∈chI (gathI xs):=aap.2 ⟨x,hx,rfl⟩;rw[ko]at h;obtain⟨y,hy,e⟩:=Lt h;have e:kI x=kI y:=e;simp[kI]at e;exact⟨y,hy,e.1.symm,e.2.symm⟩
theorem WR{xs:List Item}{k:Int}(h:∀x∈xs,x.Key=k/\0<=x.Val/\x.Val<=99):(gathI xs).length<=100:=by
 have hk:∀x∈gathI xs,x.Key=k/\0<=x.Val/\x.Val<=99:=λx hx=>by
  obtain⟨y,hy,e1,e2⟩:=Mt hx;rw[<-e1,<-e2];exact h y hy
 have hp:((gathI xs).map λx=>x.Val).Pairwise (· < ·):=by
  rw[abg];refine(oF xs).imp_of_mem λ{x y} hx hy hh=>?_;have h1:=(hk x hx).1;have h2:=(hk y hy).1;have hh:(decide (x.Key<y.Key)||(decide (x.Key=y.Key)&&(decide (x.Val<y.Val)||(decide (x.Val=y.Val)&&(decide ((0:Int)<0)||(decide ((0:Int)=0)&&ltK [] []))))))=true:=hh;have h0:ltK [] []=false:=rfl;rw[h1,h2,h0]at hh;simpa using hh
 have:=TR 99 _ 0 hp (λv hv=>by
  obtain⟨x,hx,rfl⟩:=aap.1 hv;exact(hk x hx).2) (by omega)
 rw[aay]at this;omega
theorem XR(n:Int):0<=Il n/\Il n<=99:=by
 unfold Il;rw[Xj,Xj]
 have h1 : -99<=n.tmod 100/\n.tmod 100<=99:=by
  have a:=aaL n (show(0:Int)<100 by omega);have b:=Int.lt_tmod_of_pos n (show(0:Int)<100 by omega);omega
 rw[ub (by omega)];rw[Int.tmod_eq_emod_of_nonneg (by omega)];omega
theorem YR{kind k:Int}{s:List Item}{x:Item}(hs:∀y∈s,0<=y.Val/\y.Val<=99)(hx:x∈vb kind k s):x.Key=k/\0<=x.Val/\x.Val<=99/\x.Count=1:=by
 have hh:∀x∈od k s,x.Key=k/\0<=x.Val/\x.Val<=99/\x.Count=1:=λx hx=>by
  obtain⟨y,hy,rfl⟩:=aap.1 hx;exact⟨rfl,(hs y (aaK.1 hy).1).1,(hs y (aaK.1 hy).1).2,rfl⟩
 unfold vb at hx;split at hx
 .split at hx
  .cases hx
  .simp at hx;subst hx;exact⟨rfl,(XR _).1,(XR _).2,rfl⟩
 .split at hx
  .exact hh x hx
  .exact hh x (abp hx)
theorem ZR(kind k:Int)(s:List Item):(vb kind k s).length<=s.length+1:=by
 have h:(od k s).length<=s.length:=by
  unfold od;rw[aay];exact aaG _ _
 unfold vb;split
 .split<;>simp
 .split
  .omega
  .rw[List.length_take];omega
def fd(k:Int)(l:List Row):Prop:=∀x∈l,x.Key=k/\0<=x.Val/\x.Val<=99/\InR x.Diff/\xa x.At=true
theorem fd.items{k:Int}{l:List Row}(h:fd k l)(t:Time):∀x∈Za l t,x.Key=k/\0<=x.Val/\x.Val<=99/\InR x.Count:=λx hx=>by
 obtain⟨r,hr,rfl⟩:=aap.1 hx;have:=h r (aaK.1 hr).1;exact⟨this.1,this.2.1,this.2.2.1,this.2.2.2.1⟩
theorem fd.pres{k:Int}{l:List Row}(h:fd k l)(t:Time):∀x∈qc l t,x.Key=k/\0<=x.Val/\x.Val<=99/\InR x.Count:=λx hx=>by
 obtain⟨y,hy,e1,e2⟩:=Mt hx;have:=h.items t y hy;exact⟨e1▸this.1,e2▸this.2.1,e2▸this.2.2.1,dF hx⟩
theorem fd.presLen{k:Int}{l:List Row}(h:fd k l)(t:Time):(qc l t).length<=100:=WR λx hx=>by have:=h.items t x hx;exact⟨this.1,this.2.1,this.2.2.1⟩
theorem ak{k:Int}{a:List Row}(h:∀x∈a,Mb x=true):fd k (za k a):=λx hx=>by
 obtain⟨h1,h2⟩:=aaK.1 hx;have h3:=h x h1;have h4:=Ag h3;have h5:=Jf h3;simp only[Mb,decide_eq_true_eq]at h3;exact⟨by simpa using h2,h3.2.2.1,h3.2.2.2.1,h5,h4⟩
theorem l7{kind k:Int}{own made:List Row}{t:Time}(ho:fd k own)(hm:fd k made):∀x∈vb kind k (qc own t)++(qc made t).map Yb,x.Key=k/\0<=x.Val/\x.Val<=99/\InR x.Count:=λx hx=>by
 rcases abl.1 hx with hx|hx
 .have:=YR (λy hy=>⟨(ho.pres t y hy).2.1,(ho.pres t y hy).2.2.1⟩) hx;exact⟨this.1,this.2.1,this.2.2.1,by rw[this.2.2.2];unfold InR;omega⟩
 .obtain⟨y,hy,rfl⟩:=aap.1 hx;have:=hm.pres t y hy;exact⟨this.1,this.2.1,this.2.2.1,RR y⟩
theorem qF{kind k:Int}{own made:List Row}{t:Time}(ho:fd k own)(hm:fd k made):(∀x∈Zj kind k own made t,x.Key=k/\0<=x.Val/\x.Val<=99/\InR x.Count)/\(Zj kind k own made t).length<=100:=by
 have hd:=l7 (kind:=kind) (t:=t) ho hm;refine⟨λx hx=>?_,WR λx hx=>by have:=hd x hx;exact⟨this.1,this.2.1,this.2.2.1⟩⟩;obtain⟨y,hy,e1,e2⟩:=Mt hx;have:=hd y hy;exact⟨e1▸this.1,e2▸this.2.1,e2▸this.2.2.1,dF hx⟩
theorem m7{kind k:Int}{own made:List Row}{t:Time}(ho:fd k own)(hm:fd k made)(ht:xa t=true):fd k (zg kind k own made t)/\(zg kind k own made t).length<=made.length+100:=by
 obtain⟨h1,h2⟩:=qF (kind:=kind) (t:=t) ho hm;refine⟨λx hx=>?_,by unfold zg;rw[aaJ,aay];omega⟩;rcases abl.1 hx with hx|hx
 .exact hm x hx
 .obtain⟨y,hy,rfl⟩:=aap.1 hx;have:=h1 y hy;exact⟨this.1,this.2.1,this.2.2.1,this.2.2.2,ht⟩
theorem aS(kind k:Int)(own:List Row)(ts:List Time)(t:Time):Ub kind k own (ts++[t])=zg kind k own (Ub kind k own ts) t:=by
 unfold Ub;rw[List.foldl_append];rfl
theorem zo{kind k:Int}{own:List Row}(ho:fd k own)(ts:List Time)(ht:∀t∈ts,xa t=true):fd k (Ub kind k own ts)/\(Ub kind k own ts).length<=100*ts.length:=by
 suffices ∀(ts:List Time) (m:List Row),(∀t∈ts,xa t=true)->fd k m->fd k (ts.foldl (zg kind k own) m)/\(ts.foldl (zg kind k own) m).length<=m.length+100*ts.length by
  have:=this ts [] ht (λx hx=>by cases hx);simpa [Ub] using this
 intro ts
 induction ts with
 |nil=>intro m _ hm;exact⟨hm,by simp⟩
 |cons t r ih=>
  intro m h hm;obtain⟨h1,h2⟩:=m7 (kind:=kind) ho hm (h t (by simp));obtain⟨h3,h4⟩:=ih _ (λt ht=>h t (by simp[ht])) h1;rw[aax];exact⟨h3,by rw[aaQ];omega⟩
theorem Ao{a:List Row}{k:Int}:(∀t∈yb a k,xa t=true)/\(yb a k).length<=64:=by
 unfold yb;split
 .refine⟨λt ht=>?_,wB _ 8⟩;have:=xB.1 ht;simp only[xa,decide_eq_true_eq];omega
 .exact⟨by simp,by simp⟩
theorem t7{kind k:Int}{own made:List Row}{t:Time}(hm:fd k made):Zj kind k own made t=gathI (vb kind k (qc own t)++(Za made t).map Yb):=i7 λx hx=>(hm.items t x hx).2.2.2
theorem rF{kind:Int}{a:List Row}(h:∀x∈a,Mb x=true):(∀x∈Yf kind a,InR x.Diff/\xa x.At=true)/\(Yf kind a).length<=25600:=by
 have key:∀k:Int,fd k (Ub kind k (za k a) (yb a k))/\(Ub kind k (za k a) (yb a k)).length<=6400:=λk=>by
  obtain⟨h1,h2⟩:=Ao (a:=a) (k:=k);obtain⟨h3,h4⟩:=zo (kind:=kind) (ak (k:=k) h) _ h1;exact⟨h3,by omega⟩
 refine⟨λx hx=>?_,?_⟩
 .obtain⟨k,_,hk⟩:=List.mem_flatMap.1 hx;have:=(key k).1 x hk;exact⟨this.2.2.2.1,this.2.2.2.2⟩
 .have h0:=(key 0).2;have h1:=(key 1).2;have h2:=(key 2).2;have h3:=(key 3).2;show(Ub kind (0:Nat) _ _++(Ub kind (1:Nat) _ _++(Ub kind (2:Nat) _ _++(Ub kind (3:Nat) _ _++[])))).length<=_;simp only[aaJ,List.length_nil];simp only[Int.natCast_zero,Int.natCast_one]at h0 h1 h2 h3⊢;have e2:((2:Nat):Int)=2:=rfl;have e3:((3:Nat):Int)=3:=rfl;have e0:((0:Nat):Int)=0:=rfl;have e1:((1:Nat):Int)=1:=rfl;simp only[e2,e3];omega
end
end Go.Proofs.YteogppapbognjaaGreatDoor
