/-
  Abstract values and an evaluator of regions over them: slices as lists, structs as rows of cells. The table of the library that a contract may read: where it lies, and what it holds. What abstract values say of memory, and how little disturbs it. No statement is proved here.
-/
import Derived.Orders
import Derived.Below
import Derived.KernelRfl
import Derived.Test.YteogppapbognjaaGreatDoorProg
import Derived.Lib.ItoaNum
import Derived.Laws.BytesArg
import Derived.Laws.IdiomCopy
import Derived.Laws.AppendOwn
import Derived.Laws.MakeOwn
import Derived.Laws.StructEq
import Derived.Laws.Slices
import Derived.Tactics
namespace Go.Proofs.YteogppapbognjaaGreatDoor
open Go
open _root_.Option.some renaming injEq→aal
open _root_.List renaming getElem?_eq_getElem→aam,getElem?_eq_some_iff→aan,getD_eq_getElem?_getD→aaw,getElem?_append_left→aax,length_append→aay,getElem?_map→aaz,getElem?_append_right→aaA,getElem?_take→aaE,getElem?_drop→aaH,mem_cons→aaO,length_take→aaP,getElem?_cons_succ→aaV,getElem?_cons_zero→aaW,length_set→abf,range→abh,length_cons→abk,mem_iff_getElem?→abm,mem_append_right→abn,getElem?_range→abr,replicate→abt,append_assoc→abB,getElem?_set→abC,length_drop→abK,length_map→abO,mem_append_left→abW,map_cons→abZ,flatten_cons→ace
open _root_.Nat renaming eq_of_beq_eq_true→aao,beq→aaq,mul_le_mul_right→aar,le_refl→aau,le_trans→aaB,lt_of_lt_of_le→aaC,le_of_ble_eq_true→aaD,beq_refl→aaJ,zero_add→aaK,add_mul→aaM,zero_le→aaR,succ_mul→aaT,ble→aaY,mul_comm→aaZ,add_zero→abo,add_lt_add_iff_right→abL,add_le_add_iff_right→abM,add_sub_add_right→abR,div_lt_of_lt_mul→abV,add_assoc→abY,sub_zero→acd
open _root_.Prod.mk renaming injEq→aap
open Go renaming run_underlying→aas,Operand→aav,Program→aaF,IntKind→aaQ,eqGuard→aaS,run_firstCells_none→abc,run_firstCells_some→abd,typeInfo→abl,yielded→abw,run_storeCells_at→abD,resolve→abG,run_sliceBound→abS,builtin→abT
open _root_.Bool renaming and_eq_true→aat,or_eq_false_iff→aba
open Go.Builtin renaming append_→aaG,lenOf→aaL,zeroCells→abj,firstCells→aby,copy_→abA,len_→acb
open _root_.Array renaming getElem?_eq_some_iff→aaI,ext'→aaN,length_toList→aaU,getElem?_setIfInBounds→abv,getD_eq_getD_getElem?→abx,toList_map→abJ,getElem?_toList→abQ
open Go.Result renaming andThen_ok→aaX
open Go.Region renaming wanted→abb
open Go.Oper renaming upon_value→abe,wp→abE
open Go.Instr renaming loadAt→abg,sliceBounds→abi,sureAddr→abu,indexAt→abz,buildSlice→abI,slice→abP,fill→abU,fieldAt→abX
open _root_.Option renaming map_some→abp
open Go.Sem renaming run_bind→abq,run_pure→abH
open _root_.Ne renaming symm→abF
open _root_.List.cons renaming injEq→abN
open Go.ByteArray renaming toList_eq→aca
open Go.World renaming cell?→acf
open Go.Op renaming stringOp→acg
structure Time where
 A:Int
 B:Int
structure Row where
 Key:Int
 Val:Int
 At:Time
 Diff:Int
structure Item where
 Key:Int
 Val:Int
 Count:Int
structure Plan where
 Kind:Int
 Num:Int
 Kids:List Plan
structure Sess where
 Plan:Plan
 Ins:List (List Row)
 Front:List Time
 Told:List Row
inductive Ty where
 |int|byte|bool|str|time|row|item|plan|lrow|litem|sess
@[reducible] def Ty.T:Ty->Type
  |.int=>Int|.byte=>Int|.bool=>Bool|.str=>ByteArray|.time=>Time|.row=>Row|.item=>Item|.plan=>Plan
  |.lrow=>List Row|.litem=>List Item|.sess=>Sess
inductive C where
 |int (k:aaQ) (n:Int)
 |bool (b:Bool)
 |str (s:ByteArray)
 |lst (t:Ty) (xs:List t.T)
 |nl (t:Ty)
def norm:C->C
 |.nl t=>.lst t []
 |.int k n=>.int k n
 |.bool b=>.bool b
 |.str s=>.str s
 |.lst t xs=>.lst t xs
def norms:List C->List C
 |[]=>[]
 |c::r=>norm c::norms r
def cells:(t:Ty)->t.T->List C
 |.int,n=>[.int .i64 n]
 |.byte,n=>[.int .u8 n]
 |.bool,b=>[.bool b]
 |.str,s=>[.str s]
 |.time,x=>[.int .i64 x.A,.int .i64 x.B]
 |.row,x=>[.int .i64 x.Key,.int .i64 x.Val,.int .i64 x.At.A,.int .i64 x.At.B,.int .i64 x.Diff]
 |.item,x=>[.int .i64 x.Key,.int .i64 x.Val,.int .i64 x.Count]
 |.plan,x=>[.int .i64 x.Kind,.int .i64 x.Num,.lst .plan x.Kids]
 |.lrow,xs=>[.lst .row xs]
 |.litem,xs=>[.lst .item xs]
 |.sess,x=>[.int .i64 x.Plan.Kind,.int .i64 x.Plan.Num,.lst .plan x.Plan.Kids,.lst .lrow x.Ins,.lst .time x.Front,.lst .row x.Told]
def Ty.size:Ty->Nat
 |.time=>2|.row=>5|.item=>3|.plan=>3|.sess=>6|_=>1
def dC:List C->Option Int
 |[.int .i64 n]=>some n
 |_=>none
def eC:List C->Option Int
 |[.int .u8 n]=>some n
 |_=>none
def fC:List C->Option Bool
 |[.bool b]=>some b
 |_=>none
def gC:List C->Option ByteArray
 |[.str s]=>some s
 |_=>none
def iC:List C->Option Time
 |[.int .i64 a,.int .i64 b]=>some ⟨a,b⟩
 |_=>none
def jC:List C->Option Row
 |[.int .i64 k,.int .i64 v,.int .i64 a,.int .i64 b,.int .i64 d]=>some ⟨k,v,⟨a,b⟩,d⟩
 |_=>none
def lC:List C->Option Item
 |[.int .i64 k,.int .i64 v,.int .i64 d]=>some ⟨k,v,d⟩
 |_=>none
def mC:List C->Option Plan
 |[.int .i64 k,.int .i64 n,.lst .plan xs]=>some ⟨k,n,xs⟩
 |_=>none
def nC:List C->Option (List Row)
 |[.lst .row xs]=>some xs
 |_=>none
def oC:List C->Option (List Item)
 |[.lst .item xs]=>some xs
 |_=>none
def pC:List C->Option Sess
 |[.int .i64 k,.int .i64 n,.lst .plan xs,.lst .lrow i,.lst .time f,.lst .row r]=>some ⟨⟨k,n,xs⟩,i,f,r⟩
 |_=>none
def pack:(t:Ty)->List C->Option t.T
 |.int,cs=>dC cs
 |.byte,cs=>eC cs
 |.bool,cs=>fC cs
 |.str,cs=>gC cs
 |.time,cs=>iC cs
 |.row,cs=>jC cs
 |.item,cs=>lC cs
 |.plan,cs=>mC cs
 |.lrow,cs=>nC cs
 |.litem,cs=>oC cs
 |.sess,cs=>pC cs
def Sk:(t u:Ty)->List u.T->Option (List t.T)
 |.int,.int,xs=>some xs
 |.byte,.byte,xs=>some xs
 |.bool,.bool,xs=>some xs
 |.str,.str,xs=>some xs
 |.time,.time,xs=>some xs
 |.row,.row,xs=>some xs
 |.item,.item,xs=>some xs
 |.plan,.plan,xs=>some xs
 |.lrow,.lrow,xs=>some xs
 |.litem,.litem,xs=>some xs
 |.sess,.sess,xs=>some xs
 |_,_,_=>none
def VY:(t:Ty)->t.T
 |.int=>(0:Int)|.byte=>(0:Int)|.bool=>false|.str=>ByteArray.empty|.time=>⟨0,0⟩|.row=>⟨0,0,⟨0,0⟩,0⟩|.item=>⟨0,0,0⟩
 |.plan=>⟨0,0,[]⟩|.lrow=>[]|.litem=>[]|.sess=>⟨⟨0,0,[]⟩,[],[],[]⟩
def rd(t:Ty)(xs:List t.T)(i:Int):t.T:=xs.getD i.toNat (VY t)
def ba(t:Ty)(xs:List t.T):Int:=(xs.length:Int)
def fa(s:ByteArray):Int:=(s.size:Int)
def seq(a b:ByteArray):Bool:=a.toList == b.toList
def Tc(s:ByteArray)(i:Int):Int:=((s.toList.getD i.toNat 0).toNat:Int)
def Jc(s:ByteArray)(i j:Int):ByteArray:=s.extract i.toNat j.toNat
def mx(a b:Int):Int:=if b > a then b else a
def mn(a b:Int):Int:=if b<a then b else a
def inb(i n:Int):Prop:=0<=i/\i<n
def le3(a b c:Int):Prop:=0<=a/\a<=b/\b<=c
def lim(a b:Int):Prop:=a+b<=1099511627776
def ni(p q:Int):Prop:=p=q/\0<=p/\p<=1099511627776
def ar(op:BinOp)(k:aaQ)(a b:Int):Int:=
 match op with
 |.add=>k.wrap (a+b)
 |.sub=>k.wrap (a - b)
 |.mul=>k.wrap (a*b)
 |.quo=>k.wrap (a.tdiv b)
 |_=>a.tmod b
def xr(k:aaQ)(a b:Int):Int:=k.wrap ((BitVec.ofInt k.bits a ^^^ BitVec.ofInt k.bits b).toNat)
def cmp(op:BinOp)(a b:Int):Bool:=
 match op with
 |.eql=>a == b
 |.neq=>a != b
 |.lss=>decide (a<b)
 |.leq=>decide (a<=b)
 |.gtr=>decide (a > b)
 |_=>decide (a >= b)
inductive K where
 |sh
 |fr
 |acc (fr:Bool)
 |own (fr:Bool)
def frK:Bool->K
 |true=>.fr
 |false=>.sh
def Dr:C->Bool
 |.int _ _=>true
 |.bool _=>true
 |.str _=>true
 |_=>false
def kC(f:Bool)(c:C):K:=
 match Dr c with
 |true=>.fr
 |false=>frK f
def Um:List C->Bool
 |[]=>true
 |c::r=>Dr c&&Um r
def upF(f:Bool)(cs:List C):Bool:=
 match Um cs with
 |true=>true
 |false=>f
abbrev Key:=List (Nat×Bool×Bool)
def Rb:Key->Bool
 |[]=>true
 |(_,true,x)::r=>x&&Rb r
 |(_,false,x)::r=>!x&&Rb r
def sameKey:Key->Key->Bool
 |[],[]=>true
 |(n,a,_)::r,(m,b,_)::r'=>aaq n m&&((a == b)&&sameKey r r')
 |_,_=>false
def sub(k:Key):Key->Bool
 |[]=>sameKey k []
 |t::r=>sameKey k (t::r)||sub k r
structure PV where
 fr:Bool
 agg:Bool
 cs:List C
inductive AV where
 |dead
 |v (k:K) (c:C)
 |agg (fr:Bool) (cs:List C)
 |tup (l:List PV)
 |cond (k:Key) (a:AV)
 |box (cs:List (K×C))
 |view (s:Nat) (o:Option Nat)
 |baddr (s o:Nat)
 |faddr (fr:Bool) (cs:List C)
 |oaddr (s:Nat) (i:Int) (o:Nat)
inductive Sh where
 |scalar
 |struct (fs:List (Nat×Nat))
 |slice (elem:Nat)
structure TD where
 sh:Sh
 size:Nat
 zero:List C
 ty:Option Ty
 eq:Bool:=false
abbrev TT:=List (Nat×TD)
def lk:TT->Nat->Option TD
 |[],_=>none
 |(n,d)::r,t=>match aaq n t with
  |true=>some d
  |false=>lk r t
def qC(tt:TT)(t:Nat):Nat:=
 match lk tt t with
 |some ⟨.slice e,_,_,_,_⟩=>e
 |_=>0
def qj(tt:TT)(t:Nat):Option (Ty×TD):=
 match lk tt t with
 |some ⟨.slice e,_,_,_,_⟩=>match lk tt e with
  |some d=>match d.ty with
   |some y=>some (y,d)
   |none=>none
  |none=>none
 |_=>none
def rC(tt:TT)(t:Nat)(cs:List C):Bool:=
 match lk tt t with
 |some d=>d.eq&&aaq cs.length d.size
 |none=>false
def zh(tt:TT)(t:Nat):Value->Option C
 |.int k n=>some (.int k n)
 |.bool b=>some (.bool b)
 |.string s=>some (.str s)
 |.slice none 0 0=>match qj tt t with
  |some (y,_)=>some (.nl y)
  |none=>none
 |_=>none
abbrev Get:=Nat->AV
def rdo(tt:TT)(g:Get)(t:Nat):aav->AV
 |.tmp n=>g n
 |.const v=>match zh tt t v with
  |some c=>.v .fr c
  |none=>.dead
 |_=>.dead
def bears:AV->Bool
 |.v (.acc _) _=>true
 |.v (.own _) _=>true
 |.box _=>true
 |_=>false
def Nf:AV->Bool
 |.cond _ _=>true
 |_=>false
def strip(k:Key):AV->AV
 |.cond k' a=>match sub k' k,Nf a||bears a with
  |true,false=>a
  |_,_=>.dead
 |a=>a
def plainR(g:Get):AV->Option (Bool×PV)
 |.v .sh c=>some (false,⟨false,false,[c]⟩)
 |.v .fr c=>some (false,⟨true,false,[c]⟩)
 |.v (.acc f) c=>some (false,⟨f,false,[c]⟩)
 |.v (.own f) c=>some (true,⟨f,false,[c]⟩)
 |.agg f cs=>some (false,⟨f,true,cs⟩)
 |.view s none=>match g s with
  |.v (.acc f) c=>some (false,⟨f,false,[c]⟩)
  |.v (.own f) c=>some (true,⟨f,false,[c]⟩)
  |_=>none
 |.view s (some o)=>match g s with
  |.box cs=>match cs[o]? with
   |some (.acc f,c)=>some (false,⟨f,false,[c]⟩)
   |_=>none
  |_=>none
 |_=>none
def plain(g:Get)(a:AV):Option (Bool×PV):=
 match plainR g a with
 |some (b,⟨f,x,cs⟩)=>some (b,⟨f,x,norms cs⟩)
 |none=>none
def PV.av:PV->AV
 |⟨f,false,[c]⟩=>.v (frK f) c
 |⟨f,true,cs⟩=>.agg f cs
 |_=>.dead
def Xd:List (K×C)->Option (Bool×List C)
 |[]=>some (true,[])
 |(.sh,c)::r=>match Xd r with
  |some (_,cs)=>some (false,c::cs)
  |none=>none
 |(.fr,c)::r=>match Xd r with
  |some (f,cs)=>some (f,c::cs)
  |none=>none
 |(.acc b,c)::r=>match Xd r with
  |some (f,cs)=>some (b&&f,c::cs)
  |none=>none
 |(.own _,_)::_=>none
inductive PT where
 |int (k:aaQ)
 |bool
 |str
 |lst (t:Ty)
 |st (t:Ty)
 |rdr
@[reducible] def PT.T:PT->Type
  |.int _=>Int|.bool=>Bool|.str=>ByteArray|.lst t=>List t.T|.st t=>t.T|.rdr=>List Int×Int
@[reducible] def Ab:List PT->Type
  |[]=>Unit
  |p::ps=>p.T×Ab ps
def oi:aaQ->aaQ->Bool
 |.i8,.i8=>true|.i16,.i16=>true|.i32,.i32=>true|.i64,.i64=>true
 |.u8,.u8=>true|.u16,.u16=>true|.u32,.u32=>true|.u64,.u64=>true|_,_=>false
def Og:(p:PT)->PV->Option p.T
 |.int k,⟨_,false,[.int k' n]⟩=>match oi k k' with
  |true=>some n
  |false=>none
 |.bool,⟨_,false,[.bool b]⟩=>some b
 |.str,⟨_,false,[.str s]⟩=>some s
 |.lst t,⟨_,false,[.lst u xs]⟩=>Sk t u xs
 |.st t,⟨_,true,cs⟩=>pack t cs
 |_,_=>none
inductive RT where
 |one (k:K) (p:PT)
 |rdr
 |tup (l:List (Bool×PT))
@[reducible] def Tup:List (Bool×PT)->Type
  |[]=>Unit
  |p::ps=>p.2.T×Tup ps
@[reducible] def RT.T:RT->Type
  |.one _ p=>p.T
  |.rdr=>List Int×Int
  |.tup l=>Tup l
def enc1:(p:PT)->p.T->Bool×List C
 |.int k,n=>(false,[.int k n])
 |.bool,b=>(false,[.bool b])
 |.str,s=>(false,[.str s])
 |.lst t,xs=>(false,[.lst t xs])
 |.st t,x=>(true,cells t x)
 |.rdr,_=>(false,[])
def Er:(l:List (Bool×PT))->Tup l->List PV
 |[],_=>[]
 |(f,p)::r,x=>⟨f,(enc1 p x.1).1,(enc1 p x.1).2⟩::Er r x.2
def Gr:K->Bool
 |.sh=>false
 |.fr=>true
 |.acc f=>f
 |.own f=>f
def RT.av:(r:RT)->r.T->AV
 |.one k p,x=>match enc1 p x with
  |(true,cs)=>.agg (Gr k) cs
  |(false,[c])=>.v k c
  |_=>.dead
 |.rdr,x=>.box [(.sh,.lst .byte x.1),(.fr,.int .i64 x.2)]
 |.tup l,x=>.tup (Er l x)
def Hr:List (Bool×PT)->Bool
 |[]=>true
 |(true,_)::r=>Hr r
 |(false,_)::_=>false
def RT.fresh:RT->Bool
 |.one k _=>Gr k
 |.rdr=>false
 |.tup l=>Hr l
structure Spec where
 pts:List PT
 rt:RT
 io:Bool
 val:Ab pts->rt.T×Int
 pre:Ab pts->Prop
abbrev SP:=List (Nat×Spec)
def spk:SP->Nat->Option Spec
 |[],_=>none
 |(n,d)::r,t=>match aaq n t with
  |true=>some d
  |false=>spk r t
def qi(g:Get)(p:PT)(a:AV):Option (Bool×p.T):=
 match plain g a with
 |some (bo,pv)=>match Og p pv with
  |some x=>some (bo,x)
  |none=>none
 |none=>none
def kg{p:PT}{ps:List PT}(x:Option (Bool×p.T))(y:Option (Bool×Option Nat×Ab ps)):Option (Bool×Option Nat×Ab (p::ps)):=
 match x,y with
 |some (bo,x),some (bo',s,xs)=>some (bo||bo',s,(x,xs))
 |_,_=>none
def Vm(g:Get):AV->Option (Nat×(List Int×Int))
 |.view s none=>match g s with
  |.box [(.sh,.lst .byte b),(.fr,.int .i64 p)]=>some (s,(b,p))
  |_=>none
 |_=>none
def Wb(g:Get):(ps:List PT)->List AV->Option (Bool×Option Nat×Ab ps)
 |[],[]=>some (false,none,())
 |.rdr::ps,a::r=>match Vm g a,Wb g ps r with
  |some (s,x),some (bo,none,xs)=>some (bo,some s,(x,xs))
  |_,_=>none
 |.int k::ps,a::r=>kg (qi g (.int k) a) (Wb g ps r)
 |.bool::ps,a::r=>kg (qi g .bool a) (Wb g ps r)
 |.str::ps,a::r=>kg (qi g .str a) (Wb g ps r)
 |.lst t::ps,a::r=>kg (qi g (.lst t) a) (Wb g ps r)
 |.st t::ps,a::r=>kg (qi g (.st t) a) (Wb g ps r)
 |_,_=>none
structure Out where
 av:AV
 obs:List Prop
 io:Option (Nat×Int)
def Ib:List C->List C->Option Bool
 |[],[]=>some true
 |.int k a::r,.int k' b::r'=>match oi k k',Ib r r' with
  |true,some e=>some (cmp .eql a b&&e)
  |_,_=>none
 |_,_=>none
def sC(tt:TT)(t:Nat):Bool:=
 match lk tt t with
 |some d=>match d.sh,d.zero with
  |.scalar,[.bool _]=>true
  |_,_=>false
 |none=>false
def tC(tt:TT)(t:Nat)(p:PV):Bool:=
 match p.agg with
 |true=>!rC tt t p.cs
 |false=>match p.cs with
  |[.bool _]=>!sC tt t
  |_=>false
def bin(op:BinOp)(x y:PV):Option (C×List Prop):=
 match x,y with
 |⟨_,false,[.int k a]⟩,⟨_,false,[.int k' b]⟩=>match oi k k' with
  |true=>match op with
   |.add=>some (.int k (ar .add k a b),[])
   |.sub=>some (.int k (ar .sub k a b),[])
   |.mul=>some (.int k (ar .mul k a b),[])
   |.quo=>some (.int k (ar .quo k a b),[b≠0])
   |.rem=>some (.int k (ar .rem k a b),[b≠0])
   |.xor=>some (.int k (xr k a b),[])
   |.eql=>some (.bool (cmp .eql a b),[])
   |.neq=>some (.bool (cmp .neq a b),[])
   |.lss=>some (.bool (cmp .lss a b),[])
   |.leq=>some (.bool (cmp .leq a b),[])
   |.gtr=>some (.bool (cmp .gtr a b),[])
   |.geq=>some (.bool (cmp .geq a b),[])
   |_=>none
  |false=>none
 |⟨_,false,[.str a]⟩,⟨_,false,[.str b]⟩=>match op with
  |.add=>some (.str (a++b),[lim (fa a) (fa b)])
  |.eql=>some (.bool (seq a b),[])
  |.neq=>some (.bool (!seq a b),[])
  |_=>none
 |⟨_,false,[.bool a]⟩,⟨_,false,[.bool b]⟩=>match op with
  |.eql=>some (.bool (a == b),[])
  |.neq=>some (.bool (!(a == b)),[])
  |_=>none
 |⟨_,true,cs⟩,⟨_,true,ds⟩=>match op,Ib cs ds with
  |.eql,some b=>some (.bool b,[])
  |.neq,some b=>some (.bool (!b),[])
  |_,_=>none
 |_,_=>none
def setCells:List C->Nat->List C->List C
 |[],_,_=>[]
 |_::r,0,d::ds=>d::setCells r 0 ds
 |c::r,0,[]=>c::r
 |c::r,n+1,ds=>c::setCells r n ds
def Uk(fs:List (Nat×Nat)):List (Nat×PV)->Bool×List C->Option (Bool×List C)
 |[],r=>some r
 |(i,p)::ps,(f,cs)=>match fs[i]? with
  |some (o,n)=>match aaq p.cs.length n&&aaY (o+n) cs.length with
   |true=>Uk fs ps (f&&p.fr,setCells cs o p.cs)
   |false=>none
  |none=>none
def rj(g:Get):List (Nat×AV)->Option (List (Nat×PV))
 |[]=>some []
 |(i,a)::r=>match plainR g a with
  |some (false,pv)=>match rj g r with
   |some l=>some ((i,pv)::l)
   |none=>none
  |_=>none
def sj(t:Ty)(sz:Nat):List (Nat×PV)->Nat->Option (Bool×List t.T)
 |[],_=>some (true,[])
 |(j,p)::ps,i=>match aaq j i&&aaq p.cs.length sz,pack t (norms p.cs),sj t sz ps (i+1) with
  |true,some x,some (f,xs)=>some (p.fr&&f,x::xs)
  |_,_,_=>none
def isAgg:TD->Bool
 |⟨.struct _,_,_,_,_⟩=>true
 |_=>false
def Ir(d:TD)(s o:Nat)(cs:List (K×C)):Option AV:=
 match isAgg d with
 |true=>match Xd ((cs.drop o).take d.size),aaY (o+d.size) cs.length with
  |some (f,l),true=>some (.agg f l)
  |_,_=>none
 |false=>match cs.drop o with
  |(.sh,c)::_=>some (.v .sh c)
  |(.fr,c)::_=>some (.v .fr c)
  |(.acc _,_)::_=>some (.view s (some o))
  |_=>none
def Te(g:Get)(d:TD):AV->Option AV
 |.faddr f cs=>match isAgg d with
  |true=>match aaY d.size cs.length with
   |true=>some (.agg (upF f (cs.take d.size)) (cs.take d.size))
   |false=>none
  |false=>match cs with
   |c::_=>some (.v (kC f c) c)
   |[]=>none
 |.baddr s o=>match g s with
  |.box cs=>Ir d s o cs
  |_=>none
 |.view s none=>match g s with
  |.box cs=>Ir d s 0 cs
  |_=>none
 |.oaddr s i o=>match g s with
  |.v (.own f) (.lst t xs)=>match isAgg d with
   |true=>match aaY (o+d.size) (cells t (rd t xs i)).length with
    |true=>some (.agg (upF f (((cells t (rd t xs i)).drop o).take d.size)) (((cells t (rd t xs i)).drop o).take d.size))
    |false=>none
   |false=>match(cells t (rd t xs i)).drop o with
    |c::_=>some (.v (kC f c) c)
    |[]=>none
  |_=>none
 |_=>none
def addrOf(g:Get):aav->AV
 |.tmp n=>match g n with
  |.box _=>.view n none
  |a=>a
 |_=>.dead
def Ue(g:Get)(o:Nat):AV->Option AV
 |.faddr f cs=>some (.faddr f (cs.drop o))
 |.baddr s p=>some (.baddr s (p+o))
 |.view s none=>match g s with
  |.box _=>some (.baddr s o)
  |_=>none
 |.oaddr s i p=>some (.oaddr s i (p+o))
 |_=>none
def Vk(tt:TT)(t:Nat):Bool:=
 match lk tt t with
 |some ⟨.scalar,_,[.str _],_,_⟩=>true
 |_=>false
def Jr(tt:TT)(t:Nat):Bool:=
 match lk tt t with
 |some ⟨.slice _,_,_,_,_⟩=>true
 |_=>false
def Wm(tt:TT)(t:Nat):Option Nat:=
 match qj tt t with
 |some (_,d)=>some d.size
 |none=>none
def lenOf(tt:TT)(g:Get)(t:Nat)(a:AV):Option C:=
 match plain g a with
 |some (_,⟨_,false,[.lst y xs]⟩)=>match Jr tt t with
  |true=>some (.int .i64 (ba y xs))
  |false=>none
 |some (_,⟨_,false,[.str s]⟩)=>match Vk tt t with
  |true=>some (.int .i64 (fa s))
  |false=>none
 |_=>none
def mk1(a:AV)(obs:List Prop):Option Out:=some ⟨a,obs,none⟩
def Xm(g:Get)(s:Nat):AV:=
 match g s with
 |.v (.acc _) _=>.view s none
 |.v (.own _) _=>.view s none
 |.box _=>.view s none
 |a=>a
def ri(g:Get)(a:AV):Option Int:=
 match plainR g a with
 |some (_,⟨_,false,[.int _ n]⟩)=>some n
 |_=>none
def Ym(g:Get)(sz:Nat)(n:Int):AV->Option Out
 |.view s none=>match g s with
  |.v (.own _) (.lst y xs)=>match aaq sz y.size with
   |true=>mk1 (.oaddr s n 0) [inb n (ba y xs)]
   |false=>none
  |.v (.acc f) (.lst y xs)=>match aaq sz y.size with
   |true=>mk1 (.faddr f (cells y (rd y xs n))) [inb n (ba y xs)]
   |false=>none
  |_=>none
 |a=>match plain g a with
  |some (false,⟨f,false,[.lst y xs]⟩)=>match aaq sz y.size with
   |true=>mk1 (.faddr f (cells y (rd y xs n))) [inb n (ba y xs)]
   |false=>none
  |_=>none
def Kr(sz:Nat)(m:Int)(h:Option Int):Bool×PV->Option Out
 |(false,⟨f,false,[.lst y xs]⟩)=>match aaq sz y.size,h with
  |true,none=>mk1 (.v (frK f) (.lst y (xs.drop m.toNat))) [le3 m (ba y xs) (ba y xs)]
  |true,some n=>mk1 (.v (frK f) (.lst y ((xs.take n.toNat).drop m.toNat))) [le3 m n (ba y xs)]
  |_,_=>none
 |_=>none
def Mr(m:Int)(h:Option Int):Bool×PV->Option Out
 |(_,⟨_,false,[.str s]⟩)=>match h with
  |none=>mk1 (.v .fr (.str (Jc s m (fa s)))) [le3 m (fa s) (fa s)]
  |some n=>mk1 (.v .fr (.str (Jc s m n))) [le3 m n (fa s)]
 |_=>none
def Xk(tt:TT)(t:Nat)(m:Int)(h:Option Int)(v:Bool×PV):Option Out:=
 match Wm tt t,Vk tt t with
 |some sz,_=>Kr sz m h v
 |none,true=>Mr m h v
 |none,false=>none
def bound(tt:TT)(g:Get):Option aav->Option (Option Int)
 |none=>some none
 |some x=>match ri g (rdo tt g 0 x) with
  |some n=>some (some n)
  |none=>none
def Nr(g:Get)(s:Spec)(avs:List AV):Option Out:=
 match Wb g s.pts avs with
 |some (bo,r,xs)=>match bo&&(s.io||!s.rt.fresh),r,s.io with
  |false,none,false=>some ⟨s.rt.av (s.val xs).1,[s.pre xs],none⟩
  |false,some r,true=>some ⟨s.rt.av (s.val xs).1,[s.pre xs],some (r,(s.val xs).2)⟩
  |_,_,_=>none
 |none=>none
def si:aav->AV->AV
 |.tmp n,.box _=>.view n none
 |_,a=>a
def Yd(tt:TT)(g:Get):List aav->List Nat->List AV
 |x::xs,t::ts=>si x (rdo tt g t x)::Yd tt g xs ts
 |_,_=>[]
def tj(tt:TT)(g:Get)(t:Nat):List (Nat×aav)->List (Nat×AV)
 |[]=>[]
 |(i,x)::r=>(i,rdo tt g t x)::tj tt g t r
def Pr(tt:TT)(raw:Get)(k:Key)(t:Nat)(c a b:aav):Option Out:=
 match c with
 |.tmp n=>match strip k (raw n) with
  |.v _ (.bool x)=>match strip ((n,true,x)::k) (rdo tt raw t a),strip ((n,false,x)::k) (rdo tt raw t b) with
   |.v _ (.bool p),.v _ (.bool q)=>mk1 (.v .fr (.bool (cond x p q))) []
   |_,_=>none
  |_=>none
 |_=>none
def ui(xs:List Int):ByteArray:=⟨(xs.map λn=>UInt8.ofNat n.toNat).toArray⟩
def mkK:Ty->K
 |.lrow=>.acc true
 |.litem=>.acc true
 |_=>.own true
def sev(tt:TT)(sp:SP)(raw:Get)(k:Key)(g:Get)(oty:Nat):Op->Option Out
 |.move (.tmp s)=>mk1 (Xm g s) []
 |.move x=>mk1 (rdo tt g oty x) []
 |.assign (.tmp s)=>mk1 (Xm g s) []
 |.assign x=>mk1 (rdo tt g oty x) []
 |.nilCheck (.tmp s)=>match g s with
  |.box _=>mk1 (.view s none) []
  |.view n none=>match g n with
   |.box _=>mk1 (.view n none) []
   |_=>none
  |_=>none
 |.pick c a b=>Pr tt raw k oty c a b
 |.binOp op t x y yt=>match plain g (rdo tt g t x),plain g (rdo tt g yt y) with
  |some (_,p),some (_,q)=>match tC tt t p,bin op p q with
   |false,some (c,obs)=>mk1 (.v .fr c) obs
   |_,_=>none
  |_,_=>none
 |.unOp op t x=>match op,plain g (rdo tt g t x) with
  |.not,some (_,⟨_,false,[.bool b]⟩)=>mk1 (.v .fr (.bool (!b))) []
  |.neg,some (_,⟨_,false,[.int k n]⟩)=>mk1 (.v .fr (.int k (k.wrap (0 - n)))) []
  |_,_=>none
 |.convert s t x=>match plain g (rdo tt g s x),lk tt t,lk tt s with
  |some (_,⟨_,false,[.int _ n]⟩),some ⟨.scalar,_,[.int k _],_,_⟩,some _=>mk1 (.v .fr (.int k (k.wrap n))) []
  |some (false,⟨_,false,[.lst .byte xs]⟩),some ⟨.scalar,_,[.str _],_,_⟩,some ⟨.slice e,_,_,_,_⟩=>match lk tt e with
   |some ⟨.scalar,_,[.int .u8 _],_,_⟩=>mk1 (.v .fr (.str (ui xs))) []
   |_=>none
  |_,_,_=>none
 |.box t x=>match plainR g (rdo tt g t x),lk tt t with
  |some (false,⟨f,_,cs⟩),some d=>match aaq cs.length d.size with
   |true=>mk1 (.box (cs.map λc=>(kC f c,c))) []
   |false=>none
  |_,_=>none
 |.alloc t=>match lk tt t with
  |some d=>mk1 (.box (d.zero.map λc=>(.fr,c))) []
  |none=>none
 |.build t ps=>match lk tt t with
  |some ⟨.struct fs,_,z,_,_⟩=>match rj g (tj tt g 0 ps.toList) with
   |some l=>match Uk fs l (true,z) with
    |some (f,cs)=>mk1 (.agg f cs) []
    |none=>none
   |none=>none
  |_=>none
 |.buildSlice t n ps=>match qj tt t with
  |some (y,d)=>match rj g (tj tt g (qC tt t) ps.toList) with
   |some l=>match sj y d.size l 0,aaq l.length n&&aaY (n*d.size) 16777216 with
    |some (f,xs),true=>mk1 (.v (.acc f) (.lst y xs)) []
    |_,_=>none
   |none=>none
  |none=>none
 |.load t x=>match lk tt t with
  |some d=>match Te g d (addrOf g x) with
   |some r=>mk1 r []
   |none=>none
  |none=>none
 |.fieldAddr t x i=>match lk tt t with
  |some ⟨.struct fs,_,_,_,_⟩=>match fs[i]? with
   |some (o,_)=>match Ue g o (addrOf g x) with
    |some r=>mk1 r []
    |none=>none
   |none=>none
  |_=>none
 |.indexAddr t x i=>match Wm tt t,ri g (rdo tt g 0 i) with
  |some sz,some n=>Ym g sz n (rdo tt g t x)
  |_,_=>none
 |.index t x i=>match Vk tt t,plain g (rdo tt g t x),ri g (rdo tt g 0 i) with
  |true,some (_,⟨_,false,[.str s]⟩),some n=>mk1 (.v .fr (.int .u8 (Tc s n))) [inb n (fa s)]
  |_,_,_=>none
 |.slice t x lo hi none=>match plain g (rdo tt g t x),bound tt g lo,bound tt g hi with
  |some v,some none,some h=>Xk tt t 0 h v
  |some v,some (some m),some h=>Xk tt t m h v
  |_,_,_=>none
 |.makeSlice t n m=>match ri g (rdo tt g 0 n),ri g (rdo tt g 0 m),qj tt t with
  |some p,some q,some (y,d)=>match pack y (norms d.zero) with
   |some z=>mk1 (.v (mkK y) (.lst y (abt p.toNat z))) [ni p q]
   |none=>none
  |_,_,_=>none
 |.extract x i=>match rdo tt g 0 x with
  |.tup l=>match l[i]? with
   |some p=>mk1 p.av []
   |none=>none
  |_=>none
 |.call ⟨.builtin .len,args,ts⟩=>match args.toList,ts.toList with
  |[x],[t]=>match lenOf tt g t (rdo tt g t x) with
   |some c=>mk1 (.v .fr c) []
   |none=>none
  |_,_=>none
 |.call ⟨.builtin .max,args,_⟩=>match args.toList with
  |[x,y]=>match plain g (rdo tt g 0 x),plain g (rdo tt g 0 y) with
   |some (_,⟨_,false,[.int k p]⟩),some (_,⟨_,false,[.int _ q]⟩)=>mk1 (.v .fr (.int k (mx p q))) []
   |_,_=>none
  |_=>none
 |.call ⟨.builtin .min,args,_⟩=>match args.toList with
  |[x,y]=>match plain g (rdo tt g 0 x),plain g (rdo tt g 0 y) with
   |some (_,⟨_,false,[.int k p]⟩),some (_,⟨_,false,[.int _ q]⟩)=>mk1 (.v .fr (.int k (mn p q))) []
   |_,_=>none
  |_=>none
 |.call ⟨.value (.func f),args,ts⟩=>match spk sp f with
  |some s=>match aaq args.size ts.size with
   |true=>Nr g s (Yd tt g args.toList ts.toList)
   |false=>none
  |none=>none
 |_=>none
def Ga:AV->Bool
 |.dead=>true
 |_=>false
def unview(d:Nat)(old:AV):AV->AV
 |.view s o=>match aaq s d with
  |true=>match o,old with
   |none,.v (.acc f) c=>.v (frK f) c
   |_,_=>.dead
  |false=>.view s o
 |.baddr s o=>match aaq s d with
  |true=>.dead
  |false=>.baddr s o
 |.oaddr s i o=>match aaq s d with
  |true=>.dead
  |false=>.oaddr s i o
 |.cond _ _=>.dead
 |a=>a
abbrev Env:=List (Nat×AV)
def da:Env->Nat->AV
 |[],_=>.dead
 |(m,a)::r,n=>match aaq m n with
  |true=>a
  |false=>da r n
def Ta(e:Env)(d:Nat)(a:AV):Env:=(d,a)::e
def mc(f:AV->AV):Env->Env
 |[]=>[]
 |(n,a)::r=>(n,f a)::mc f r
def put(e:Env)(d:Nat)(a:AV):Env:=
 match Ga (da e d) with
 |true=>Ta e d a
 |false=>Ta (mc (unview d (da e d)) e) d a
def guardOf(g:Get)(dsts:List (Option Nat)):Option (Nat×Bool)->Option Key
 |none=>some []
 |some (j,b)=>match dsts[j]? with
  |some (some d)=>match g d with
   |.v _ (.bool x)=>some [(d,b,x)]
   |.cond k (.v _ (.bool x))=>some ((d,b,x)::k)
   |_=>none
  |_=>none
def Uc(e:Env)(k:Key):Option (Nat×Int)->Option Env
 |none=>some e
 |some (s,p)=>match da e s with
  |.box [(.sh,b),(.fr,.int .i64 q)]=>match k with
   |[]=>some (Ta e s (.box [(.sh,b),(.fr,.int .i64 p)]))
   |k=>some (Ta e s (.box [(.sh,b),(.fr,.int .i64 (cond (Rb k) p q))]))
  |_=>none
def Ah(k:Key):List Prop->List Prop
 |[]=>[]
 |p::r=>match k with
  |[]=>p::Ah k r
  |k=>(Rb k=true->p)::Ah k r
def Pg:Key->AV->AV
 |[],a=>a
 |t::k,a=>.cond (t::k) a
def Qr(d:Nat):Key->Bool
 |[]=>false
 |(n,_,_)::r=>match aaq n d with
  |true=>true
  |false=>Qr d r
def Bh(d:Nat):AV->Bool
 |.view n _=>aaq n d
 |.baddr n _=>aaq n d
 |.oaddr n _ _=>aaq n d
 |.cond k a=>Qr d k||Bh d a
 |_=>false
def stepW(tt:TT)(sp:SP)(dsts:List (Option Nat))(w:Env->Nat->AV->Option Env)(g:Get)(e:Env)(o:Oper):Option (Env×List Prop):=
 match guardOf g dsts o.guard with
 |none=>none
 |some k=>match sev tt sp g k (λn=>strip k (g n)) o.type o.op,o.dst with
  |some ⟨av,obs,io⟩,some d=>match Uc e k io,bears av&&!k.isEmpty with
   |some e1,false=>match Bh d (Pg k av)||(!k.isEmpty&&!Ga (da e1 d)),w e1 d (Pg k av) with
    |false,some e2=>some (e2,Ah k obs)
    |_,_=>none
   |_,_=>none
  |_,_=>none
def setW(e:Env)(d:Nat)(a:AV):Option Env:=
 match Ga (da e d) with
 |true=>some (Ta e d a)
 |false=>none
def Qg(e:Env)(d:Nat)(a:AV):Option Env:=some (put e d a)
def uj(e:Env)(s:Nat):Env:=
 match da e s with
 |.v (.acc f) c=>Ta (mc (unview s (.v (.acc f) c)) e) s (.v (frK f) c)
 |_=>e
def Rr(s o:Nat):AV->Bool
 |.view s' (some o')=>aaq s s'&&aaq o o'
 |_=>false
def unviewCell(s o:Nat)(k:K)(c:C)(a:AV):AV:=
 match Rr s o a,Nf a with
 |true,_=>.v k c
 |false,true=>.dead
 |false,false=>a
def uC(e:Env)(x:AV)(slot:Option Nat):Option (Bool×C×Env):=
 match x with
 |.v _ (.nl t)=>some (true,.lst t [],e)
 |.v (.acc f) c=>match slot with
  |some s=>some (f,c,uj e s)
  |none=>none
 |.view s none=>match da e s with
  |.v (.acc f) c=>some (f,norm c,uj e s)
  |_=>none
 |.view s (some o)=>match da e s with
  |.box cs=>match cs[o]? with
   |some (.acc f,c)=>some (f,norm c,Ta (mc (unviewCell s o (frK f) c) e) s (.box (cs.set o (frK f,c))))
   |_=>none
  |_=>none
 |_=>none
def Ch:aav->Option Nat
 |.tmp n=>some n
 |_=>none
def putK:List (K×C)->Nat->List (K×C)->List (K×C)
 |[],_,_=>[]
 |_::r,0,d::ds=>d::putK r 0 ds
 |c::r,0,[]=>c::r
 |c::r,n+1,ds=>c::putK r n ds
def ve(s:Nat):AV->AV
 |.view s' (some o')=>match aaq s s' with
  |true=>.dead
  |false=>.view s' (some o')
 |.cond _ _=>.dead
 |a=>a
def Ur(e:Env)(x:AV)(slot:Option Nat):Option (List (K×C)×Env):=
 match x,slot with
 |.v (.acc f) c,some s=>some ([(.acc f,c)],uj e s)
 |x,_=>match plainR (da e) x with
  |some (false,⟨f,_,cs⟩)=>some (cs.map λc=>(kC f c,c),e)
  |_=>none
def we:List (K×C)->Bool
 |[]=>true
 |(.sh,_)::_=>false
 |(.fr,_)::r=>we r
 |(.acc f,_)::r=>f&&we r
 |(.own _,_)::_=>false
def Vr(e1:Env)(s o:Nat)(ks:List (K×C)):Option (Env×List Prop):=
 match da e1 s with
 |.box cs=>match aaY (o+ks.length) cs.length with
  |true=>some (Ta (mc (ve s) e1) s (.box (putK cs o ks)),[])
  |false=>none
 |_=>none
def vC(tt:TT)(e:Env)(t:Nat)(a v:aav):Option (Env×List Prop):=
 match lk tt t with
 |none=>none
 |some d=>match Ur e (rdo tt (da e) t v) (Ch v) with
  |none=>none
  |some (ks,e1)=>match aaq ks.length d.size with
   |false=>none
   |true=>match addrOf (da e1) a with
    |.baddr s o=>Vr e1 s o ks
    |.view s none=>Vr e1 s 0 ks
    |.oaddr s i o=>match da e1 s with
     |.v (.own f) (.lst y xs)=>match aaY (o+ks.length) y.size,pack y (norms (setCells (cells y (rd y xs i)) o (ks.map (·.2)))) with
      |true,some x=>some (Ta e1 s (.v (.own (f&&we ks)) (.lst y (xs.set i.toNat x))),[inb i (ba y xs)])
      |_,_=>none
     |_=>none
    |_=>none
def wC(tt:TT)(e:Env)(d:Nat)(x y:aav)(t u:Nat):Option (Env×List Prop):=
 match plain (da e) (rdo tt (da e) u y) with
 |some (false,⟨f',false,[.lst ty' ys']⟩)=>match uC e (rdo tt (da e) t x) (Ch x) with
  |some (f,.lst ty xs,e1)=>match Sk ty ty' ys',qj tt t with
   |some ys,some (_,dd)=>match aaq dd.size ty.size&&(aaq dd.zero.length ty.size&&aaq t u) with
    |true=>some (put e1 d (.v (.acc (f&&f')) (.lst ty (xs++ys))),[lim (ba ty xs) (ba ty ys)])
    |false=>none
   |_,_=>none
  |_=>none
 |_=>none
def xC(tt:TT)(e:Env)(d:Nat)(x y:aav)(t u:Nat):Option (Env×List Prop):=
 match plain (da e) (rdo tt (da e) u y),rdo tt (da e) t x with
 |some (false,⟨f',false,[.lst ty' ys']⟩),.view s none=>match da e s with
  |.v (.own f) (.lst ty xs)=>match Sk ty ty' ys',Wm tt t with
   |some ys,some sz=>match aaq sz ty.size with
    |true=>some (put (Ta e s (.v (.own (f&&f')) (.lst ty (ys.take xs.length++xs.drop ys.length)))) d (.v .fr (.int .i64 ((Nat.min ys.length xs.length:Nat):Int))),[])
    |false=>none
   |_,_=>none
  |_=>none
 |_,_=>none
def yC(e:Env)(s d:Nat):Option (Env×List Prop):=
 match aaq s d with
 |true=>none
 |false=>some (Ta (put (mc (unview s (da e s)) e) d (da e s)) s (.view d none),[])
def stepF(tt:TT)(sp:SP)(dsts:List (Option Nat))(e:Env)(o:Oper):Option (Env×List Prop):=
 match o.op,o.dst,o.guard with
 |.assign (.tmp s),some d,none=>match bears (da e s) with
  |true=>yC e s d
  |false=>stepW tt sp dsts Qg (da e) e o
 |.store t a v,none,none=>vC tt e t a v
 |.call ⟨.builtin .append,args,ts⟩,some d,none=>match args.toList,ts.toList with
  |[x,y],[t,u]=>wC tt e d x y t u
  |_,_=>none
 |.call ⟨.builtin .copy,args,ts⟩,some d,none=>match args.toList,ts.toList with
  |[x,y],[t,u]=>xC tt e d x y t u
  |_,_=>none
 |_,_,_=>stepW tt sp dsts Qg (da e) e o
def runF(tt:TT)(sp:SP)(dsts:List (Option Nat)):List Oper->Env->Option (Env×List Prop)
 |[],e=>some (e,[])
 |o::r,e=>match stepF tt sp dsts e o with
  |some (e1,p)=>match runF tt sp dsts r e1 with
   |some (e2,q)=>some (e2,p++q)
   |none=>none
  |none=>none
def zC(n:Nat):List Oper->Option Nat
 |[]=>none
 |o::r=>match o.dst with
  |some d=>match aaq d n with
   |true=>match o.op with
    |.move (.tmp s)=>some s
    |.nilCheck (.tmp s)=>some s
    |.fieldAddr _ (.tmp s) _=>some s
    |.indexAddr _ (.tmp s) _=>some s
    |.load _ (.tmp s)=>some s
    |_=>none
   |false=>zC n r
  |none=>zC n r
def roots(ops:List Oper):Nat->Nat->List Nat
 |0,_=>[]
 |k+1,n=>match zC n ops with
  |some s=>s::roots ops k s
  |none=>[]
def tmps:List aav->List Nat
 |[]=>[]
 |.tmp t::r=>t::tmps r
 |_::r=>tmps r
def names(dsts:List (Option Nat))(o:Oper):List Nat:=
 match o.guard with
 |some (j,_)=>match dsts[j]? with
  |some (some d)=>d::tmps o.op.operands.toList
  |_=>tmps o.op.operands.toList
 |none=>tmps o.op.operands.toList
def uO(ops:List Oper):List Nat->List Nat
 |[]=>[]
 |n::r=>n::(roots ops 6 n++uO ops r)
def Cf(ops:List Oper)(dsts:List (Option Nat))(o:Oper):List Nat:=uO ops (names dsts o)
def Dh:List PT->Bool
 |[]=>false
 |.rdr::_=>true
 |_::r=>Dh r
def writes(sp:SP)(ops:List Oper)(dsts:List (Option Nat))(o:Oper):List Nat:=
 match o.op with
 |.call ⟨.value (.func f),_,_⟩=>match spk sp f with
  |some ⟨pts,_,_,_,_⟩=>match Dh pts with
   |true=>o.dst.toList++Cf ops dsts o
   |false=>o.dst.toList
  |none=>o.dst.toList
 |_=>o.dst.toList
def Pf(n:Nat):List Nat->Bool
 |[]=>false
 |m::r=>match aaq n m with
  |true=>true
  |false=>Pf n r
def only(rs:List Nat)(e:Env)(n:Nat):AV:=
 match Pf n rs with
 |true=>da e n
 |false=>.dead
def vO(sp:SP)(ops:List Oper)(dsts:List (Option Nat))(s:Nat):List Oper->Bool
 |[]=>false
 |o::r=>Pf s (writes sp ops dsts o)||vO sp ops dsts s r
def lg(s:Nat):List (Option Nat)->Bool
 |[]=>false
 |none::r=>lg s r
 |some d::r=>match aaq s d with
  |true=>true
  |false=>lg s r
def handed(sp:SP)(ops:List Oper)(dsts:List (Option Nat))(o:Oper):Option (Nat×Nat):=
 match o.op,o.dst,o.guard with
 |.move (.tmp s),some d,none=>match lg s dsts,vO sp ops dsts s ops with
  |false,true=>some (s,d)
  |_,_=>none
 |_,_,_=>none
def reads(sp:SP)(ops:List Oper)(dsts:List (Option Nat))(o:Oper):List Nat:=
 match handed sp ops dsts o with
 |some _=>[]
 |none=>Cf ops dsts o
def Ve:AV->Bool
 |.box _=>true
 |_=>false
def stepS(tt:TT)(sp:SP)(all:List Oper)(dsts:List (Option Nat))(e:Env)(o:Oper):Option (Env×List Prop):=
 match handed sp all dsts o with
 |some (s,d)=>match Ve (da e s)&&!Nat.beq s d,setW e d (.view s none) with
  |true,some e'=>some (e',[])
  |_,_=>none
 |none=>stepW tt sp dsts setW (only (Cf all dsts o) e) e o
def Zm(tt:TT)(sp:SP)(dsts:List (Option Nat))(all:List Oper):List Oper->Env->Option (Env×List Prop)
 |[],e=>some (e,[])
 |o::r,e=>match stepS tt sp all dsts e o with
  |some (e1,p)=>match Zm tt sp dsts all r e1 with
   |some (e2,q)=>some (e2,p++q)
   |none=>none
  |none=>none
def strict(b:Bool)(o:Oper):Bool:=
 match o.op with
 |.assign _=>b
 |.store ..=>true
 |.call ⟨.builtin .append,_,_⟩=>true
 |.call ⟨.builtin .copy,_,_⟩=>true
 |_=>false
def Ad(b:Bool):List Oper->List Oper
 |[]=>[]
 |o::r=>match strict b o with
  |true=>[]
  |false=>o::Ad b r
def wj(b:Bool):List Oper->List Oper
 |[]=>[]
 |o::r=>match strict b o with
  |true=>o::r
  |false=>wj b r
def wO(g:Get):AV->AV
 |.view s o=>match plainR g (.view s o) with
  |some (false,⟨f,_,[c]⟩)=>.v (frK f) c
  |_=>.dead
 |.baddr _ _=>.dead
 |.faddr _ _=>.dead
 |.oaddr _ _ _=>.dead
 |.cond _ _=>.dead
 |.tup _=>.dead
 |.dead=>.dead
 |.v k c=>.v k c
 |.agg f cs=>.agg f cs
 |.box cs=>.box cs
def clean(e:Env):Env:=mc (wO (da e)) e
def mask(e:Env):List Nat->Env
 |[]=>[]
 |k::ks=>(k,da e k)::mask e ks
def transfer(e:Env)(m d:Nat):Env:=put (Ta (mc (unview m (da e m)) e) m .dead) d (da e m)
def settle(keep:List Nat):List Nat->Env->Env
 |[],e=>e
 |d::r,e=>match da e d with
  |.view m none=>match Pf m keep,aaq m d with
   |false,false=>settle keep r (transfer e m d)
   |_,_=>settle keep r e
  |_=>settle keep r e
def TabAt(g:Nat)(cs:Array Value):Prop:=Tryz.prog.globalNamed "internal/strconv.uint64pow10"=some g/\cs=(Lib.pow10Tab.map λz=>Value.int .u64 z).toArray
theorem TabAt.pos{g:Nat}{cs:Array Value}(h:TabAt g cs):0<cs.size:=by
 rw[h.2];simp[Lib.pow10Tab_length]
abbrev Fz:=Nat->Nat->Prop
inductive RC(F:Fz)(lo:Nat)(w:World):C->Value->Prop where
 |int (k:aaQ) (n:Int):RC F lo w (.int k n) (.int k n)
 |bool (b:Bool):RC F lo w (.bool b) (.bool b)
 |str (s:ByteArray):RC F lo w (.str s) (.string s)
 |nl (t:Ty):RC F lo w (.nl t) (.slice none 0 0)
 |nil (t:Ty):RC F lo w (.lst t []) (.slice none 0 0)
 |lst (t:Ty) (xs:List t.T) (b o cap:Nat) (vs:Nat->Nat->Value) (hb:lo<=b) (hcap:xs.length<=cap)
   (hf:∀i j,i<xs.length->j<t.size->F b (o+(i*t.size+j)))
   (hc:∀i j,i<xs.length->j<t.size->w.cell? ⟨b,o+(i*t.size+j),none⟩=some (vs i j))
   (hr:∀i j x c,xs[i]? = some x->(cells t x)[j]? = some c->RC F lo w c (vs i j)) :
   RC F lo w (.lst t xs) (.slice (some ⟨b,o,none⟩) xs.length cap)
theorem We(t:Ty)(x:t.T):(cells t x).length=t.size:=by
 cases t<;>rfl
theorem Yk(t:Ty):0<t.size:=by cases t<;>decide
theorem RC.mono{F F':Fz}{lo lo':Nat}{w w':World}(hF:∀b o,F b o->F' b o)(hlo:lo'<=lo)
  (hw:∀b o,F b o->w'.cell? ⟨b,o,none⟩=w.cell? ⟨b,o,none⟩) {c:C}{v:Value} (h:RC F lo w c v):RC F' lo' w' c v:=by
 induction h with
 |int k n=>exact .int k n
 |bool b=>exact .bool b
 |str s=>exact .str s
 |nl t=>exact .nl t
 |nil t=>exact .nil t
 |lst t xs b o cap vs hb hcap hf hc hr ih=>
  exact .lst t xs b o cap vs (aaB hlo hb) hcap (λi j hi hj=>hF _ _ (hf i j hi hj))
   (λi j hi hj=>by rw[hw _ _ (hf i j hi hj)];exact hc i j hi hj) (λi j x c hx hcc=>ih i j x c hx hcc)
theorem RC.norm{F:Fz}{lo:Nat}{w:World}{c:C}{v:Value}(h:RC F lo w c v):RC F lo w (norm c) v:=by
 cases h with
 |int k n=>exact .int k n
 |bool b=>exact .bool b
 |str s=>exact .str s
 |nl t=>exact .nil t
 |nil t=>exact .nil t
 |lst t xs b o cap vs hb hcap hf hc hr=>exact .lst t xs b o cap vs hb hcap hf hc hr
inductive RCs(F:Fz)(lo:Nat)(w:World):List C->List Value->Prop where
 |nil:RCs F lo w [] []
 |cons {c v cs vs}:RC F lo w c v->RCs F lo w cs vs->RCs F lo w (c::cs) (v::vs)
theorem RCs.mono{F F':Fz}{lo lo':Nat}{w w':World}(hF:∀b o,F b o->F' b o)(hlo:lo'<=lo)
  (hw:∀b o,F b o->w'.cell? ⟨b,o,none⟩=w.cell? ⟨b,o,none⟩) {c:List C}{v:List Value} (h:RCs F lo w c v):RCs F' lo' w' c v:=by
 induction h with
 |nil=>exact .nil
 |cons h _ ih=>exact .cons (h.mono hF hlo hw) ih
theorem RCs.norms{F:Fz}{lo:Nat}{w:World}{c:List C}{v:List Value}(h:RCs F lo w c v):RCs F lo w (norms c) v:=by
 induction h with
 |nil=>exact .nil
 |cons h _ ih=>exact .cons h.norm ih
theorem RC.scal{F F':Fz}{lo lo':Nat}{w w':World}{c:C}{v:Value}(hs:Dr c=true)(h:RC F lo w c v):RC F' lo' w' c v:=by
 cases h with
 |int k n=>exact .int k n
 |bool b=>exact .bool b
 |str s=>exact .str s
 |nl t=>cases hs
 |nil t=>cases hs
 |lst t xs b o cap vs hb hcap hf hc hr=>cases hs
theorem RCs.scal{F F':Fz}{lo lo':Nat}{w w':World}{cs:List C}{vs:List Value}(hs:Um cs=true)(h:RCs F lo w cs vs):RCs F' lo' w' cs vs:=by
 induction h with
 |nil=>exact .nil
 |cons hc _ ih=>
  simp only[Um,aat]at hs;exact .cons (hc.scal hs.1) (ih hs.2)
theorem RCs.length{F:Fz}{lo:Nat}{w:World}{c:List C}{v:List Value}(h:RCs F lo w c v):c.length=v.length:=by
 induction h with
 |nil=>rfl
 |cons _ _ ih=>simp[ih]
theorem RCs.get{F:Fz}{lo:Nat}{w:World}{cs:List C}{vs:List Value}(h:RCs F lo w cs vs):∀ {j:Nat}{c:C},cs[j]? = some c->∃v,vs[j]? = some v/\RC F lo w c v:=by
 induction h with
 |nil=>intro j c h;simp at h
 |cons hc _ ih=>
  intro j c h;cases j with
  |zero=>simp at h;subst h;exact⟨_,rfl,hc⟩
  |succ j=>simpa using ih (by simpa using h)
theorem RCs.mk{F:Fz}{lo:Nat}{w:World}:∀ {cs:List C}{vs:List Value},cs.length=vs.length->(∀(j:Nat) (c:C) (v:Value),cs[j]? = some c->vs[j]? = some v->RC F lo w c v)->RCs F lo w cs vs
 |[],[],_,_=>.nil
 |c::cs,v::vs,h,hr=>.cons (hr 0 c v rfl rfl) (RCs.mk (by simpa using h) λj c v hc hv=>hr (j+1) c v (by simpa using hc) (by simpa using hv))
theorem RCs.drop{F:Fz}{lo:Nat}{w:World}{cs:List C}{vs:List Value}(h:RCs F lo w cs vs):∀n,RCs F lo w (cs.drop n) (vs.drop n):=by
 induction h with
 |nil=>intro n;simpa using RCs.nil
 |cons hc hr ih=>
  intro n;cases n with
  |zero=>exact .cons hc hr
  |succ n=>exact ih n
theorem RCs.take{F:Fz}{lo:Nat}{w:World}{cs:List C}{vs:List Value}(h:RCs F lo w cs vs):∀n,RCs F lo w (cs.take n) (vs.take n):=by
 induction h with
 |nil=>intro n;simpa using RCs.nil
 |cons hc hr ih=>
  intro n;cases n with
  |zero=>exact .nil
  |succ n=>exact .cons hc (ih n)
theorem RCs.append{F:Fz}{lo:Nat}{w:World}{cs ds:List C}{vs us:List Value}(h:RCs F lo w cs vs)(h':RCs F lo w ds us):RCs F lo w (cs++ds) (vs++us):=by
 induction h with
 |nil=>exact h'
 |cons hc _ ih=>exact .cons hc ih
def lof(B:Nat):Bool->Nat
 |true=>B
 |false=>0
theorem RCs.up{F:Fz}{B:Nat}{w:World}{f:Bool}{cs:List C}{vs:List Value}(h:RCs F (lof B f) w cs vs):RCs F (lof B (upF f cs)) w cs vs:=by
 unfold upF;cases hs:Um cs with
 |true=>exact h.scal hs
 |false=>exact h
theorem WY(B:Nat)(f:Bool):lof B f<=B:=by cases f<;>simp[lof]
def PVR(F:Fz)(B:Nat)(w:World):PV->Value->Prop
 |⟨f,false,[c]⟩,v=>RC F (lof B f) w c v
 |⟨_,false,_⟩,_=>False
 |⟨f,true,cs⟩,v=>∃vs:List Value,v=.agg vs.toArray/\RCs F (lof B f) w cs vs
inductive Zd(F:Fz)(B:Nat)(w:World):List PV->List Value->Prop where
 |nil:Zd F B w [] []
 |cons {c v cs vs}:PVR F B w c v->Zd F B w cs vs->Zd F B w (c::cs) (v::vs)
theorem PVR.mono{F F':Fz}{B B':Nat}{w w':World}(hF:∀b o,F b o->F' b o)(hlo:B'<=B)
  (hw:∀b o,F b o->w'.cell? ⟨b,o,none⟩=w.cell? ⟨b,o,none⟩) {p:PV}{v:Value} (h:PVR F B w p v):PVR F' B' w' p v:=by
 obtain⟨f,a,cs⟩:=p;have hl:lof B' f<=lof B f:=by cases f<;>simp[lof,hlo]
 cases a with
 |true=>obtain⟨vs,rfl,h⟩:=h;exact⟨vs,rfl,h.mono hF hl hw⟩
 |false=>
  match cs,h with
  |[c],h=>exact RC.mono hF hl hw h
theorem Zd.mono{F F':Fz}{B B':Nat}{w w':World}(hF:∀b o,F b o->F' b o)(hlo:B'<=B)
  (hw:∀b o,F b o->w'.cell? ⟨b,o,none⟩=w.cell? ⟨b,o,none⟩) {p:List PV}{v:List Value} (h:Zd F B w p v):Zd F' B' w' p v:=by
 induction h with
 |nil=>exact .nil
 |cons h _ ih=>exact .cons (h.mono hF hlo hw) ih
def Blk(w:World)(b:Nat)(cs:List Value):Prop:=∃e,w.heap[b]? = some (.cells cs.toArray e (0,0))
theorem Blk.cell{w:World}{b:Nat}{cs:List Value}(h:Blk w b cs)(o:Nat):w.cell? ⟨b,o,none⟩=cs[o]?:=by
 obtain⟨e,h⟩:=h;simp[acf,h]
theorem Blk.lt{w:World}{b:Nat}{cs:List Value}(h:Blk w b cs):b<w.heap.size:=by
 obtain⟨e,h⟩:=h;exact(aaI.1 h).1
theorem Blk.frozen{w:World}{b:Nat}{cs:List Value}(h:Blk w b cs)(o:Nat):w.frozen? ⟨b,o,none⟩=false:=by
 obtain⟨e,h⟩:=h;simp[World.frozen?,h]
theorem Blk.same{w w':World}{b:Nat}{cs:List Value}(h:Blk w b cs)(hs:w'.heap[b]? = w.heap[b]?):Blk w' b cs:=by
 obtain⟨e,h⟩:=h;exact⟨e,hs▸h⟩
theorem Blk.inj{w:World}{b:Nat}{cs ds:List Value}(h:Blk w b cs)(h':Blk w b ds):cs=ds:=by
 obtain⟨e,h⟩:=h;obtain⟨e',h'⟩:=h';rw[h]at h';have:=congrArg (λo:Option Obj=>match o with|some (.cells c _ _)=>c.toList|_=>[]) h';simpa using this
def Ca(F:Fz)(lo:Nat)(w:World)(ob:Option Nat)(c:C)(v:Value):Prop:=RC F lo w c v/\((∃t,norm c=.lst t []/\v=.slice none 0 0) \/
  ∃ t xs b cap cs,norm c=.lst t xs/\v=.slice (some ⟨b,0,none⟩) xs.length cap/\ob=some b/\Blk w b cs/\cs.length=cap*t.size /\
    ∀o,xs.length*t.size<=o->¬ F b o)
def ae(F:Fz)(lo:Nat)(w:World)(ob:Option Nat)(c:C)(v:Value):Prop:=(∃t,c=.lst t []/\v=.slice none 0 0)\/∃(t:Ty) (xs:List t.T) (b cap:Nat) (cs:List Value) (vs:Nat->Nat->Value),c=.lst t xs/\v=.slice (some ⟨b,0,none⟩) xs.length cap/\ob=some b/\Blk w b cs/\cs.length=cap*t.size/\xs.length<=cap/\lo<=b /\
   (∀o,¬ F b o)/\(∀i j,i<xs.length->j<t.size->cs[i*t.size+j]? = some (vs i j)) /\
   ∀(i j:Nat) (x:t.T) (c:C),xs[i]? = some x->(cells t x)[j]? = some c->RC F lo w c (vs i j)
def Eb(F:Fz)(B:Nat)(w:World)(ob:Option Nat):K×C->Value->Prop
 |(.sh,c),v=>RC F 0 w c v
 |(.fr,c),v=>RC F B w c v
 |(.acc f,c),v=>Ca F (lof B f) w ob c v
 |(.own _,_),_=>False
def VR(F:Fz)(B:Nat)(w:World)(ow:Option Nat->Option Nat):AV->Value->Prop
 |.dead,_=>True
 |.v .sh c,v=>RC F 0 w c v
 |.v .fr c,v=>RC F B w c v
 |.v (.acc f) c,v=>Ca F (lof B f) w (ow none) c v
 |.v (.own f) c,v=>ae F (lof B f) w (ow none) c v
 |.agg f cs,v=>∃vs:List Value,v=.agg vs.toArray/\RCs F (lof B f) w cs vs
 |.tup l,v=>∃vs:List Value,v=.tuple vs.toArray/\Zd F B w l vs
 |.box cs,v=>∃b vs,v=.pointer (some ⟨b,0,none⟩)/\ow none=some b/\Blk w b vs/\(∀o,¬ F b o)/\vs.length=cs.length /\
   ∀j kc u,cs[j]? = some kc->vs[j]? = some u->Eb F B w (ow (some j)) kc u
 |_,_=>False
def SR(F:Fz)(B:Nat)(w:World)(tm:Nat->Value)(g:Get)(ow:Nat->Option Nat->Option Nat)(s:Nat):AV->Prop
 |.view n none=>tm s=tm n/\bears (g n)=true/\n≠s
 |.view n (some j)=>n≠s/\∃cs b f c,g n=.box cs/\cs[j]? = some (.acc f,c)/\tm n=.pointer (some ⟨b,0,none⟩)/\w.cell? ⟨b,j,none⟩=some (tm s)
 |.baddr n o=>n≠s/\∃cs b,g n=.box cs/\tm n=.pointer (some ⟨b,0,none⟩)/\tm s=.pointer (some ⟨b,o,none⟩)
 |.faddr f cs=>∃b o vs,tm s=.pointer (some ⟨b,o,none⟩)/\RCs F (lof B f) w cs vs/\∀j v,vs[j]? = some v->F b (o+j)/\w.cell? ⟨b,o+j,none⟩=some v
 |.oaddr n i o=>n≠s/\∃t xs b cap f,g n=.v (.own f) (.lst t xs)/\tm n=.slice (some ⟨b,0,none⟩) xs.length cap/\0<=i/\i<xs.length /\
   tm s=.pointer (some ⟨b,i.toNat*t.size+o,none⟩)
 |.cond k a=>(∀d b x,(d,b,x)∈k->d≠s/\Ga (g d)=false)/\KeyT tm k/\(Rb k=true->SR F B w tm g ow s a)/\(Rb k=false->tm s=undef)
 |a=>VR F B w (ow s) a (tm s)
where
 KeyT (tm:Nat->Value):Key->Prop
  |[]=>True
  |(d,_,x)::k=>KeyT tm k/\(Rb k=true->tm d=.bool x)/\(Rb k=false->tm d=undef)
def isC:Obj->Bool
 |.cells _ _ _=>true
 |_=>false
theorem Blk.isC{w:World}{b:Nat}{cs:List Value}(h:Blk w b cs){o:Obj}(ho:w.heap[b]? = some o):Go.Proofs.YteogppapbognjaaGreatDoor.isC o=true:=by
 obtain⟨e,h⟩:=h;rw[h]at ho;cases ho;rfl
structure Kept(B:Nat)(IoB:List Nat)(w w':World):Prop where
 os:w'.os=w.os
 tape:w'.tape=w.tape
 output:w'.output=w.output
 size:w.heap.size<=w'.heap.size
 block:∀k,k<B->k ∉ IoB->w'.heap[k]? = w.heap[k]?
 obj:∀(k:Nat) (o:Obj),w.heap[k]? = some o->isC o=false->w'.heap[k]? = some o
theorem Kept.refl(B:Nat)(IoB:List Nat)(w:World):Kept B IoB w w:=⟨rfl,rfl,rfl,aau _,λ_ _ _=>rfl,λ_ _ h _=>h⟩
theorem Kept.trans{B:Nat}{IoB:List Nat}{a b c:World}(h:Kept B IoB a b)(k:Kept B IoB b c):Kept B IoB a c:=⟨k.os.trans h.os,k.tape.trans h.tape,k.output.trans h.output,aaB h.size k.size,λi hi hn=>(k.block i hi hn).trans (h.block i hi hn),λi o hi hc=>k.obj i o (h.obj i o hi hc) hc⟩
abbrev Mn(B:Nat)(IoB:List Nat)(b:Nat):Prop:=B<=b\/b∈IoB
structure Live(F:Fz)(w:World):Prop where
 out:∀b o,F b o->(w.cell? ⟨b,o,none⟩).isSome
 tab:∀g cs,TabAt g cs->(∀o,o<cs.size->F g o)/\∃t z,w.heap[g]? = some (.cells cs t z)
instance {F:Fz}{w:World}:CoeFun (Live F w) (λ_=>∀b o,F b o->(w.cell? ⟨b,o,none⟩).isSome):=⟨Live.out⟩
structure Xe(B:Nat)(IoB:List Nat)(F0 F:Fz):Prop where
 out:∀b o,F0 b o->F b o
 low:∀g cs,TabAt g cs->¬ Mn B IoB g/\∀o,o<cs.size->F0 g o
instance {B:Nat}{IoB:List Nat}{F0 F:Fz}:CoeFun (Xe B IoB F0 F) (λ_=>∀b o,F0 b o->F b o):=⟨Xe.out⟩
theorem Xe.to{B:Nat}{IoB:List Nat}{F0 F F':Fz}(h:Xe B IoB F0 F)(k:∀b o,F0 b o->F' b o):Xe B IoB F0 F':=⟨k,h.low⟩
theorem Xe.live{B:Nat}{IoB:List Nat}{F0 F F1:Fz}{w w1:World}(h:Xe B IoB F0 F)(hl:Live F1 w)(hb:∀k,¬ Mn B IoB k->k<w.heap.size->w1.heap[k]? = w.heap[k]?)(ho:∀b o,F b o->(w1.cell? ⟨b,o,none⟩).isSome):Live F w1:=⟨ho,λg cs hg=>⟨λo h1=>h.out _ _ ((h.low g cs hg).2 o h1),by
   obtain⟨_,t,z,h2⟩:=hl.tab g cs hg;exact⟨t,z,(hb g (h.low g cs hg).1 (aaI.1 h2).1).trans h2⟩⟩⟩
structure ja(B:Nat)(IoB:List Nat)(F0:Fz)(e:Env)(tm:Nat->Value)(w:World)(F:Fz)(ow:Nat->Option Nat->Option Nat):Prop where
 sub:Xe B IoB F0 F
 new:∀b o,F b o->F0 b o\/Mn B IoB b
 live:Live F w
 inj:∀s i s' i' b,ow s i=some b->ow s' i'=some b->s=s'/\i=i'
 bd:∀s i b,ow s i=some b->b<w.heap.size/\Mn B IoB b
 sr:∀s,SR F B w tm (da e) ow s (da e s)
structure NP where
 n:Nat
 r:Option Nat
 k:List (Nat×Value):=[]
def Rg(d:Nat):List (Nat×Value)->Bool
 |[]=>true
 |(s,_)::r=>!Nat.beq s d&&Rg d r
def NP.ok(N:NP)(d:Nat):Bool:=Nat.blt d N.n&&((match N.r with
 |some s=>!Nat.beq s d
 |none=>true)&&Rg d N.k)
theorem AC{d:Nat}:∀ {l:List (Nat×Value)},Rg d l=true->∀p∈l,p.1≠d
 |[],_,p,hp=>by simp at hp
 |(s,v)::r,h,p,hp=>by
  simp only[Rg,aat]at h;rcases aaO.1 hp with rfl|hp
  .intro e;have e:s=d:=e;rw[e,aaJ]at h;exact absurd h.1 (by simp)
  .exact AC h.2 p hp
theorem NP.ok_lt{N:NP}{d:Nat}(h:N.ok d=true):d<N.n:=by
 simp only[NP.ok,aat]at h;exact aaC (Nat.lt_succ_self _) (aaD h.1)
theorem NP.ok_ne{N:NP}{d s:Nat}(h:N.ok d=true)(hs:N.r=some s):s≠d:=by
 simp only[NP.ok,aat,hs]at h;intro e;rw[e,aaJ]at h;exact absurd h.2.1 (by simp)
theorem NP.ok_k{N:NP}{d:Nat}(h:N.ok d=true):∀p∈N.k,p.1≠d:=by
 simp only[NP.ok,aat]at h;exact AC h.2.2
structure Tms(N:NP)(IoB:List Nat)(tmps:Array Value):Prop where
 size:tmps.size=N.n
 rd:∀s,N.r=some s->∀b∈IoB,tmps.getD s undef=.pointer (some ⟨b,0,none⟩)
 kp:∀p∈N.k,tmps.getD p.1 undef=p.2
structure Sim(N:NP)(B:Nat)(IoB:List Nat)(W0:World)(F0:Fz)(e:Env)(a:Act)(w:World):Prop where
 defers:a.defers=[]
 tmps:Tms N IoB a.tmps
 base:B<=W0.heap.size
 f0:∀b o,F0 b o->b<B/\b ∉ IoB
 kept:Kept B IoB W0 w
 rep:∃(F:Fz) (ow:Nat->Option Nat->Option Nat),ja B IoB F0 e (λn=>a.tmps.getD n undef) w F ow
structure Ua(F:Fz)(w:World)(F':Fz)(w':World):Prop where
 os:w'.os=w.os
 tape:w'.tape=w.tape
 output:w'.output=w.output
 size:w.heap.size<=w'.heap.size
 block:∀k,k<w.heap.size->w'.heap[k]? = w.heap[k]?
 sub:∀b o,F b o->F' b o
 new:∀b o,F' b o->F b o\/w.heap.size<=b
theorem Ua.refl(F:Fz)(w:World):Ua F w F w:=⟨rfl,rfl,rfl,aau _,λ_ _=>rfl,λ_ _ h=>h,λ_ _ h=>.inl h⟩
theorem Ua.trans{F F' F'':Fz}{w w' w'':World}(h:Ua F w F' w')(k:Ua F' w' F'' w''):Ua F w F'' w'':=⟨k.os.trans h.os,k.tape.trans h.tape,k.output.trans h.output,aaB h.size k.size,
   λi hi=>(k.block i (aaC hi h.size)).trans (h.block i hi),λ_ _ hb=>k.sub _ _ (h.sub _ _ hb),
   λb o hb=>(k.new b o hb).elim (h.new b o) (λhs=>.inr (aaB h.size hs))⟩
theorem cell_of_heap{w w':World}{b o:Nat}(h:w'.heap[b]? = w.heap[b]?):w'.cell? ⟨b,o,none⟩=w.cell? ⟨b,o,none⟩:=by
 simp[acf,h]
theorem lt_of_cell{w:World}{b o:Nat}{v:Value}(h:w.cell? ⟨b,o,none⟩=some v):b<w.heap.size:=by
 unfold acf at h;by_cases hb:b<w.heap.size
 .exact hb
 .rw[show w.heap[b]? = none from Array.getElem?_eq_none (by omega)]at h;simp at h
theorem Live.lt{F:Fz}{w:World}(h:Live F w){b o:Nat}(hb:F b o):b<w.heap.size:=by
 have:=h b o hb;cases hc:w.cell? ⟨b,o,none⟩ with
 |none=>simp[hc]at this
 |some v=>exact lt_of_cell hc
theorem Ua.cell{F F':Fz}{w w':World}(h:Ua F w F' w'){b o:Nat}(hb:b<w.heap.size):w'.cell? ⟨b,o,none⟩=w.cell? ⟨b,o,none⟩:=cell_of_heap (h.block b hb)
theorem Live.ext{F F':Fz}{w:World}(h:Live F w)(hs:∀b o,F b o->F' b o)(ho:∀b o,F' b o->(w.cell? ⟨b,o,none⟩).isSome):Live F' w:=⟨ho,λg cs hg=>⟨λo h1=>hs _ _ ((h.tab g cs hg).1 o h1),(h.tab g cs hg).2⟩⟩
theorem Live.next{F F':Fz}{w w':World}(h:Live F w)(hg:Ua F w F' w')(ho:∀b o,F' b o->(w'.cell? ⟨b,o,none⟩).isSome):Live F' w':=⟨ho,λg cs ht=>⟨λo h1=>hg.sub _ _ ((h.tab g cs ht).1 o h1),by
   obtain⟨_,t,z,h2⟩:=h.tab g cs ht;exact⟨t,z,(hg.block g (aaI.1 h2).1).trans h2⟩⟩⟩
theorem Ua.live{F F':Fz}{w w':World}(h:Ua F w F' w')(hl:Live F w):∀b o,F b o->w'.cell? ⟨b,o,none⟩=w.cell? ⟨b,o,none⟩:=λ_ _ hb=>h.cell (hl.lt hb)
section
variable {F F':Fz}{w w':World} (hg:Ua F w F' w') (hl:Live F w)
include hg hl
theorem RC.grow{lo:Nat}{c:C}{v:Value}(h:RC F lo w c v):RC F' lo w' c v:=h.mono hg.sub (aau _) (hg.live hl)
theorem RCs.grow{lo:Nat}{c:List C}{v:List Value}(h:RCs F lo w c v):RCs F' lo w' c v:=h.mono hg.sub (aau _) (hg.live hl)
theorem Zd.grow{B:Nat}{c:List PV}{v:List Value}(h:Zd F B w c v):Zd F' B w' c v:=h.mono hg.sub (aau _) (hg.live hl)
theorem Ca.grow{lo:Nat}{ob:Option Nat}{c:C}{v:Value}(h:Ca F lo w ob c v):Ca F' lo w' ob c v:=by
 obtain⟨hr,h⟩:=h;refine⟨hr.grow hg hl,?_⟩;rcases h with h|⟨t,xs,b,cap,cs,h1,h2,h3,h4,h5,h6⟩
 .exact .inl h
 .exact .inr ⟨t,xs,b,cap,cs,h1,h2,h3,h4.same (hg.block b h4.lt),h5,λo ho hF=>(hg.new b o hF).elim (h6 o ho) (λhs=>by have:=h4.lt;omega)⟩
theorem ae.grow{lo:Nat}{ob:Option Nat}{c:C}{v:Value}(h:ae F lo w ob c v):ae F' lo w' ob c v:=by
 rcases h with h|⟨t,xs,b,cap,cs,vs,h1,h2,h3,h4,h5,hh,h6,h7,h8,h9⟩
 .exact .inl h
 exact .inr ⟨t,xs,b,cap,cs,vs,h1,h2,h3,h4.same (hg.block b h4.lt),h5,hh,h6,λo hF=>(hg.new b o hF).elim (h7 o) (λhs=>by have:=h4.lt;omega),h8,
  λi j x c hx hc=>(h9 i j x c hx hc).grow hg hl⟩
theorem Eb.grow{B:Nat}{ob:Option Nat}{kc:K×C}{v:Value}(h:Eb F B w ob kc v):Eb F' B w' ob kc v:=by
 obtain⟨k,c⟩:=kc;cases k with
 |sh=>exact RC.grow hg hl h
 |fr=>exact RC.grow hg hl h
 |acc f=>exact Ca.grow hg hl h
 |own f=>exact h.elim
theorem VR.grow{B:Nat}{ow:Option Nat->Option Nat}{av:AV}{v:Value}(h:VR F B w ow av v):VR F' B w' ow av v:=by
 cases av with
 |dead=>trivial
 |v k c=>
  cases k with
  |sh=>exact RC.grow hg hl h
  |fr=>exact RC.grow hg hl h
  |acc f=>exact Ca.grow hg hl h
  |own f=>exact ae.grow hg hl h
 |agg f cs=>obtain⟨vs,rfl,h⟩:=h;exact⟨vs,rfl,h.grow hg hl⟩
 |tup l=>obtain⟨vs,rfl,h⟩:=h;exact⟨vs,rfl,h.grow hg hl⟩
 |box cs=>
  obtain⟨b,vs,h1,h2,h3,h4,h5,h6⟩:=h
  exact⟨b,vs,h1,h2,h3.same (hg.block b h3.lt),λo hF=>(hg.new b o hF).elim (h4 o) (λhs=>by have:=h3.lt;omega),h5,
   λj kc u hk hu=>(h6 j kc u hk hu).grow hg hl⟩
 |cond k a=>exact h.elim
 |view s o=>exact h.elim
 |baddr s o=>exact h.elim
 |faddr f cs=>exact h.elim
 |oaddr s i o=>exact h.elim
theorem SR.grow{B:Nat}{tm:Nat->Value}{g:Get}{ow:Nat->Option Nat->Option Nat}{s:Nat}:∀ {av:AV},SR F B w tm g ow s av->SR F' B w' tm g ow s av
 |.dead,_=>trivial
 |.v k c,h=>VR.grow hg hl (av:=.v k c) h
 |.agg f cs,h=>VR.grow hg hl (av:=.agg f cs) h
 |.tup l,h=>VR.grow hg hl (av:=.tup l) h
 |.box cs,h=>VR.grow hg hl (av:=.box cs) h
 |.cond _ _,h=>⟨h.1,h.2.1,λhk=>SR.grow (h.2.2.1 hk),h.2.2.2⟩
 |.view _ none,h=>h
 |.view _ (some _),h=>by
  obtain⟨hn,cs,b,f,c,h1,h2,h3,h4⟩:=h;exact⟨hn,cs,b,f,c,h1,h2,h3,by rw[hg.cell (lt_of_cell h4)];exact h4⟩
 |.baddr _ _,h=>h
 |.faddr f cs,h=>by
  obtain⟨b,o,vs,h1,h2,h3⟩:=h;exact⟨b,o,vs,h1,h2.grow hg hl,λj v hv=>⟨hg.sub _ _ (h3 j v hv).1,by rw[hg.cell (lt_of_cell (h3 j v hv).2)];exact(h3 j v hv).2⟩⟩
 |.oaddr _ _ _,h=>h
end
def BC(d:Nat):AV->Prop
 |.view n _=>n=d
 |.baddr n _=>n=d
 |.oaddr n _ _=>n=d
 |.cond k a=>(∃b x,(d,b,x)∈k)\/BC d a
 |_=>False
theorem KeyT.other{tm tm':Nat->Value}{d:Nat}(ht:∀n,n≠d->tm' n=tm n):∀ {k:Key},(∀n b x,(n,b,x)∈k->n≠d)->SR.KeyT tm k->SR.KeyT tm' k
 |[],_,_=>trivial
 |(n,b,x)::k,hn,h=>by
  have hnd:=hn n b x (by simp);exact⟨KeyT.other ht (λm b x hm=>hn m b x (by simp[hm])) h.1,λhk=>(ht n hnd).trans (h.2.1 hk),λhk=>(ht n hnd).trans (h.2.2 hk)⟩
theorem SR.other{F:Fz}{B:Nat}{w:World}{tm tm':Nat->Value}{g g':Get}{ow ow':Nat->Option Nat->Option Nat}{d s:Nat}(hsd:s≠d)
  (ht:∀n,n≠d->tm' n=tm n) (hg:∀n,n≠d->g' n=g n) (ho:∀n,n≠d->ow' n=ow n) :
  ∀ {av:AV},¬ BC d av->SR F B w tm g ow s av->SR F B w tm' g' ow' s av
 |.dead,_,_=>trivial
 |.v k c,_,h=>by show VR F B w (ow' s) (.v k c) (tm' s);rw[ho s hsd,ht s hsd];exact h
 |.agg f cs,_,h=>by show VR F B w (ow' s) (.agg f cs) (tm' s);rw[ho s hsd,ht s hsd];exact h
 |.tup l,_,h=>by show VR F B w (ow' s) (.tup l) (tm' s);rw[ho s hsd,ht s hsd];exact h
 |.box cs,_,h=>by show VR F B w (ow' s) (.box cs) (tm' s);rw[ho s hsd,ht s hsd];exact h
 |.cond k a,hh,h=>by
  have hk:∀n b x,(n,b,x)∈k->n≠d:=λn b x hm e=>hh (.inl ⟨b,x,e▸hm⟩)
  refine⟨λn b x hm=>⟨(h.1 n b x hm).1,by rw[hg n (hk n b x hm)];exact(h.1 n b x hm).2⟩,KeyT.other ht hk h.2.1,
   λhb=>SR.other hsd ht hg ho (λe=>hh (.inr e)) (h.2.2.1 hb),λhb=>(ht s hsd).trans (h.2.2.2 hb)⟩
 |.view n none,hh,h=>by
  have hn:n≠d:=hh;exact⟨by rw[ht s hsd,ht n hn];exact h.1,by rw[hg n hn];exact h.2.1,h.2.2⟩
 |.view n (some j),hh,h=>by
  have hn:n≠d:=hh;obtain⟨h0,cs,b,f,c,h1,h2,h3,h4⟩:=h;exact⟨h0,cs,b,f,c,by rw[hg n hn];exact h1,h2,by rw[ht n hn];exact h3,by rw[ht s hsd];exact h4⟩
 |.baddr n o,hh,h=>by
  have hn:n≠d:=hh;obtain⟨h0,cs,b,h1,h2,h3⟩:=h;exact⟨h0,cs,b,by rw[hg n hn];exact h1,by rw[ht n hn];exact h2,by rw[ht s hsd];exact h3⟩
 |.faddr f cs,_,h=>by
  obtain⟨b,o,vs,h1,h2,h3⟩:=h;exact⟨b,o,vs,by rw[ht s hsd];exact h1,h2,h3⟩
 |.oaddr n i o,hh,h=>by
  have hn:n≠d:=hh;obtain⟨h0,t,xs,b,cap,f,h1,h2,h3,h4,h5⟩:=h;exact⟨h0,t,xs,b,cap,f,by rw[hg n hn];exact h1,by rw[ht n hn];exact h2,h3,h4,by rw[ht s hsd];exact h5⟩
theorem SR.dead{F:Fz}{B:Nat}{w:World}{tm tm':Nat->Value}{g g':Get}{ow ow':Nat->Option Nat->Option Nat}{d s:Nat}(hsd:s≠d)(hd:Ga (g d)=true)
  (ht:∀n,n≠d->tm' n=tm n) (hg:∀n,n≠d->g' n=g n) (ho:∀n,n≠d->ow' n=ow n) :
  ∀ {av:AV},SR F B w tm g ow s av->SR F B w tm' g' ow' s av:=by
 have hh:g d=.dead:=by cases hgd:g d<;>simp[hgd,Ga]at hd⊢
 intro av
 induction av with
 |cond k a ih=>
  intro h
  have hk:∀n b x,(n,b,x)∈k->n≠d:=λn b x hm e=>by
   have:=(h.1 n b x hm).2;rw[e,hd]at this;exact absurd this (by simp)
  exact⟨λn b x hm=>⟨(h.1 n b x hm).1,by rw[hg n (hk n b x hm)];exact(h.1 n b x hm).2⟩,KeyT.other ht hk h.2.1,
   λhb=>ih (h.2.2.1 hb),λhb=>(ht s hsd).trans (h.2.2.2 hb)⟩
 |view n o=>
  intro h;refine SR.other hsd ht hg ho ?_ h;rintro rfl;cases o with
  |none=>rw[show SR F B w tm g ow s (.view n none)=(tm s=tm n/\bears (g n)=true/\n≠s) from rfl]at h;rw[hh]at h;simp[bears]at h
  |some j=>obtain⟨_,cs,b,f,c,h1,_⟩:=h;rw[hh]at h1;cases h1
 |baddr n o=>
  intro h;refine SR.other hsd ht hg ho ?_ h;rintro rfl;obtain⟨_,cs,b,h1,_⟩:=h;rw[hh]at h1;cases h1
 |oaddr n i o=>
  intro h;refine SR.other hsd ht hg ho ?_ h;rintro rfl;obtain⟨_,t,xs,b,cap,f,h1,_⟩:=h;rw[hh]at h1;cases h1
 |_=>exact SR.other hsd ht hg ho (λh=>h)
theorem Qf{n d:Nat}(h:n≠d):aaq n d=false:=by
 cases hb:aaq n d with
 |false=>rfl
 |true=>exact absurd (aao hb) h
theorem Ca.plain{F:Fz}{B:Nat}{w:World}{f:Bool}{ob:Option Nat}{c:C}{v:Value}(h:Ca F (lof B f) w ob c v){ow:Option Nat->Option Nat}:VR F B w ow (.v (frK f) c) v:=by
 cases f
 .exact h.1
 .exact h.1
theorem SR.unview{F:Fz}{B:Nat}{w:World}{tm tm':Nat->Value}{g g':Get}{ow ow':Nat->Option Nat->Option Nat}{d s:Nat}(hsd:s≠d)
  (ht:∀n,n≠d->tm' n=tm n) (hg:∀n,n≠d->bears (g n)=true->g' n=g n) (ho:∀n,n≠d->ow' n=ow n) (hd:SR F B w tm g ow d (g d)) :
  ∀ {av:AV},SR F B w tm g ow s av->SR F B w tm' g' ow' s (unview d (g d) av)
 |.dead,_=>trivial
 |.v k c,h=>by show VR F B w (ow' s) (.v k c) (tm' s);rw[ho s hsd,ht s hsd];exact h
 |.agg f cs,h=>by show VR F B w (ow' s) (.agg f cs) (tm' s);rw[ho s hsd,ht s hsd];exact h
 |.tup l,h=>by show VR F B w (ow' s) (.tup l) (tm' s);rw[ho s hsd,ht s hsd];exact h
 |.box cs,h=>by show VR F B w (ow' s) (.box cs) (tm' s);rw[ho s hsd,ht s hsd];exact h
 |.cond k a,_=>trivial
 |.faddr f cs,h=>by
  obtain⟨b,o,vs,h1,h2,h3⟩:=h;exact⟨b,o,vs,by rw[ht s hsd];exact h1,h2,h3⟩
 |.view n o,h=>by
  by_cases hn:n=d
  .have hb:aaq n d=true:=by rw[hn];exact aaJ d
   simp only[Go.Proofs.YteogppapbognjaaGreatDoor.unview,hb];subst hn;cases o with
   |some j=>cases hgd:g n<;>trivial
   |none=>
    cases hgd:g n with
    |v k c=>
     cases k with
     |acc f=>
      rw[hgd]at hd;have h':VR F B w (ow n) (.v (.acc f) c) (tm n):=hd;have hp:=Ca.plain (B:=B) h' (ow:=ow' s);rw[<-h.1,<-ht s hsd]at hp;cases f<;>exact hp
     |_=>trivial
    |_=>trivial
  .have hb:=Qf hn;simp only[Go.Proofs.YteogppapbognjaaGreatDoor.unview,hb];cases o with
   |none=>exact⟨by rw[ht s hsd,ht n hn];exact h.1,by rw[hg n hn h.2.1];exact h.2.1,h.2.2⟩
   |some j=>
    obtain⟨h0,cs,b,f,c,h1,h2,h3,h4⟩:=h;exact⟨h0,cs,b,f,c,by rw[hg n hn (by rw[h1];rfl)];exact h1,h2,by rw[ht n hn];exact h3,by rw[ht s hsd];exact h4⟩
 |.baddr n o,h=>by
  by_cases hn:n=d
  .have hb:aaq n d=true:=by rw[hn];exact aaJ d
   simp only[Go.Proofs.YteogppapbognjaaGreatDoor.unview,hb];trivial
  .have hb:=Qf hn;simp only[Go.Proofs.YteogppapbognjaaGreatDoor.unview,hb];obtain⟨h0,cs,b,h1,h2,h3⟩:=h;exact⟨h0,cs,b,by rw[hg n hn (by rw[h1];rfl)];exact h1,by rw[ht n hn];exact h2,by rw[ht s hsd];exact h3⟩
 |.oaddr n i o,h=>by
  by_cases hn:n=d
  .have hb:aaq n d=true:=by rw[hn];exact aaJ d
   simp only[Go.Proofs.YteogppapbognjaaGreatDoor.unview,hb];trivial
  .have hb:=Qf hn;simp only[Go.Proofs.YteogppapbognjaaGreatDoor.unview,hb];obtain⟨h0,t,xs,b,cap,f,h1,h2,h3,h4,h5⟩:=h;exact⟨h0,t,xs,b,cap,f,by rw[hg n hn (by rw[h1];rfl)];exact h1,by rw[ht n hn];exact h2,h3,h4,by rw[ht s hsd];exact h5⟩
theorem Ka(e:Env)(d:Nat)(a:AV)(n:Nat):da (Ta e d a) n=if n=d then a else da e n:=by
 unfold Ta;by_cases h:n=d
 .subst h;simp[da,aaJ]
 .rw[if_neg h];simp only[da,Qf (λe:d=n=>h e.symm)]
theorem mg(f:AV->AV)(hf:f .dead=.dead):∀(e:Env) (n:Nat),da (mc f e) n=f (da e n)
 |[],n=>hf.symm
 |(m,a)::r,n=>by
  simp only[mc,da];cases aaq m n with
  |true=>rfl
  |false=>exact mg f hf r n
theorem Wr(d:Nat)(o:AV):unview d o .dead=.dead:=rfl
theorem Xr(d:Nat)(o:AV){a:AV}(h:bears a=true):unview d o a=a:=by
 cases a with
 |v k c=>rfl
 |box cs=>rfl
 |_=>simp[bears]at h
theorem Ja(a:Act)(d:Nat)(v:Value)(hd:d<a.tmps.size)(n:Nat):(a.put (some d) v).tmps.getD n undef=if n=d then v else a.tmps.getD n undef:=by
 simp only[Act.put];by_cases h:n=d
 .subst h;simp[Array.getD,hd]
 .rw[if_neg h];have:d≠n:=λe=>h e.symm;simp only[abx,Array.getElem?_setIfInBounds_ne this]
theorem Ye(a:Act)(d:Option Nat)(v:Value):(a.put d v).tmps.size=a.tmps.size:=by
 cases d<;>simp[Act.put]
theorem Tms.put{N:NP}{IoB:List Nat}{a:Act}(h:Tms N IoB a.tmps){d:Nat}(hd:N.ok d=true)(v:Value):Tms N IoB (a.put (some d) v).tmps:=⟨by rw[Ye];exact h.size,λs hs b hb=>by rw[Ja a d v (by rw[h.size];exact NP.ok_lt hd),if_neg (NP.ok_ne hd hs)];exact h.rd s hs b hb,
  λp hp=>by rw[Ja a d v (by rw[h.size];exact NP.ok_lt hd),if_neg (NP.ok_k hd p hp)];exact h.kp p hp⟩
theorem ja.put{B:Nat}{IoB:List Nat}{F0 F F':Fz}{e:Env}{tm:Nat->Value}{w w':World}{ow:Nat->Option Nat->Option Nat}{owd:Option Nat->Option Nat}{d:Nat}{av:AV}{v:Value}
  (hs:ja B IoB F0 e tm w F ow) (hBw:B<=w.heap.size) (hg:Ua F w F' w') (hl':Live F' w') (hf:∀i b,owd i=some b->B<=b/\b<w'.heap.size/\∀s i',ow s i'≠some b)
  (hi:∀i i' b,owd i=some b->owd i'=some b->i=i')
  (hav : ∀g',(∀n,n≠d->bears (da e n)=true->g' n=da e n)->(Ga (da e d)=true->∀n,n≠d->g' n=da e n) ->
        SR F' B w' (λn=>if n=d then v else tm n) g' (λs=>if s=d then owd else ow s) d av) :
  ja B IoB F0 (put e d av) (λn=>if n=d then v else tm n) w' F' (λs=>if s=d then owd else ow s):=by
 have h2:Live F w:=hs.live;refine⟨hs.sub.to λb o hb=>hg.sub _ _ (hs.sub _ _ hb),?_,hl',?_,?_,?_⟩
 .intro b o hb;rcases hg.new b o hb with hb|hb
  .exact hs.new b o hb
  .exact .inr (.inl (aaB hBw hb))
 .intro s i s' i' b hk hl;by_cases e1:s=d<;>by_cases e2:s'=d<;>simp only[e1,e2,if_true,if_false]at hk hl
  .exact⟨by rw[e1,e2],hi i i' b hk hl⟩
  .exact absurd hl ((hf i b hk).2.2 s' i')
  .exact absurd hk ((hf i' b hl).2.2 s i)
  .exact hs.inj s i s' i' b hk hl
 .intro s i b hk;by_cases e1:s=d
  .simp only[e1,if_true]at hk;have:=hf i b hk;exact⟨this.2.1,.inl this.1⟩
  .simp only[e1,if_false]at hk;have:=hs.bd s i b hk;exact⟨aaC this.1 hg.size,this.2⟩
 .have ht:∀n,n≠d->(λn=>if n=d then v else tm n) n=tm n:=λn hn=>by simp[hn]
  have ho:∀n,n≠d->(λs=>if s=d then owd else ow s) n=ow n:=λn hn=>by simp[hn]
  intro s;unfold Go.Proofs.YteogppapbognjaaGreatDoor.put;cases hdd:Ga (da e d) with
  |true=>
   simp only[];have hh:∀n,n≠d->da (Ta e d av) n=da e n:=λn hn=>by rw[Ka,if_neg hn]
   rw[Ka];by_cases e1:s=d
   .rw[if_pos e1,e1];exact hav _ (λn hn _=>hh n hn) (λ_ n hn=>hh n hn)
   .rw[if_neg e1];exact SR.dead e1 hdd ht (λn hn=>hh n hn) ho ((hs.sr s).grow hg h2)
  |false=>
   simp only[]
   have hj:∀n,n≠d->da (Ta (mc (unview d (da e d)) e) d av) n=unview d (da e d) (da e n):=λn hn=>by
    rw[Ka,if_neg hn,mg _ (Wr _ _)]
   have hh:∀n,n≠d->bears (da e n)=true->da (Ta (mc (unview d (da e d)) e) d av) n=da e n:=λn hn hb=>by
    rw[hj n hn,Xr _ _ hb]
   rw[Ka];by_cases e1:s=d
   .rw[if_pos e1,e1];exact hav _ hh (λhx=>absurd hx (by simp[hdd]))
   .rw[if_neg e1,mg _ (Wr _ _)];exact SR.unview e1 ht hh ho ((hs.sr d).grow hg h2) ((hs.sr s).grow hg h2)
def zv:C->Value
 |.int k n=>.int k n
 |.bool b=>.bool b
 |.str s=>.string s
 |.nl _=>.slice none 0 0
 |.lst _ _=>.slice none 0 0
def zOk:List C->List Value->Bool
 |[],[]=>true
 |.int k n::r,.int k' n'::r'=>oi k k'&&(decide (n=n')&&zOk r r')
 |.bool b::r,.bool b'::r'=>(b == b')&&zOk r r'
 |.str s::r,.string s'::r'=>(s.data.toList == []&&s'.data.toList == [])&&zOk r r'
 |.nl _::r,.slice none 0 0::r'=>zOk r r'
 |_,_=>false
def Sg(P:aaF):List (Nat×Nat)->List Field->Bool
 |[],[]=>true
 |(o,n)::r,f::r'=>aaq o f.offset&&(aaq n (P.cellsOf f.type)&&(Nat.blt 0 n&&Sg P r r'))
 |_,_=>false
def CC(P:aaF)(t:Nat)(d:TD):Bool:=
 match P.info? t,P.underlying t with
 |some i,some u=>aaq i.size d.size&&(aaY i.bytes 128&&((match i.zero with
   |some z=>zOk d.zero z.cells.toList
   |none=>false)&&((match d.sh,u,d.zero with
   |.scalar,.int k,[.int k' _]=>oi k k'
   |.scalar,.bool,[.bool _]=>true
   |.scalar,.string,[.str _]=>true
   |.struct fs,.struct fields,_=>Sg P fs fields.toList
   |.slice e,.slice e',[.nl _]=>aaq e e'
   |_,_,_=>false)&&(match d.ty with
   |some y=>aaq d.size y.size
   |none=>true))))
 |_,_=>false
theorem Zk:∀ {k k':aaQ},oi k k'=true->k=k':=by
 intro k k' h;cases k<;>cases k'<;>first|rfl|(simp[oi]at h)
theorem al:∀ {cs:List C}{vs:List Value},zOk cs vs=true->vs=cs.map zv
 |[],[],_=>rfl
 |.int k n::r,.int k' n'::r',h=>by
  simp only[zOk,aat,decide_eq_true_eq]at h;obtain⟨h1,h2,h3⟩:=h;rw[Zk h1,h2,al h3];rfl
 |.bool b::r,.bool b'::r',h=>by
  simp only[zOk,aat,beq_iff_eq]at h;rw[h.1,al h.2];rfl
 |.str s::r,.string s'::r',h=>by
  simp only[zOk,aat,beq_iff_eq]at h;obtain⟨⟨h1,h2⟩,h3⟩:=h
  have:s=s':=by
   obtain⟨⟨x⟩⟩:=s;obtain⟨⟨y⟩⟩:=s';simp at h1 h2;rw[h1,h2]
  rw[this,al h3];rfl
 |.nl t::r,v::r',h=>by
  match v,h with
  |.slice none 0 0,h=>simp only[zOk]at h;rw[al h];rfl
 |.int _ _::_,[],h=>by simp[zOk]at h
 |.bool _::_,[],h=>by simp[zOk]at h
 |.str _::_,[],h=>by simp[zOk]at h
 |.nl _::_,[],h=>by simp[zOk]at h
 |.lst _ _::_,_,h=>by simp[zOk]at h
 |[],_::_,h=>by simp[zOk]at h
structure Sb(P:aaF)(t:Nat)(d:TD):Prop where
 info:∃i z,P.info? t=some i/\i.size=d.size/\i.bytes<=128/\i.zero=some z/\zOk d.zero z.cells.toList=true
 und:∃u,P.underlying t=some u/\match d.sh with
  |.scalar=>(∃k n,u=.int k/\d.zero=[.int k n])\/(∃b,u=.bool/\d.zero=[.bool b])\/∃s,u=.string/\d.zero=[.str s]
  |.struct fs=>∃fields,u=.struct fields/\Sg P fs fields.toList=true
  |.slice e=>u=.slice e
 ty:∀y,d.ty=some y->d.size=y.size
theorem XY{P:aaF}{t:Nat}{d:TD}(h:CC P t d=true):Sb P t d:=by
 obtain⟨sh,size,zero,ty,eq⟩:=d;unfold CC at h;cases hi:P.info? t with
 |none=>simp[hi]at h
 |some i=>
  cases hu:P.underlying t with
  |none=>simp[hi,hu]at h
  |some u=>
   simp only[hi,hu,aat]at h;obtain⟨h1,h2,h3,h4,h5⟩:=h;cases hz:i.zero with
   |none=>simp[hz]at h3
   |some z=>
    simp only[hz]at h3;refine⟨⟨i,z,hi,aao h1,aaD h2,hz,h3⟩,⟨u,hu,?_⟩,?_⟩
    .cases sh with
     |scalar=>
      simp only;cases u with
      |int k=>
       left
       match zero,h4 with
       |[.int k' n],h4=>exact⟨k,n,rfl,by rw[Zk h4]⟩
      |bool=>
       right;left
       match zero,h4 with
       |[.bool b],_=>exact⟨b,rfl,rfl⟩
      |string=>
       right;right
       match zero,h4 with
       |[.str b],_=>exact⟨b,rfl,rfl⟩
      |_=>simp at h4
     |struct fs=>
      cases u with
      |struct fields=>exact⟨fields,rfl,by simpa using h4⟩
      |_=>simp at h4
     |slice e=>
      cases u with
      |slice e'=>
       match zero,h4 with
       |[.nl y],h4=>simp only at h4⊢;rw[aao h4]
      |_=>simp at h4
    .intro y hy;simp only at hy;subst hy;exact aao h5
def AVR(F:Fz)(B:Nat)(w:World)(tm:Nat->Value)(ge:Get)(owd:Option Nat->Option Nat):AV->Value->Prop
 |.view n none,v=>v=tm n/\bears (ge n)=true
 |.view n (some j),v=>∃cs b f c,ge n=.box cs/\cs[j]? = some (.acc f,c)/\tm n=.pointer (some ⟨b,0,none⟩)/\w.cell? ⟨b,j,none⟩=some v
 |.baddr n o,v=>∃cs b,ge n=.box cs/\tm n=.pointer (some ⟨b,0,none⟩)/\v=.pointer (some ⟨b,o,none⟩)
 |.faddr f cs,v=>∃b o vs,v=.pointer (some ⟨b,o,none⟩)/\RCs F (lof B f) w cs vs/\∀j u,vs[j]? = some u->F b (o+j)/\w.cell? ⟨b,o+j,none⟩=some u
 |.oaddr n i o,v=>∃t xs b cap f,ge n=.v (.own f) (.lst t xs)/\tm n=.slice (some ⟨b,0,none⟩) xs.length cap/\0<=i/\i<xs.length /\
   v=.pointer (some ⟨b,i.toNat*t.size+o,none⟩)
 |.cond _ _,_=>False
 |a,v=>VR F B w owd a v
theorem SR.avr{F:Fz}{B:Nat}{w:World}{tm:Nat->Value}{ge:Get}{ow:Nat->Option Nat->Option Nat}{n:Nat}{av:AV}(h:SR F B w tm ge ow n av)(hc:∀k a,av≠.cond k a) :
  AVR F B w tm ge (ow n) av (tm n):=by
 cases av with
 |view m o=>
  cases o with
  |none=>exact⟨h.1,h.2.1⟩
  |some j=>exact h.2
 |baddr m o=>exact h.2
 |faddr f cs=>exact h
 |oaddr m i o=>exact h.2
 |cond k a=>exact absurd rfl (hc k a)
 |_=>exact h
theorem AVR.sr{F:Fz}{B:Nat}{w:World}{tm:Nat->Value}{ge g':Get}{ow:Nat->Option Nat->Option Nat}{owd:Option Nat->Option Nat}{d:Nat}{av:AV}{v:Value}
  (h:AVR F B w tm ge owd av v) (hd:Bh d av=false) (hg:∀n,n≠d->bears (ge n)=true->g' n=ge n) :
  SR F B w (λn=>if n=d then v else tm n) g' (λs=>if s=d then owd else ow s) d av:=by
 have hh:∀ {n:Nat},aaq n d=false->n≠d:=λhb e=>by rw[e,aaJ]at hb;exact absurd hb (by simp)
 cases av with
 |view m o=>
  have hm:m≠d:=hh (by cases o<;>exact hd);cases o with
  |none=>exact⟨by simp only[if_true,if_neg hm];exact h.1,by rw[hg m hm h.2];exact h.2,hm⟩
  |some j=>
   obtain⟨cs,b,f,c,h1,h2,h3,h4⟩:=h;exact⟨hm,cs,b,f,c,by rw[hg m hm (by rw[h1];rfl)];exact h1,h2,by simp only[if_neg hm];exact h3,by simp only[if_true];exact h4⟩
 |baddr m o=>
  have hm:m≠d:=hh hd;obtain⟨cs,b,h1,h2,h3⟩:=h;exact⟨hm,cs,b,by rw[hg m hm (by rw[h1];rfl)];exact h1,by simp only[if_neg hm];exact h2,by simp only[if_true];exact h3⟩
 |faddr f cs=>
  obtain⟨b,o,vs,h1,h2,h3⟩:=h;exact⟨b,o,vs,by simp only[if_true];exact h1,h2,h3⟩
 |oaddr m i o=>
  have hm:m≠d:=hh hd;obtain⟨t,xs,b,cap,f,h1,h2,h3,h4,h5⟩:=h;exact⟨hm,t,xs,b,cap,f,by rw[hg m hm (by rw[h1];rfl)];exact h1,by simp only[if_neg hm];exact h2,h3,h4,by simp only[if_true];exact h5⟩
 |cond k a=>exact h.elim
 |dead=>trivial
 |v k c=>show VR F B w _ (.v k c) _;simp only[if_true];exact h
 |agg f cs=>show VR F B w _ (.agg f cs) _;simp only[if_true];exact h
 |tup l=>show VR F B w _ (.tup l) _;simp only[if_true];exact h
 |box cs=>show VR F B w _ (.box cs) _;simp only[if_true];exact h
structure Kn(F:Fz)(B:Nat)(w:World)(tm:Nat->Value)(ge g:Get)(ow:Nat->Option Nat->Option Nat):Prop where
 live:Live F w
 sr:∀n,g n=.dead\/(SR F B w tm ge ow n (g n)/\(∀k a,g n≠.cond k a)/\(bears (g n)=true->ge n=g n))
theorem Kn.avr{F:Fz}{B:Nat}{w:World}{tm:Nat->Value}{ge g:Get}{ow:Nat->Option Nat->Option Nat}(h:Kn F B w tm ge g ow)(n:Nat) :
  AVR F B w tm ge (ow n) (g n) (tm n):=by
 rcases h.sr n with h|h
 .rw[h];trivial
 .exact h.1.avr h.2.1
theorem Kn.bears{F:Fz}{B:Nat}{w:World}{tm:Nat->Value}{ge g:Get}{ow:Nat->Option Nat->Option Nat}(h:Kn F B w tm ge g ow)(n:Nat)(hb:bears (g n)=true):ge n=g n:=by
 rcases h.sr n with h|h
 .rw[h]at hb;simp[Go.Proofs.YteogppapbognjaaGreatDoor.bears]at hb
 .exact h.2.2 hb
theorem bn{F:Fz}{B:Nat}{w:World}{a:Act}{ge g:Get}{ow:Nat->Option Nat->Option Nat}(h:Kn F B w (λn=>a.tmps.getD n undef) ge g ow)(tt:TT)(t:Nat)(x:aav) :
  ∃o,AVR F B w (λn=>a.tmps.getD n undef) ge o (rdo tt g t x) (a.eval x):=by
 cases x with
 |tmp n=>exact⟨ow n,h.avr n⟩
 |const v=>
  refine⟨λ_=>none,?_⟩;show AVR F B w _ ge _ (match zh tt t v with|some c=>.v .fr c|none=>.dead) v;cases hc:zh tt t v with
  |none=>trivial
  |some c=>
   show RC F B w c v;unfold zh at hc;split at hc
   .cases hc;exact .int _ _
   .cases hc;exact .bool _
   .cases hc;exact .str _
   .split at hc
    .cases hc;exact .nl _
    .cases hc
   .cases hc
 |global n=>exact⟨λ_=>none,trivial⟩
 |func n=>exact⟨λ_=>none,trivial⟩
def PlR(F:Fz)(B:Nat)(w:World)(ge:Get)(ow:Nat->Option Nat->Option Nat)(bo:Bool)(p:PV)(v:Value):Prop:=
 match bo with
 |false=>PVR F B w p v
 |true=>∃f c m,p=⟨f,false,[c]⟩/\ge m=.v (.own f) c/\ae F (lof B f) w (ow m none) c v
theorem DC{F:Fz}{B:Nat}{w:World}{f:Bool}{c:C}{v:Value}(h:RC F (lof B f) w c v):PVR F B w ⟨f,false,[c]⟩ v:=h
theorem EC{F:Fz}{B:Nat}{w:World}{tm:Nat->Value}{ge g:Get}{ow:Nat->Option Nat->Option Nat}(h:Kn F B w tm ge g ow){o:Option Nat->Option Nat}{av:AV}{v:Value}
  (hav:AVR F B w tm ge o av v) (ho:∀f c,av=.v (.own f) c->∃m,o none=ow m none/\ge m=av) {bo:Bool}{p:PV} (hp:plainR g av=some (bo,p)):PlR F B w ge ow bo p v:=by
 cases av with
 |dead=>simp[plainR]at hp
 |v k c=>
  cases k with
  |sh=>simp[plainR]at hp;obtain⟨rfl,rfl⟩:=hp;exact hav
  |fr=>simp[plainR]at hp;obtain⟨rfl,rfl⟩:=hp;exact hav
  |acc f=>simp[plainR]at hp;obtain⟨rfl,rfl⟩:=hp;exact DC hav.1
  |own f=>
   simp[plainR]at hp;obtain⟨rfl,rfl⟩:=hp;obtain⟨m,hm,hi⟩:=ho f c rfl;refine⟨f,c,m,rfl,hi,?_⟩;rw[<-hm];exact hav
 |agg f cs=>simp[plainR]at hp;obtain⟨rfl,rfl⟩:=hp;exact hav
 |tup l=>simp[plainR]at hp
 |cond k a=>simp[plainR]at hp
 |box cs=>simp[plainR]at hp
 |view n i=>
  cases i with
  |none=>
   simp only[plainR]at hp;have hn:=h.avr n;have hb:=h.bears n;cases hgn:g n with
   |v k c=>
    rw[hgn]at hp hn;cases k with
    |acc f=>
     simp at hp;obtain⟨rfl,rfl⟩:=hp;rw[hav.1];exact DC hn.1
    |own f=>
     simp at hp;obtain⟨rfl,rfl⟩:=hp;exact⟨f,c,n,rfl,by rw[hb (by rw[hgn];rfl),hgn],by rw[hav.1];exact hn⟩
    |_=>simp at hp
   |_=>rw[hgn]at hp;simp at hp
  |some j=>
   simp only[plainR]at hp;obtain⟨cs,b,f,c,h1,h2,h3,h4⟩:=hav;cases hgn:g n with
   |box ds=>
    rw[hgn]at hp;have hh:ge n=.box ds:=by rw[h.bears n (by rw[hgn];rfl),hgn]
    rw[h1]at hh;cases hh;simp only[h2]at hp;simp at hp;obtain⟨rfl,rfl⟩:=hp;have hn:=h.avr n;rw[hgn]at hn;obtain⟨b',vs,e1,e2,e3,e4,e5,e6⟩:=hn;rw[h3]at e1;cases e1;have hv:vs[j]? = some v:=by rw[<-e3.cell j];exact h4
    exact DC (e6 j _ v h2 hv).1
   |_=>rw[hgn]at hp;simp at hp
 |baddr n i=>simp[plainR]at hp
 |faddr f cs=>simp[plainR]at hp
 |oaddr n i o=>simp[plainR]at hp
theorem PlR.norm{F:Fz}{B:Nat}{w:World}{ge:Get}{ow:Nat->Option Nat->Option Nat}{bo:Bool}{f x:Bool}{cs:List C}{v:Value}(h:PlR F B w ge ow bo ⟨f,x,cs⟩ v):PlR F B w ge ow bo ⟨f,x,norms cs⟩ v:=by
 cases bo with
 |false=>
  cases x with
  |true=>obtain⟨vs,rfl,h⟩:=h;exact⟨vs,rfl,h.norms⟩
  |false=>
   match cs,h with
   |[c],h=>exact RC.norm h
 |true=>
  obtain⟨f',c,m,hp,hh,h⟩:=h;cases hp;rcases h with⟨t,h1,h2⟩|⟨t,xs,b,cap,cs,vs,h1,h2⟩
  .subst h1;exact⟨f,.lst t [],m,rfl,hh,.inl ⟨t,rfl,h2⟩⟩
  .subst h1;exact⟨f,.lst t xs,m,rfl,hh,.inr ⟨t,xs,b,cap,cs,vs,rfl,h2⟩⟩
theorem YY{tt:TT}{g:Get}{t:Nat}{x:aav}{f:Bool}{c:C}(h:rdo tt g t x=.v (.own f) c):∃n,x=.tmp n:=by
 cases x with
 |tmp n=>exact⟨n,rfl⟩
 |const v=>
  simp only[rdo]at h;split at h<;>cases h
 |_=>simp[rdo]at h
theorem cn{F:Fz}{B:Nat}{w:World}{a:Act}{ge g:Get}{ow:Nat->Option Nat->Option Nat}(h:Kn F B w (λn=>a.tmps.getD n undef) ge g ow){tt:TT}{t:Nat}{x:aav}
  {bo:Bool}{p:PV} (hp:plainR g (rdo tt g t x)=some (bo,p)):PlR F B w ge ow bo p (a.eval x):=by
 cases x with
 |tmp n=>exact EC h (o:=ow n) (h.avr n) (λf c e=>⟨n,rfl,by have e':g n=.v (.own f) c:=e;show ge n=g n;exact h.bears n (by rw[e'];rfl)⟩) hp
 |const v=>
  obtain⟨o,ho⟩:=bn h tt t (.const v);exact EC h ho (λf c e=>absurd (YY e) (by simp)) hp
 |global n=>simp[rdo,plainR]at hp
 |func n=>simp[rdo,plainR]at hp
theorem ce{F:Fz}{B:Nat}{w:World}{a:Act}{ge g:Get}{ow:Nat->Option Nat->Option Nat}(h:Kn F B w (λn=>a.tmps.getD n undef) ge g ow){tt:TT}{t:Nat}{x:aav}
  {bo:Bool}{p:PV} (hp:plain g (rdo tt g t x)=some (bo,p)):PlR F B w ge ow bo p (a.eval x):=by
 unfold plain at hp;cases hq:plainR g (rdo tt g t x) with
 |none=>rw[hq]at hp;simp at hp
 |some q=>
  obtain⟨b',f',x',hh⟩:=q;rw[hq]at hp;simp at hp;obtain⟨rfl,rfl⟩:=hp;exact(cn h hq).norm
theorem PlR.int{F:Fz}{B:Nat}{w:World}{ge:Get}{ow:Nat->Option Nat->Option Nat}{bo f:Bool}{k:aaQ}{n:Int}{v:Value}(h:PlR F B w ge ow bo ⟨f,false,[.int k n]⟩ v):v=.int k n:=by
 cases bo with
 |false=>cases h;rfl
 |true=>obtain⟨f',c,m,hp,_,h⟩:=h;cases hp;rcases h with⟨t,h1,_⟩|⟨t,xs,b,cap,cs,vs,h1,_⟩<;>cases h1
theorem PlR.bool{F:Fz}{B:Nat}{w:World}{ge:Get}{ow:Nat->Option Nat->Option Nat}{bo f:Bool}{n:Bool}{v:Value}(h:PlR F B w ge ow bo ⟨f,false,[.bool n]⟩ v):v=.bool n:=by
 cases bo with
 |false=>cases h;rfl
 |true=>obtain⟨f',c,m,hp,_,h⟩:=h;cases hp;rcases h with⟨t,h1,_⟩|⟨t,xs,b,cap,cs,vs,h1,_⟩<;>cases h1
theorem PlR.str{F:Fz}{B:Nat}{w:World}{ge:Get}{ow:Nat->Option Nat->Option Nat}{bo f:Bool}{n:ByteArray}{v:Value}(h:PlR F B w ge ow bo ⟨f,false,[.str n]⟩ v):v=.string n:=by
 cases bo with
 |false=>cases h;rfl
 |true=>obtain⟨f',c,m,hp,_,h⟩:=h;cases hp;rcases h with⟨t,h1,_⟩|⟨t,xs,b,cap,cs,vs,h1,_⟩<;>cases h1
theorem PlR.agg{F:Fz}{B:Nat}{w:World}{ge:Get}{ow:Nat->Option Nat->Option Nat}{bo f:Bool}{cs:List C}{v:Value}(h:PlR F B w ge ow bo ⟨f,true,cs⟩ v) :
  ∃vs:List Value,v=.agg vs.toArray/\RCs F (lof B f) w cs vs:=by
 cases bo with
 |false=>exact h
 |true=>obtain⟨f',c,m,hp,_⟩:=h;cases hp
theorem PlR.lst{F:Fz}{B:Nat}{w:World}{ge:Get}{ow:Nat->Option Nat->Option Nat}{bo f:Bool}{t:Ty}{xs:List t.T}{v:Value}(h:PlR F B w ge ow bo ⟨f,false,[.lst t xs]⟩ v) :
  ∃ad cap,v=.slice ad xs.length cap/\(bo=false->RC F (lof B f) w (.lst t xs) v):=by
 cases bo with
 |false=>
  refine ?_;have h':RC F (lof B f) w (.lst t xs) v:=h;have h2:=h';cases h' with
  |nil=>exact⟨none,0,rfl,λ_=>h2⟩
  |lst _ _ b o cap vs hb hcap hf hc hr=>exact⟨_,cap,rfl,λ_=>h2⟩
 |true=>
  obtain⟨f',c,m,hp,_,h⟩:=h;cases hp;rcases h with⟨t',h1,h2⟩|⟨t',hh,b,cap,cs,vs,h1,h2,h3⟩
  .cases h1;exact⟨none,0,h2,λh=>by cases h⟩
  cases h1;exact⟨_,cap,h2,λe=>by simp at e⟩
theorem jn{F:Fz}{B:Nat}{w:World}{a:Act}{ge g:Get}{ow:Nat->Option Nat->Option Nat}(h:Kn F B w (λn=>a.tmps.getD n undef) ge g ow){tt:TT}{t:Nat}{x:aav}
  {n:Int} (hp:ri g (rdo tt g t x)=some n):∃k,a.eval x=.int k n:=by
 unfold ri at hp;split at hp
 .rename_i q hq;cases hp;exact⟨_,(cn h hq).int⟩
 .simp at hp
def ab(P:aaF)(F:Fz)(B:Nat)(w:World)(tm:Nat->Value)(ge:Get)(s:Sem Next)(av:AV):Prop:=
 ∃ v w' F' owd,s.run P w=.ok (.value v) w'/\Ua F w F' w'/\Live F' w'/\(∀i b,owd i=some b->w.heap.size<=b/\b<w'.heap.size) /\
   (∀i i' b,owd i=some b->owd i'=some b->i=i')/\AVR F' B w' tm ge owd av v
theorem ab.same{P:aaF}{F:Fz}{B:Nat}{w:World}{tm:Nat->Value}{ge:Get}{s:Sem Next}{av:AV}{v:Value}(hl:Live F w)
  (hr:s.run P w=.ok (.value v) w) (h:AVR F B w tm ge (λ_=>none) av v):ab P F B w tm ge s av:=⟨v,w,F,λ_=>none,hr,Ua.refl F w,hl,λi b h=>by simp at h,λi i' b h=>by simp at h,h⟩
theorem AVR.nob{F:Fz}{B:Nat}{w:World}{tm:Nat->Value}{ge:Get}{o o':Option Nat->Option Nat}{av:AV}{v:Value}(hb:bears av=false)(h:AVR F B w tm ge o av v):AVR F B w tm ge o' av v:=by
 cases av with
 |v k c=>cases k<;>first|exact h|(simp[bears]at hb)
 |box cs=>simp[bears]at hb
 |view n i=>cases i<;>exact h
 |_=>exact h
section
variable {P:aaF}{F:Fz}{B:Nat}{w:World}{a:Act}{ge g:Get}{ow:Nat->Option Nat->Option Nat}
theorem xO(h:Kn F B w (λn=>a.tmps.getD n undef) ge g ow)(s:Nat) :
  AVR F B w (λn=>a.tmps.getD n undef) ge (λ_=>none) (Xm g s) (a.eval (.tmp s)):=by
 have hs:=h.avr s;have hb:=h.bears s;unfold Xm;split
 .rename_i f c e;exact⟨rfl,by rw[hb (by rw[e];rfl),e];rfl⟩
 .rename_i f c e;exact⟨rfl,by rw[hb (by rw[e];rfl),e];rfl⟩
 .rename_i cs e;exact⟨rfl,by rw[hb (by rw[e];rfl),e];rfl⟩
 .rename_i h1 h2 h3;refine AVR.nob ?_ hs;cases hg:g s with
  |v k c=>cases k<;>first|rfl|exact absurd hg (h1 _ _)|exact absurd hg (h2 _ _)
  |box cs=>exact absurd hg (h3 _)
  |_=>rfl
theorem FC(tt:TT)(g:Get)(tm:Nat->Value)(ge:Get)(t:Nat)(x:aav)(hx:∀n,x≠.tmp n) :
  AVR F B w tm ge (λ_=>none) (rdo tt g t x) (a.eval x):=by
 cases x with
 |tmp n=>exact absurd rfl (hx n)
 |const v=>
  show AVR F B w _ ge _ (match zh tt t v with|some c=>.v .fr c|none=>.dead) v;cases hc:zh tt t v with
  |none=>trivial
  |some c=>
   show RC F B w c v;unfold zh at hc;split at hc
   .cases hc;exact .int _ _
   .cases hc;exact .bool _
   .cases hc;exact .str _
   .split at hc
    .cases hc;exact .nl _
    .cases hc
   .cases hc
 |global n=>trivial
 |func n=>trivial
theorem ZY(hl:Live F w){op:BinOp}{k:aaQ}{x y:Int}{t:Nat}{X Y:aav}{c:C}{obs:List Prop}{f f':Bool}(tm:Nat->Value)(ge:Get)
  (hb:bin op ⟨f,false,[.int k x]⟩ ⟨f',false,[.int k y]⟩=some (c,obs)) (ho:∀p∈obs,p) :
  ab P F B w tm ge (do let r <-(do aaS op t X Y (.int k x) (.int k y);binOp op t (.int k x) (.int k y));pure (.value r)) (.v .fr c):=by
 have hk:oi k k=true:=by cases k<;>rfl
 simp only[bin,hk]at hb
 cases op<;>simp only[aal,aap,reduceCtorEq]at hb<;>obtain⟨rfl,rfl⟩:=hb <;>
  first
  |(refine ab.same hl (v:=.int k _) ?_ (.int _ _)
    simp[aaS,binOp,Op.intArith,ar]
    done)
  |(refine ab.same hl (v:=.int k _) ?_ (.int _ _)
    simp[aaS,binOp,Op.intBits,xr]
    done)
  |(refine ab.same hl (v:=.bool _) ?_ (.bool _)
    simp[aaS,binOp,Op.intCmp,cmp]
    done)
  |(have hy:y≠0:=ho _ (by simp)
    refine ab.same hl (v:=.int k _) ?_ (.int _ _);simp[aaS,binOp,Op.intDiv,ar,hy]
    done)
theorem aZ(hl:Live F w){op:BinOp}{x y:ByteArray}{t:Nat}{X Y:aav}{c:C}{obs:List Prop}{f f':Bool}(tm:Nat->Value)(ge:Get)
  (hb:bin op ⟨f,false,[.str x]⟩ ⟨f',false,[.str y]⟩=some (c,obs)) (ho:∀p∈obs,p) :
  ab P F B w tm ge (do let r <-(do aaS op t X Y (.string x) (.string y);binOp op t (.string x) (.string y));pure (.value r)) (.v .fr c):=by
 simp only[bin]at hb;cases op<;>simp only[aal,aap,reduceCtorEq]at hb<;>obtain⟨rfl,rfl⟩:=hb
 .have hs:lim (fa x) (fa y):=ho _ (by simp);unfold lim fa at hs
  have h1:¬ (((x.size+y.size:Nat):Int) > IntKind.i64.max):=by
   have:IntKind.i64.max=9223372036854775807:=by decide
   omega
  refine ab.same hl (v:=.string (x++y)) ?_ (.str _);simp only[aaS,binOp,acg,if_neg h1];simp
 .refine ab.same hl (v:=.bool _) ?_ (.bool _);simp[aaS,binOp,acg,seq]
 .refine ab.same hl (v:=.bool _) ?_ (.bool _);simp[aaS,binOp,acg,seq]
end
section
variable {P:aaF}{w:World}
theorem Sb.size{t:Nat}{d:TD}(h:Sb P t d)(w:World):(sizeOf t).run P w=.ok d.size w:=by
 obtain⟨i,z,hi,hs,_⟩:=h.info;simp[sizeOf,abl,hi,hs]
theorem Sb.agg{t:Nat}{d:TD}(h:Sb P t d)(w:World):(Go.isAgg t).run P w=.ok (isAgg d) w:=by
 obtain⟨u,hu,hd⟩:=h.und;obtain⟨sh,size,zero,ty,eq⟩:=d;cases sh with
 |scalar=>
  rcases hd with⟨k,n,rfl,_⟩|⟨_,rfl,_⟩|⟨_,rfl,_⟩<;>simp[Go.isAgg,aas hu,isAgg]
 |struct fs=>
  obtain⟨fields,rfl,_⟩:=hd;simp[Go.isAgg,aas hu,isAgg]
 |slice e=>
  cases hd;simp[Go.isAgg,aas hu,isAgg]
theorem Sb.zeroV{t:Nat}{d:TD}(h:Sb P t d)(w:World):∃z:Value,(zeroValue t).run P w=.ok z w/\zOk d.zero z.cells.toList=true:=by
 obtain⟨i,z,hi,hs,hb,hz,hc⟩:=h.info;exact⟨z,by simp[zeroValue,abl,hi,hz],hc⟩
theorem addr_add(b o j:Nat):(⟨b,o,none⟩ : Addr).add j=⟨b,o+j,none⟩:=by
 unfold Addr.add;split<;>simp_all
theorem bZ{b o n:Nat}{us:List Value}(hn:us.length=n)(hu:∀j u,us[j]? = some u->w.cell? ⟨b,o+j,none⟩=some u) :
  (loadCells ⟨b,o,none⟩ n).run P w=.ok us.toArray w:=by
 rw[<-hn];exact run_loadCells_list (P:=P) w ⟨b,o,none⟩ us λj v hv=>by rw[addr_add];exact hu j v hv
theorem xj{t:Nat}{d:TD}(h:Sb P t d)(ha:isAgg d=true){b o:Nat}{us:List Value}(hn:us.length=d.size)
  (hu:∀j u,us[j]? = some u->w.cell? ⟨b,o+j,none⟩=some u):(abg t (.pointer (some ⟨b,o,none⟩))).run P w=.ok (.agg us.toArray) w:=by
 simp[abg,abu,loadVar,h.agg w,ha,h.size w,bZ (P:=P) hn hu]
theorem ln{t:Nat}{d:TD}(h:Sb P t d)(ha:isAgg d=false){b o:Nat}{u:Value}(hu:w.cell? ⟨b,o,none⟩=some u) :
  (abg t (.pointer (some ⟨b,o,none⟩))).run P w=.ok u w:=by
 simp[abg,abu,loadVar,h.agg w,ha,hu]
theorem GC{F:Fz}{B:Nat}{ow:Option Nat->Option Nat}:∀ {cs:List (K×C)}{vs:List Value}{p:Nat}{f:Bool}{l:List C},cs.length=vs.length ->
  (∀(j:Nat) (kc:K×C) (u:Value),cs[j]? = some kc->vs[j]? = some u->Eb F B w (ow (some (p+j))) kc u)->Xd cs=some (f,l) ->
  RCs F (lof B f) w l vs
 |[],[],_,f,l,_,_,hr=>by simp[Xd]at hr;obtain⟨rfl,rfl⟩:=hr;exact .nil
 |(k,c)::cs,v::vs,p,f,l,hl,hb,hr=>by
  have h0:=hb 0 (k,c) v rfl rfl
  have ht:∀ {f':Bool}{l':List C},Xd cs=some (f',l')->RCs F (lof B f') w l' vs:=λhr'=>
   GC (p:=p+1) (by simpa using hl) (λj kc u hk hu=>by
    have:=hb (j+1) kc u (by simpa using hk) (by simpa using hu);rwa [show p+(j+1)=p+1+j by omega]at this) hr'
  have hh:∀ {lo:Nat}{c:C}{v:Value},RC F lo w c v->RC F 0 w c v:=λh=>h.mono (λ_ _ h=>h) (aaR _) (λ_ _ _=>rfl);have hi:∀ {lo:Nat}{c:List C}{v:List Value},RCs F lo w c v->RCs F 0 w c v:=λh=>h.mono (λ_ _ h=>h) (aaR _) (λ_ _ _=>rfl);cases k with
  |sh=>
   simp only[Xd]at hr;cases hq:Xd cs with
   |none=>rw[hq]at hr;simp at hr
   |some q=>
    obtain⟨f',l'⟩:=q;rw[hq]at hr;simp at hr;obtain⟨rfl,rfl⟩:=hr;exact .cons h0 (hi (ht hq))
  |fr=>
   simp only[Xd]at hr;cases hq:Xd cs with
   |none=>rw[hq]at hr;simp at hr
   |some q=>
    obtain⟨f',l'⟩:=q;rw[hq]at hr;simp at hr;obtain⟨rfl,rfl⟩:=hr;refine .cons ?_ (ht hq);cases f' with
    |true=>exact h0
    |false=>exact hh h0
  |acc b=>
   simp only[Xd]at hr;cases hq:Xd cs with
   |none=>rw[hq]at hr;simp at hr
   |some q=>
    obtain⟨f',l'⟩:=q;rw[hq]at hr;simp at hr;obtain⟨rfl,rfl⟩:=hr;have h1:RC F (lof B b) w c v:=h0.1;cases b<;>cases f'
    .exact .cons h1 (ht hq)
    .exact .cons h1 (hi (ht hq))
    .exact .cons (hh h1) (ht hq)
    .exact .cons h1 (ht hq)
  |own b=>simp[Xd]at hr
 |[],_::_,_,_,_,hl,_,_=>by simp at hl
 |_::_,[],_,_,_,hl,_,_=>by simp at hl
variable {F:Fz}{B:Nat}{a:Act}{ge g:Get}{ow:Nat->Option Nat->Option Nat}
theorem yO(h:Kn F B w (λn=>a.tmps.getD n undef) ge g ow)(x:aav) :
  AVR F B w (λn=>a.tmps.getD n undef) ge (λ_=>none) (addrOf g x) (a.eval x)\/∃n k c,x=.tmp n/\g n=.v k c/\addrOf g x=.v k c:=by
 cases x with
 |tmp n=>
  have hn:=h.avr n;have hb:=h.bears n;cases hg:g n with
  |box cs=>left;simp only[addrOf,hg];exact⟨rfl,by rw[hb (by rw[hg];rfl),hg];rfl⟩
  |v k c=>right;exact⟨n,k,c,rfl,hg,by simp only[addrOf,hg]⟩
  |dead=>left;simp only[addrOf,hg];trivial
  |agg f cs=>left;rw[hg]at hn;simp only[addrOf,hg];exact hn
  |tup l=>left;rw[hg]at hn;simp only[addrOf,hg];exact hn
  |cond k a=>rw[hg]at hn;exact hn.elim
  |view m o=>left;rw[hg]at hn;simp only[addrOf,hg];cases o<;>exact hn
  |baddr m o=>left;rw[hg]at hn;simp only[addrOf,hg];exact hn
  |faddr f cs=>left;rw[hg]at hn;simp only[addrOf,hg];exact hn
  |oaddr m i o=>left;rw[hg]at hn;simp only[addrOf,hg];exact hn
 |const v=>left;trivial
 |global n=>left;trivial
 |func n=>left;trivial
theorem yj(h:Kn F B w (λn=>a.tmps.getD n undef) ge g ow){s:Nat}{cs:List (K×C)}(hg:g s=.box cs) :
  ge s=.box cs/\∃b vs,a.tmps.getD s undef=.pointer (some ⟨b,0,none⟩)/\ow s none=some b/\Blk w b vs/\(∀o,¬ F b o)/\vs.length=cs.length /\
   ∀j kc u,cs[j]? = some kc->vs[j]? = some u->Eb F B w (ow s (some j)) kc u:=by
 have hn:=h.avr s;have hb:=h.bears s;rw[hg]at hn hb;exact⟨hb rfl,hn⟩
theorem zO(h:Kn F B w (λn=>a.tmps.getD n undef) ge g ow){s:Nat}{f:Bool}{c:C}(hg:g s=.v (.own f) c) :
  ge s=.v (.own f) c/\ae F (lof B f) w (ow s none) c (a.tmps.getD s undef):=by
 have hn:=h.avr s;have hb:=h.bears s;rw[hg]at hn hb;exact⟨hb rfl,hn⟩
theorem cZ(h:Kn F B w (λn=>a.tmps.getD n undef) ge g ow){s:Nat}{f:Bool}{c:C}(hg:g s=.v (.acc f) c) :
  ge s=.v (.acc f) c/\Ca F (lof B f) w (ow s none) c (a.tmps.getD s undef):=by
 have hn:=h.avr s;have hb:=h.bears s;rw[hg]at hn hb;exact⟨hb rfl,hn⟩
theorem AO(h:Kn F B w (λn=>a.tmps.getD n undef) ge g ow){t:Nat}{d:TD}(hd:Sb P t d){s o b:Nat}{cs:List (K×C)}{vs:List Value}{r:AV}
  (hg:g s=.box cs) (hp:a.tmps.getD s undef=.pointer (some ⟨b,0,none⟩)) (hB:Blk w b vs) (hl:vs.length=cs.length)
  (hc:∀j kc u,cs[j]? = some kc->vs[j]? = some u->Eb F B w (ow s (some j)) kc u) (hr:Ir d s o cs=some r) :
  ∃v,(abg t (.pointer (some ⟨b,o,none⟩))).run P w=.ok v w/\AVR F B w (λn=>a.tmps.getD n undef) ge (λ_=>none) r v:=by
 have hn:=(yj h hg).1;unfold Ir at hr;cases ha:isAgg d with
 |true=>
  simp only[ha]at hr;cases hq:Xd ((cs.drop o).take d.size) with
  |none=>rw[hq]at hr;simp at hr
  |some q=>
   obtain⟨f,l⟩:=q;rw[hq]at hr;cases hle:aaY (o+d.size) cs.length with
   |false=>rw[hle]at hr;simp at hr
   |true=>
    rw[hle]at hr;simp at hr;subst hr;have ho:=aaD hle;refine⟨.agg ((vs.drop o).take d.size).toArray,xj hd ha (by simp;omega) (λj u hu=>?_),(vs.drop o).take d.size,rfl,?_⟩
    .rw[hB.cell];rw[aaE]at hu;split at hu
     .rw[aaH]at hu;exact hu
     .simp at hu
    .refine GC (ow:=ow s) (p:=o) (by simp[hl]) (λj kc u hk hu=>?_) hq;rw[aaE]at hk hu;split at hk
     .rename_i hj;rw[if_pos hj]at hu;rw[aaH]at hk hu;exact hc _ _ _ hk hu
     .simp at hk
 |false=>
  simp only[ha]at hr;cases hd':cs.drop o with
  |nil=>rw[hd']at hr;simp at hr
  |cons kc rest=>
   obtain⟨k,c⟩:=kc
   have hm:cs[o]? = some (k,c):=by
    have:(cs.drop o)[0]? = some (k,c):=by rw[hd'];rfl
    rwa [aaH,abo]at this
   have hs:o<vs.length:=by rw[hl];exact(aan.1 hm).1
   have ht:vs[o]? = some vs[o]:=aam hs;have hi:w.cell? ⟨b,o,none⟩=some vs[o]:=by rw[hB.cell];exact ht
   refine⟨vs[o],ln hd ha hi,?_⟩;have hh:=hc o _ _ hm ht;rw[hd']at hr;cases k with
   |sh=>simp at hr;subst hr;exact hh
   |fr=>simp at hr;subst hr;exact hh
   |acc f=>simp at hr;subst hr;exact⟨cs,b,f,c,hn,hm,hp,hi⟩
   |own f=>simp at hr
theorem HC{t:Ty}{xs:List t.T}{i:Int}(h0:0<=i)(h1:i<xs.length):xs[i.toNat]? = some (rd t xs i):=by
 have:i.toNat<xs.length:=by omega
 unfold rd;rw[aaw,aam this];rfl
theorem Yr{tm:Nat->Value}{ge:Get}{f:Bool}{c:C}{v:Value}(h:RC F (lof B f) w c v){o:Option Nat->Option Nat}:AVR F B w tm ge o (.v (frK f) c) v:=by
 cases f<;>exact h
theorem BO{tm:Nat->Value}{ge:Get}{f:Bool}{c:C}{v:Value}(h:RC F (lof B f) w c v){o:Option Nat->Option Nat}:AVR F B w tm ge o (.v (kC f c) c) v:=by
 unfold kC;cases hs:Dr c with
 |true=>exact h.scal hs
 |false=>exact Yr h
theorem eZ{f:Bool}{c:C}{v:Value}(h:RC F (lof B f) w c v){o:Option Nat->Option Nat}:VR F B w o (.v (frK f) c) v:=by
 cases f<;>exact h
theorem CO{f:Bool}{ob:Option Nat}{t:Ty}{xs:List t.T}{v:Value}(h:ae F (lof B f) w ob (.lst t xs) v){i:Int}(h0:0<=i)(h1:i<xs.length) :
  ∃ b cap cs,v=.slice (some ⟨b,0,none⟩) xs.length cap/\ob=some b/\Blk w b cs /\
    ∃us,RCs F (lof B f) w (cells t (rd t xs i)) us/\∀j u,us[j]? = some u->cs[i.toNat*t.size+j]? = some u:=by
 rcases h with⟨t',e1,_⟩|⟨t',hi,b,cap,cs,vs,e1,e2,e3,e4,e5,hh,e6,e7,e8,e9⟩
 .cases e1;simp at h1;omega
 cases e1;refine⟨b,cap,cs,e2,e3,e4,(abh t.size).map (vs i.toNat),?_,?_⟩
 .refine RCs.mk (by simp[We]) (λj c u hc hu=>?_);simp only[aaz]at hu;cases hr:(abh t.size)[j]? with
  |none=>rw[hr]at hu;simp at hu
  |some m=>
   rw[hr]at hu
   have hm:m=j:=by
    have:=aan.1 hr;obtain⟨hj,he⟩:=this;simpa using he.symm
   simp at hu;subst hu;subst hm;exact e9 i.toNat m _ c (HC h0 h1) hc
 .intro j u hu;simp only[aaz]at hu;cases hr:(abh t.size)[j]? with
  |none=>rw[hr]at hu;simp at hu
  |some m=>
   rw[hr]at hu;obtain⟨hj,he⟩:=aan.1 hr;have hm:m=j:=by simpa using he.symm
   simp at hu;subst hu;subst hm;exact e8 i.toNat m (by omega) (by simpa using hj)
theorem fZ(h:Kn F B w (λn=>a.tmps.getD n undef) ge g ow){t:Nat}{d:TD}(hd:Sb P t d){x:aav}{r:AV}(hr:Te g d (addrOf g x)=some r) :
  ∃v,(abg t (a.eval x)).run P w=.ok v w/\AVR F B w (λn=>a.tmps.getD n undef) ge (λ_=>none) r v:=by
 rcases yO h x with hx|⟨n,k,c,hx,hg,he⟩
 .cases hq:addrOf g x with
  |faddr f cs=>
   rw[hq]at hx hr;obtain⟨b,o,vs,e1,e2,e3⟩:=hx;simp only[e1];simp only[Te]at hr;cases ha:isAgg d with
   |true=>
    simp only[ha]at hr;cases hle:aaY d.size cs.length with
    |false=>rw[hle]at hr;simp at hr
    |true=>
     rw[hle]at hr;simp at hr;subst hr;have hk:=aaD hle;have hlen:=e2.length;refine⟨.agg (vs.take d.size).toArray,xj hd ha (by simp;omega) (λj u hu=>?_),vs.take d.size,rfl,(e2.take _).up⟩;rw[aaE]at hu;split at hu
     .exact (e3 j u hu).2
     .simp at hu
   |false=>
    simp only[ha]at hr;cases cs with
    |nil=>simp at hr
    |cons c cs=>
     simp at hr;subst hr;cases e2 with
     |cons hc hcs=>exact⟨_,ln hd ha (e3 0 _ rfl).2,BO hc⟩
  |baddr s o=>
   rw[hq]at hx hr;obtain⟨cs,b,e1,e2,e3⟩:=hx;simp only[Te]at hr;cases hg:g s with
   |box ds=>
    rw[hg]at hr;obtain⟨hj,b',vs,q1,q2,q3,q4,q5,q6⟩:=yj h hg;simp only[]at e2;rw[q1]at e2;cases e2;rw[e3];exact AO h hd hg q1 q3 q5 q6 hr
   |_=>rw[hg]at hr;simp at hr
  |view s i=>
   rw[hq]at hx hr;cases i with
   |some j=>simp[Te]at hr
   |none=>
    simp only[Te]at hr;cases hg:g s with
    |box ds=>
     rw[hg]at hr;obtain⟨hj,b',vs,q1,q2,q3,q4,q5,q6⟩:=yj h hg;have:a.eval x=.pointer (some ⟨b',0,none⟩):=hx.1.trans q1;rw[this];exact AO h hd hg q1 q3 q5 q6 hr
    |_=>rw[hg]at hr;simp at hr
  |oaddr s i o=>
   rw[hq]at hx hr;obtain⟨t',xs,b,cap,f,e1,e2,e3,e4,e5⟩:=hx;simp only[Te]at hr;cases hg:g s with
   |v k c=>
    rw[hg]at hr;cases k with
    |own f'=>
     obtain⟨hj,ho⟩:=zO h hg;rw[e1]at hj;cases hj;obtain⟨b',hh,cs,q1,q2,q3,us,q4,q5⟩:=CO ho e3 e4;simp only[]at e2;rw[q1]at e2;obtain⟨rfl,rfl⟩ : b'=b/\hh=cap:=by simpa using e2
     rw[e5];simp only[]at hr;have hi:∀j u,us[j]? = some u->w.cell? ⟨b',i.toNat*t'.size+j,none⟩=some u:=λj u hu=>by rw[q3.cell];exact q5 j u hu
     cases ha:isAgg d with
     |true=>
      simp only[ha]at hr;cases hle:aaY (o+d.size) (cells t' (rd t' xs i)).length with
      |false=>rw[hle]at hr;simp at hr
      |true=>
       rw[hle]at hr;simp at hr;subst hr;have hk:=aaD hle;have hlen:=q4.length;refine⟨.agg ((us.drop o).take d.size).toArray,xj hd ha (by simp;omega) (λj u hu=>?_),(us.drop o).take d.size,rfl,((q4.drop _).take _).up⟩;rw[aaE]at hu;split at hu
       .rw[aaH]at hu;rw[show i.toNat*t'.size+o+j=i.toNat*t'.size+(o+j) by omega];exact hi _ _ hu
       .simp at hu
     |false=>
      simp only[ha]at hr;have hdr:=q4.drop o;cases hcs:(cells t' (rd t' xs i)).drop o with
      |nil=>rw[hcs]at hr;simp at hr
      |cons c rest=>
       rw[hcs]at hr hdr;simp at hr;subst hr;cases hus:us.drop o with
       |nil=>rw[hus]at hdr;cases hdr
       |cons u us'=>
        rw[hus]at hdr;cases hdr with
        |cons hc _=>
         refine⟨u,ln hd ha (hi o u ?_),BO hc⟩;have:(us.drop o)[0]? = some u:=by rw[hus];rfl
         rwa [aaH,abo]at this
    |_=>simp at hr
   |_=>rw[hg]at hr;simp at hr
  |dead=>rw[hq]at hr;simp[Te]at hr
  |v k c=>rw[hq]at hr;simp[Te]at hr
  |agg f cs=>rw[hq]at hr;simp[Te]at hr
  |tup l=>rw[hq]at hr;simp[Te]at hr
  |cond k a=>rw[hq]at hr;simp[Te]at hr
  |box cs=>rw[hq]at hr;simp[Te]at hr
 .rw[he]at hr;simp[Te]at hr
theorem DO{fs:List (Nat×Nat)}{l:List Field}:∀(_h:Sg P fs l=true) {i o n:Nat},fs[i]? = some (o,n)->∃f,l[i]? = some f/\f.offset=o/\P.cellsOf f.type=n/\0<n:=by
 induction fs generalizing l with
 |nil=>intro h i o n hi;simp at hi
 |cons p fs ih=>
  obtain⟨o',n'⟩:=p;cases l with
  |nil=>intro h;simp[Sg]at h
  |cons f l=>
   intro h i o n hi;simp only[Sg,aat]at h;cases i with
   |zero=>
    simp at hi;obtain⟨rfl,rfl⟩:=hi;exact⟨f,rfl,(aao h.1).symm,(aao h.2.1).symm,by simpa [Nat.blt_eq] using h.2.2.1⟩
   |succ i=>simpa using ih h.2.2.2 (by simpa using hi)
theorem IC{t n:Nat}(h:P.cellsOf t=n)(hn:0<n)(w:World):(sizeOf t).run P w=.ok n w:=by
 unfold Program.cellsOf at h;cases hi:P.info? t with
 |none=>rw[hi]at h;simp at h;omega
 |some i=>
  rw[hi]at h;simp at h;simp[sizeOf,abl,hi,h]
theorem gZ(h:Kn F B w (λn=>a.tmps.getD n undef) ge g ow){t:Nat}{d:TD}(hd:Sb P t d){fs:List (Nat×Nat)}(hs:d.sh=.struct fs){x:aav}{i o n:Nat}{r:AV}
  (hi:fs[i]? = some (o,n)) (hr:Ue g o (addrOf g x)=some r) :
  ∃v,(abX t (a.eval x) i).run P w=.ok v w/\AVR F B w (λn=>a.tmps.getD n undef) ge (λ_=>none) r v:=by
 obtain⟨u,hu,hh⟩:=hd.und;rw[hs]at hh;obtain⟨fields,rfl,hf⟩:=hh;obtain⟨f,hj,hm,hl,hp⟩:=DO hf hi;have hk:fields[i]? = some f:=by rw[<-abQ];exact hj
 have ht:∀b p,(abX t (.pointer (some ⟨b,p,none⟩)) i).run P w=.ok (.pointer (some ⟨b,p+o,none⟩)) w:=by
  intro b p;have hsz:=IC (P:=P) hl hp w;have ho:¬ n=0:=by omega
  simp[abX,aas hu,hk,abu,fieldPlace,hsz,ho,addr_add,hm]
 rcases yO h x with hx|⟨n',k,c,hx,hg,he⟩
 .cases hq:addrOf g x with
  |faddr f' cs=>
   rw[hq]at hx hr;obtain⟨b,p,vs,e1,e2,e3⟩:=hx;simp[Ue]at hr;subst hr;refine⟨_,by rw[e1];exact ht b p,b,p+o,vs.drop o,rfl,e2.drop o,λj u hu=>?_⟩;rw[aaH]at hu;rw[abY];exact e3 _ _ hu
  |baddr s p=>
   rw[hq]at hx hr;obtain⟨cs,b,e1,e2,e3⟩:=hx;simp[Ue]at hr;subst hr;exact⟨_,by rw[e3];exact ht b p,cs,b,e1,e2,rfl⟩
  |view s j=>
   rw[hq]at hx hr;cases j with
   |some j=>simp[Ue]at hr
   |none=>
    simp only[Ue]at hr;cases hg:g s with
    |box ds=>
     rw[hg]at hr;simp at hr;subst hr;obtain⟨hn,b',vs,q1,q2,q3,q4,q5,q6⟩:=yj h hg;have:a.eval x=.pointer (some ⟨b',0,none⟩):=hx.1.trans q1;exact⟨_,by rw[this];exact ht b' 0,ds,b',hn,q1,by rw[aaK]⟩
    |_=>rw[hg]at hr;simp at hr
  |oaddr s j p=>
   rw[hq]at hx hr;obtain⟨t',xs,b,cap,f',e1,e2,e3,e4,e5⟩:=hx;simp[Ue]at hr;subst hr;exact⟨_,by rw[e5];exact ht b _,t',xs,b,cap,f',e1,e2,e3,e4,by rw[abY]⟩
  |dead=>rw[hq]at hr;simp[Ue]at hr
  |v k c=>rw[hq]at hr;simp[Ue]at hr
  |agg f cs=>rw[hq]at hr;simp[Ue]at hr
  |tup l=>rw[hq]at hr;simp[Ue]at hr
  |cond k a=>rw[hq]at hr;simp[Ue]at hr
  |box cs=>rw[hq]at hr;simp[Ue]at hr
 .rw[he]at hr;simp[Ue]at hr
end
def Eh(P:aaF)(t:Nat)(n:Nat):Prop:=P.eqGuardType P.depth t=false/\∀(w:World) (cs ds:List C) (b:Bool),Ib cs ds=some b->cs.length=n->(Op.equal t (.agg (cs.map zv).toArray) (.agg (ds.map zv).toArray)).run P w=.ok b w
structure dc(P:aaF)(tt:TT):Prop where
 td:∀t d,lk tt t=some d->Sb P t d
 eq:∀t d,lk tt t=some d->d.eq=true->Eh P t d.size
section
variable {P:aaF}{tt:TT} (htt:dc P tt)
include htt
theorem Zr{t:Nat}{y:Ty}{d:TD}(h:qj tt t=some (y,d)) :
  ∃e,P.underlying t=some (.slice e)/\lk tt e=some d/\d.ty=some y/\Sb P e d/\qC tt t=e:=by
 unfold qj at h;split at h
 .rename_i e x1 x2 x3 x4 hl;split at h
  .rename_i d' hd;split at h
   .rename_i y' hy;cases h;have ht:=htt.td _ _ hl;obtain⟨u,hu,hh⟩:=ht.und;cases hh;exact⟨e,hu,hd,hy,htt.td _ _ hd,by simp[qC,hl]⟩
   .cases h
  .cases h
 .cases h
theorem JC{t sz:Nat}(h:Wm tt t=some sz):∃e,P.underlying t=some (.slice e)/\∀w,(sizeOf e).run P w=.ok sz w:=by
 unfold Wm at h;split at h
 .rename_i y d hd;cases h;obtain⟨e,he,_,_,hh,_⟩:=Zr htt hd;exact⟨e,he,λw=>hh.size w⟩
 .cases h
theorem MC{t:Nat}(h:Vk tt t=true):P.underlying t=some .string:=by
 unfold Vk at h;split at h
 .rename_i s x1 x2 x3 hl;obtain⟨u,hu,hh⟩:=(htt.td _ _ hl).und;rcases hh with⟨k,n,rfl,h2⟩|⟨b,rfl,h2⟩|⟨s,rfl,_⟩
  .simp at h2
  .simp at h2
  .exact hu
 .cases h
theorem hZ{t:Nat}(h:Jr tt t=true):∃e,P.underlying t=some (.slice e):=by
 unfold Jr at h;split at h
 .rename_i e x1 x2 x3 x4 hl;obtain⟨u,hu,hh⟩:=(htt.td _ _ hl).und;cases hh;exact⟨e,hu⟩
 .cases h
end
section
variable {P:aaF}{w:World}{F:Fz}{B:Nat}
theorem RC.lo0{lo:Nat}{c:C}{v:Value}(h:RC F lo w c v):RC F 0 w c v:=h.mono (λ_ _ h=>h) (aaR _) (λ_ _ _=>rfl)
theorem RC.elem{lo:Nat}{t:Ty}{xs:List t.T}{ad:Option Addr}{n cap:Nat}(h:RC F lo w (.lst t xs) (.slice ad n cap)){i:Int}(h0:0<=i)(h1:i<xs.length) :
  n = xs.length/\∃b o us,ad=some ⟨b,o,none⟩/\RCs F lo w (cells t (rd t xs i)) us /\
    ∀j u,us[j]? = some u->F b (o+i.toNat*t.size+j)/\w.cell? ⟨b,o+i.toNat*t.size+j,none⟩=some u:=by
 cases h with
 |nil=>simp at h1;omega
 |lst _ _ b o _ vs hb hcap hf hc hr=>
  refine⟨rfl,b,o,(abh t.size).map (vs i.toNat),rfl,?_,?_⟩
  .refine RCs.mk (by simp[We]) (λj c u hcj hu=>?_);simp only[aaz]at hu;cases hrr:(abh t.size)[j]? with
   |none=>rw[hrr]at hu;simp at hu
   |some m=>
    rw[hrr]at hu;obtain⟨hj,he⟩:=aan.1 hrr;have hm:m=j:=by simpa using he.symm
    simp at hu;subst hu;subst hm;exact hr i.toNat m _ c (HC h0 h1) hcj
  .intro j u hu;simp only[aaz]at hu;cases hrr:(abh t.size)[j]? with
   |none=>rw[hrr]at hu;simp at hu
   |some m=>
    rw[hrr]at hu;obtain⟨hj,he⟩:=aan.1 hrr;have hm:m=j:=by simpa using he.symm
    simp at hu;subst hu;subst hm;rw[abY];have hh:m<t.size:=by simpa using hj
    exact⟨hf i.toNat m (by omega) hh,hc i.toNat m (by omega) hh⟩
theorem RC.part{lo:Nat}{t:Ty}{xs:List t.T}{ad:Option Addr}{n cap:Nat}(h:RC F lo w (.lst t xs) (.slice ad n cap)){m k:Nat}(h1:m<=k)(h2:k<=xs.length) :
  RC F lo w (.lst t ((xs.take k).drop m)) (sliced ad m k cap t.size):=by
 cases h with
 |nil=>
  have hk:k=0:=by simpa using h2
  have hm:m=0:=by omega
  subst hk;subst hm;simp[sliced];exact .nil t
 |lst _ _ b o _ vs hb hcap hf hc hr=>
  have hlen:((xs.take k).drop m).length=k - m:=by simp;omega
  have key:∀o',o'=o+m*t.size\/(cap=m)->RC F lo w (.lst t ((xs.take k).drop m)) (.slice (some ⟨b,o',none⟩) (k - m) (cap - m)):=by
   intro o' ho;rw[<-hlen]
   have hl:∀i,i<((xs.take k).drop m).length->o'=o+m*t.size/\i+m<xs.length:=by
    intro i hi;rw[hlen]at hi;rcases ho with h|h
    .exact⟨h,by omega⟩
    .omega
   refine .lst t _ b o' (cap - m) (λi j=>vs (i+m) j) hb (by rw[hlen];omega) ?_ ?_ ?_
   .intro i j hi hj;obtain⟨e,hn⟩:=hl i hi;have:=hf (i+m) j hn hj;rw[e,show o+m*t.size+(i*t.size+j)=o+((i+m)*t.size+j) by rw[aaM];omega];exact this
   .intro i j hi hj;obtain⟨e,hn⟩:=hl i hi;have:=hc (i+m) j hn hj;rw[e,show o+m*t.size+(i*t.size+j)=o+((i+m)*t.size+j) by rw[aaM];omega];exact this
   .intro i j x c hx hh
    have hp:xs[i+m]? = some x:=by
     rw[aaH,aaE]at hx;split at hx
     .rwa [Nat.add_comm]at hx
     .simp at hx
    exact hr (i+m) j x c hp hh
  unfold sliced;by_cases e:cap=m
  .rw[if_pos e];exact key o (.inr e)
  .rw[if_neg e];simp only[abp,addr_add];exact key _ (.inl rfl)
variable {a:Act}{ge g:Get}{ow:Nat->Option Nat->Option Nat}
theorem nn{t e sz:Nat}(he:P.underlying t=some (.slice e))(hz:∀w,(sizeOf e).run P w=.ok sz w){b o len cap:Nat}{k:aaQ}{i:Int}(h0:0<=i)(h1:i<len) :
  (abz t (.slice (some ⟨b,o,none⟩) len cap) (.int k i)).run P w=.ok (.pointer (some ⟨b,o+i.toNat*sz,none⟩)) w:=by
 simp[abz,aas he,asIntOf,h0,h1,hz w,addr_add]
theorem iZ(h:Kn F B w (λn=>a.tmps.getD n undef) ge g ow){tt:TT}{t e sz:Nat}(he:P.underlying t=some (.slice e))(hz:∀w,(sizeOf e).run P w=.ok sz w)
  {x:aav}{k:aaQ}{n:Int}{av:AV}{obs:List Prop}{io:Option (Nat×Int)} (hr:Ym g sz n (rdo tt g t x)=some ⟨av,obs,io⟩) (ho:∀p∈obs,p) :
  io=none/\∃v,(abz t (a.eval x) (.int k n)).run P w=.ok v w/\AVR F B w (λn=>a.tmps.getD n undef) ge (λ_=>none) av v:=by
 have hy:∀ {av':AV},(match plain g av' with
   |some (false,⟨f,false,[.lst y xs]⟩)=>match aaq sz y.size with
    |true=>mk1 (.faddr f (cells y (rd y xs n))) [inb n (ba y xs)]
    |false=>none
   |_=>none)=some ⟨av,obs,io⟩->(∀bo p,plain g av'=some (bo,p)->PlR F B w ge ow bo p (a.eval x)) ->
   io=none/\∃v,(abz t (a.eval x) (.int k n)).run P w=.ok v w/\AVR F B w (λn=>a.tmps.getD n undef) ge (λ_=>none) av v:=by
  intro av' hq hm;split at hq
  .rename_i f y xs hp;have hP:=hm _ _ hp;cases hsz:aaq sz y.size with
   |false=>rw[hsz]at hq;simp at hq
   |true=>
    rw[hsz]at hq;simp[mk1]at hq;obtain⟨rfl,rfl,rfl⟩:=hq;have hs:=aao hsz;have hk:inb n (ba y xs):=ho _ (by simp);obtain⟨ad,cap,hv,ht⟩:=hP.lst;have ht:=ht rfl;rw[hv]at ht⊢;obtain⟨hn,b,o,us,rfl,h1,h2⟩:=ht.elem hk.1 hk.2;refine⟨rfl,_,nn he hz hk.1 hk.2,b,o+n.toNat*sz,us,rfl,h1,λj u hu=>?_⟩;rw[hs];exact h2 j u hu
  .cases hq
 have hP:∀bo p,plain g (rdo tt g t x)=some (bo,p)->PlR F B w ge ow bo p (a.eval x):=λbo p hp=>ce h hp;cases hq:rdo tt g t x with
 |view s i=>
  cases i with
  |some j=>
   rw[hq]at hr hP;exact hy (av':=.view s (some j)) hr hP
  |none=>
   rw[hq]at hr;obtain⟨o,hx⟩:=bn h tt t x;rw[hq]at hx;simp only[Ym]at hr;cases hg:g s with
   |v kk c=>
    rw[hg]at hr;cases kk with
    |own f=>
     cases c with
     |lst y xs=>
      simp only[]at hr;cases hsz:aaq sz y.size with
      |false=>rw[hsz]at hr;simp at hr
      |true=>
       rw[hsz]at hr;simp[mk1]at hr;obtain⟨rfl,rfl,rfl⟩:=hr;have hs:=aao hsz;have hk:inb n (ba y xs):=ho _ (by simp);obtain⟨hj,hl⟩:=zO h hg;obtain⟨b,cap,cs,q1,q2,q3,us,q4,q5⟩:=CO hl hk.1 hk.2;have hv:a.eval x=.slice (some ⟨b,0,none⟩) xs.length cap:=hx.1.trans q1;rw[hv];refine⟨rfl,_,nn he hz hk.1 hk.2,y,xs,b,cap,f,hj,q1,hk.1,hk.2,?_⟩;rw[hs];simp
     |_=>simp at hr
    |acc f=>
     cases c with
     |lst y xs=>
      simp only[]at hr;cases hsz:aaq sz y.size with
      |false=>rw[hsz]at hr;simp at hr
      |true=>
       rw[hsz]at hr;simp[mk1]at hr;obtain⟨rfl,rfl,rfl⟩:=hr;have hs:=aao hsz;have hk:inb n (ba y xs):=ho _ (by simp);obtain⟨hj,hi⟩:=cZ h hg;have ht:RC F (lof B f) w (.lst y xs) (a.eval x):=by rw[hx.1];exact hi.1
       have hh:PlR F B w ge ow false ⟨f,false,[.lst y xs]⟩ (a.eval x):=ht;obtain⟨ad,cap,hv,hw⟩:=hh.lst;have hw:=hw rfl;rw[hv]at hw⊢;obtain⟨hn,b,o',us,rfl,h1,h2⟩:=hw.elem hk.1 hk.2;refine⟨rfl,_,nn he hz hk.1 hk.2,b,o'+n.toNat*sz,us,rfl,h1,λj u hu=>?_⟩;rw[hs];exact h2 j u hu
     |_=>simp at hr
    |_=>simp at hr
   |_=>rw[hg]at hr;simp at hr
 |dead=>rw[hq]at hr hP;exact hy (av':=.dead) hr hP
 |v k c=>rw[hq]at hr hP;exact hy (av':=.v k c) hr hP
 |agg f cs=>rw[hq]at hr hP;exact hy (av':=.agg f cs) hr hP
 |tup l=>rw[hq]at hr hP;exact hy (av':=.tup l) hr hP
 |cond k a=>rw[hq]at hr hP;exact hy (av':=.cond k a) hr hP
 |box cs=>rw[hq]at hr hP;exact hy (av':=.box cs) hr hP
 |baddr s o=>rw[hq]at hr hP;exact hy (av':=.baddr s o) hr hP
 |faddr f cs=>rw[hq]at hr hP;exact hy (av':=.faddr f cs) hr hP
 |oaddr s i o=>rw[hq]at hr hP;exact hy (av':=.oaddr s i o) hr hP
theorem jZ(s:ByteArray){n:Nat}(h:n<s.size):s[n]? = some (s.toList.getD n 0):=by
 have h1:s.toList.length=s.size:=by rw[aca];exact aaU
 have h2:s[n]? = some (s[n]'h):=getElem?_pos s n h;rw[h2]
 congr 1
 rw[aaw,aam (by omega)];simp[aca];rfl
theorem kZ{t:Nat}(ht:P.underlying t=some .string){s:ByteArray}{k:aaQ}{n:Int}(hin:inb n (fa s)) :
  (Instr.index t (.string s) (.int k n)).run P w=.ok (.int .u8 (Tc s n)) w:=by
 have h0:=hin.1;have h1:n.toNat<s.size:=by have:=hin.2;unfold fa at this;omega
 simp only[Instr.index,asIntOf,abq,abH,aaX,aas ht,if_pos h0,jZ s h1,Tc]
theorem lZ{t e sz:Nat}(he:P.underlying t=some (.slice e))(hz:∀w,(sizeOf e).run P w=.ok sz w){bo:Bool}{p:PV}{v:Value}(hp:PlR F B w ge ow bo p v)
  {m:Int}{hi:Option Int}{av:AV}{obs:List Prop}{io:Option (Nat×Int)} (hr:Kr sz m hi (bo,p)=some ⟨av,obs,io⟩) (ho:∀p∈obs,p) {lo:Option Value}{hv:Option Value}
  (hlo:(lo=none/\m=0)\/∃k,lo=some (.int k m)) (hhi:(hi=none/\hv=none)\/∃n k,hi=some n/\hv=some (.int k n)) (tm:Nat->Value) :
  io=none/\∃u,(Instr.sliceAt t v lo hv none).run P w=.ok u w/\AVR F B w tm ge (λ_=>none) av u:=by
 have hk:P.elem t=e:=by unfold Program.elem;rw[he]
 have hj:P.underlying t=some (.slice (P.elem t)):=by rw[hk];exact he
 have hu:(sizeOf (P.elem t)).run P w=.ok sz w:=by rw[hk];exact hz w
 unfold Kr at hr;split at hr
 .rename_i f y xs hb;cases hb;cases hs:aaq sz y.size with
  |false=>rw[hs]at hr;simp at hr
  |true=>
   have hsz:=aao hs;rw[hs]at hr;obtain⟨ad,cap,ht,hq⟩:=hp.lst;have hq:=hq rfl;rw[ht]at hq⊢;have hh:xs.length<=cap:=by cases hq with|nil=>simp|lst _ _ _ _ _ _ _ hh=>exact hh
   rw[run_sliceAt_slice w t _ _ _ _ hj];rcases hhi with⟨rfl,rfl⟩|⟨n,kn,rfl,rfl⟩
   .simp[mk1]at hr;obtain⟨rfl,rfl,rfl⟩:=hr;have hl:le3 m (ba y xs) (ba y xs):=ho _ (by simp);obtain⟨h0,h1,_⟩:=hl;unfold ba at h1;have hm:m.toNat<=xs.length:=by omega
    have hn:=hq.part (m:=m.toNat) (k:=xs.length) hm (aau _);rw[List.take_length,<-hsz]at hn;refine⟨rfl,_,?_,Yr hn⟩;rcases hlo with⟨rfl,rfl⟩|⟨k,rfl⟩
    .rw[run_slice_all w t ad _ cap hj,hu];rfl
    .rw[run_slice_l w t ad _ cap hj k m h0 (by omega),hu];rfl
   .simp[mk1]at hr;obtain⟨rfl,rfl,rfl⟩:=hr;have hl:le3 m n (ba y xs):=ho _ (by simp);obtain⟨h0,h1,h2⟩:=hl;unfold ba at h2;have hn:=hq.part (m:=m.toNat) (k:=n.toNat) (by omega) (by omega);rw[<-hsz]at hn;refine⟨rfl,_,?_,Yr hn⟩;rcases hlo with⟨rfl,rfl⟩|⟨k,rfl⟩
    .rw[run_slice_h w t ad _ cap hj kn n (by omega) (by omega),hu];rfl
    .rw[run_slice_lh w t ad _ cap hj k kn m n h0 h1 (by omega),hu];rfl
 .cases hr
theorem mZ{t:Nat}(ht:P.underlying t=some .string){bo:Bool}{p:PV}{v:Value}(hp:PlR F B w ge ow bo p v)
  {m:Int}{hi:Option Int}{av:AV}{obs:List Prop}{io:Option (Nat×Int)} (hr:Mr m hi (bo,p)=some ⟨av,obs,io⟩) (ho:∀p∈obs,p) {lo:Option Value}{hv:Option Value}
  (hlo:(lo=none/\m=0)\/∃k,lo=some (.int k m)) (hhi:(hi=none/\hv=none)\/∃n k,hi=some n/\hv=some (.int k n)) (tm:Nat->Value) :
  io=none/\∃u,(Instr.sliceAt t v lo hv none).run P w=.ok u w/\AVR F B w tm ge (λ_=>none) av u:=by
 unfold Mr at hr;split at hr
 .rename_i bo' f s hb;cases hb;rw[hp.str];rw[run_sliceAt_string w t _ _ _ _ ht];rcases hhi with⟨rfl,rfl⟩|⟨n,kn,rfl,rfl⟩
  .simp[mk1]at hr;obtain⟨rfl,rfl,rfl⟩:=hr;have hh:le3 m (fa s) (fa s):=ho _ (by simp);obtain⟨h0,h1,_⟩:=hh;unfold fa at h1;refine⟨rfl,.string (Jc s m (fa s)),?_,.str _⟩;rcases hlo with⟨rfl,rfl⟩|⟨k,rfl⟩
   .simp[abP,aas ht,abi,Jc,fa]
   .simp[abP,aas ht,abi,abS,Jc,fa,h0,h1]
  .simp[mk1]at hr;obtain⟨rfl,rfl,rfl⟩:=hr;have hh:le3 m n (fa s):=ho _ (by simp);obtain⟨h0,h1,h2⟩:=hh;unfold fa at h2;have hj:0<=n:=by omega
   have en:(n.toNat:Int)=n:=Int.toNat_of_nonneg hj;refine⟨rfl,.string (Jc s m n),?_,.str _⟩;rcases hlo with⟨rfl,rfl⟩|⟨k,rfl⟩
   .simp[abP,aas ht,abi,abS,Jc,hj,h2]
   .simp[abP,aas ht,abi,abS,Jc,hj,h2,h0,en,h1]
 .cases hr
theorem es(h:Kn F B w (λn=>a.tmps.getD n undef) ge g ow){tt:TT}{x:Option aav}{m:Option Int}(hb:bound tt g x=some m) :
  (m=none/\x.map a.eval=none)\/∃n k,m=some n/\x.map a.eval=some (.int k n):=by
 cases x with
 |none=>simp[bound]at hb;exact .inl ⟨hb.symm,rfl⟩
 |some x=>
  right;simp only[bound]at hb;cases hn:ri g (rdo tt g 0 x) with
  |none=>rw[hn]at hb;simp at hb
  |some n=>
   rw[hn]at hb;simp at hb;obtain⟨k,hk⟩:=jn h hn;exact⟨n,k,hb.symm,by simp[hk]⟩
theorem nZ(h:Kn F B w (λn=>a.tmps.getD n undef) ge g ow){tt:TT}(htt:dc P tt){t ty:Nat}{x:aav}{c:C}(hr:lenOf tt g t (rdo tt g t x)=some c) :
  ∃n,c=.int .i64 n/\(acb #[t] ty #[a.eval x]).run P w=.ok (.int .i64 n) w:=by
 unfold lenOf at hr;split at hr
 .rename_i bo f y xs hp;have hP:=ce h hp;cases hs:Jr tt t with
  |false=>rw[hs]at hr;simp at hr
  |true=>
   rw[hs]at hr;simp at hr;subst hr;obtain⟨e,he⟩:=hZ htt hs;obtain⟨ad,cap,hv,_⟩:=hP.lst;refine⟨_,rfl,?_⟩;rw[hv];simp[acb,aas he,goInt,ba]
 .rename_i bo f s hp;have hP:=ce h hp;cases hs:Vk tt t with
  |false=>rw[hs]at hr;simp at hr
  |true=>
   rw[hs]at hr;simp at hr;subst hr;refine⟨_,rfl,?_⟩;rw[hP.str];simp[acb,aas (MC htt hs),goInt,fa]
 .cases hr
end
theorem PVR.cells{F:Fz}{B:Nat}{w:World}{f g:Bool}{cs:List C}{v:Value}(h:PVR F B w ⟨f,g,cs⟩ v):RCs F (lof B f) w cs v.cells.toList:=by
 cases g with
 |true=>obtain⟨vs,rfl,h⟩:=h;simpa [Value.cells] using h
 |false=>
  match cs,h with
  |[c],h=>
   have h':RC F (lof B f) w c v:=h;have:v.cells=#[v]:=by cases h'<;>rfl
   rw[this];exact .cons h' .nil
theorem wi{F:Fz}{lo:Nat}{w:World}:∀ {cs:List C}{vs:List Value},zOk cs vs=true->RCs F lo w cs vs
 |[],[],_=>.nil
 |.int k n::r,.int k' n'::r',h=>by
  simp only[zOk,aat,decide_eq_true_eq]at h;obtain⟨h1,h2,h3⟩:=h;rw[Zk h1,h2];exact .cons (.int _ _) (wi h3)
 |.bool b::r,.bool b'::r',h=>by
  simp only[zOk,aat,beq_iff_eq]at h;rw[h.1];exact .cons (.bool _) (wi h.2)
 |.str s::r,.string s'::r',h=>by
  have e:=al h;simp only[abZ,zv,abN]at e;rw[e.1];simp only[zOk,aat]at h;exact .cons (.str _) (wi h.2)
 |.nl t::r,v::r',h=>by
  match v,h with
  |.slice none 0 0,h=>simp only[zOk]at h;exact .cons (.nl _) (wi h)
 |.int _ _::_,[],h=>by simp[zOk]at h
 |.bool _::_,[],h=>by simp[zOk]at h
 |.str _::_,[],h=>by simp[zOk]at h
 |.nl _::_,[],h=>by simp[zOk]at h
 |.lst _ _::_,_,h=>by simp[zOk]at h
 |[],_::_,h=>by simp[zOk]at h
theorem pack_cells{t:Ty}{cs:List C}{x:t.T}(h:pack t cs=some x):cells t x=cs:=by
 cases t
 case int=>
  have h':dC cs=some x:=h;unfold dC at h';split at h'
  .cases h';rfl
  .cases h'
 case byte=>
  have h':eC cs=some x:=h;unfold eC at h';split at h'
  .cases h';rfl
  .cases h'
 case bool=>
  have h':fC cs=some x:=h;unfold fC at h';split at h'
  .cases h';rfl
  .cases h'
 case str=>
  have h':gC cs=some x:=h;unfold gC at h';split at h'
  .cases h';rfl
  .cases h'
 case time=>
  have h':iC cs=some x:=h;unfold iC at h';split at h'
  .cases h';rfl
  .cases h'
 case row=>
  have h':jC cs=some x:=h;unfold jC at h';split at h'
  .cases h';rfl
  .cases h'
 case item=>
  have h':lC cs=some x:=h;unfold lC at h';split at h'
  .cases h';rfl
  .cases h'
 case plan=>
  have h':mC cs=some x:=h;unfold mC at h';split at h'
  .cases h';rfl
  .cases h'
 case lrow=>
  have h':nC cs=some x:=h;unfold nC at h';split at h'
  .cases h';rfl
  .cases h'
 case litem=>
  have h':oC cs=some x:=h;unfold oC at h';split at h'
  .cases h';rfl
  .cases h'
 case sess=>
  have h':pC cs=some x:=h;unfold pC at h';split at h'
  .cases h';rfl
  .cases h'
section
variable {P:aaF}{w:World}{F:Fz}{B:Nat}
theorem js(o:Obj){k:Nat}(hk:k<w.heap.size):(w.alloc o).heap[k]? = w.heap[k]?:=by
 simp only[World.alloc,Array.getElem?_push];rw[if_neg (by omega)]
theorem heap_alloc_new(o:Obj):(w.alloc o).heap[w.heap.size]? = some o:=by
 show(w.heap.push o)[w.heap.size]? = some o;simp
theorem Ua.alloc(F:Fz)(w:World)(o:Obj):Ua F w F (w.alloc o):=⟨rfl,rfl,rfl,by simp,λ_ hk=>js o hk,λ_ _ h=>h,λ_ _ h=>.inl h⟩
theorem Live.grow{w':World}(hl:Live F w)(hg:Ua F w F w'):Live F w':=hl.next hg λb o hb=>by
 rw[hg.cell (hl.lt hb)];exact hl b o hb
theorem Blk.new(cs:List Value)(e:TypeId):Blk (w.alloc (.cells cs.toArray e)) w.heap.size cs:=⟨e,heap_alloc_new _⟩
theorem EO{F:Fz}{B:Nat}{w:World}{ob:Option Nat}{f:Bool}{c:C}{v:Value}(h:RC F (lof B f) w c v):Eb F B w ob (kC f c,c) v:=by
 have h0:Eb F B w ob (frK f,c) v:=by cases f<;>exact h
 cases c with
 |int k n=>cases h;exact RC.int _ _
 |bool b=>cases h;exact RC.bool _
 |str s=>cases h;exact RC.str _
 |lst t xs=>exact h0
 |nl t=>exact h0
theorem oZ(c:C):kC true c=.fr:=by cases c<;>rfl
theorem FO(hl:Live F w)(_hB:B<=w.heap.size){f:Bool}{cs:List C}{vs:List Value}(h:RCs F (lof B f) w cs vs)(e:TypeId)(tm:Nat->Value)(ge:Get) :
  ∃ owd,Ua F w F (w.alloc (.cells vs.toArray e))/\Live F (w.alloc (.cells vs.toArray e))/\(∀i b,owd i=some b->w.heap.size<=b/\b<(w.alloc (.cells vs.toArray e)).heap.size) /\
    (∀i i' b,owd i=some b->owd i'=some b->i=i') /\
    AVR F B (w.alloc (.cells vs.toArray e)) tm ge owd (.box (cs.map λc=>(kC f c,c))) (.pointer (some ⟨w.heap.size,0,none⟩)):=by
 have hg:=Ua.alloc F w (.cells vs.toArray e);refine⟨λi=>match i with|none=>some w.heap.size|some _=>none,hg,hl.grow hg,?_,?_,?_⟩
 .intro i b hb;cases i with
  |none=>simp at hb;subst hb;simp
  |some i=>simp at hb
 .intro i i' b hb hh;cases i<;>cases i'<;>simp at hb hh⊢
 .refine⟨w.heap.size,vs,rfl,rfl,Blk.new vs e,λo hF=>by have:=hl.lt hF;omega,by simp[h.length],λj kc u hk hu=>?_⟩;simp only[aaz]at hk;cases hc:cs[j]? with
  |none=>rw[hc]at hk;simp at hk
  |some c=>
   rw[hc]at hk;simp at hk;subst hk;obtain⟨u',hi,hr⟩:=h.get hc;rw[hu]at hi;cases hi;exact EO (hr.grow hg hl)
def ud:List Value->Nat->List Value->List Value
 |[],_,_=>[]
 |_::r,0,d::ds=>d::ud r 0 ds
 |c::r,0,[]=>c::r
 |c::r,n+1,ds=>c::ud r n ds
theorem GO:∀(l:List Value) (n:Nat),ud l n []=l
 |[],_=>rfl
 |_::_,0=>rfl
 |c::r,n+1=>by simp[ud,GO r n]
theorem JO:∀(l:List Value) (n:Nat) (u:Value) (us:List Value),ud (l.set n u) (n+1) us=ud l n (u::us)
 |[],_,_,_=>by simp[ud]
 |c::r,0,u,us=>by simp[ud]
 |c::r,n+1,u,us=>by simp[ud,JO r n u us]
theorem LO:∀(us:List Value) (cs:Array Value) (off k:Nat),((us.zipIdx k).foldl (λcs (c,j)=>cs.setIfInBounds (off+j) c) cs).toList=ud cs.toList (off+k) us
 |[],cs,off,k=>by simp[GO]
 |u::us,cs,off,k=>by
  simp only[List.zipIdx_cons,List.foldl_cons];rw[LO us (cs.setIfInBounds (off+k) u) off (k+1)];rw[Array.toList_setIfInBounds,show off+(k+1)=off+k+1 by omega,JO]
theorem PC(v:Value)(cs:Array Value)(off:Nat):(v.cells.zipIdx.foldl (λcs (c,j)=>cs.setIfInBounds (off+j) c) cs).toList=ud cs.toList off v.cells.toList:=by
 rw[<-Array.foldl_toList];simp only[Array.toList_zipIdx];exact LO v.cells.toList cs off 0
theorem RCs.set{lo:Nat}{cs:List C}{vs:List Value}(h:RCs F lo w cs vs):∀(o:Nat) {ds:List C}{us:List Value},RCs F lo w ds us->RCs F lo w (setCells cs o ds) (ud vs o us):=by
 induction h with
 |nil=>intro o ds us _;exact .nil
 |cons hc hcs ih=>
  intro o ds us hd;cases o with
  |zero=>
   cases hd with
   |nil=>exact .cons hc hcs
   |cons hd hds=>exact .cons hd (ih 0 hds)
  |succ o=>exact .cons hc (ih o hd)
theorem SC:∀(l:List Value) (n:Nat) (us:List Value),(ud l n us).length=l.length
 |[],_,_=>rfl
 |_::r,0,d::ds=>by simp[ud,SC r 0 ds]
 |_::_,0,[]=>rfl
 |_::r,n+1,ds=>by simp[ud,SC r n ds]
variable {a:Act}{ge g:Get}{ow:Nat->Option Nat->Option Nat}
theorem TC(h:Kn F B w (λn=>a.tmps.getD n undef) ge g ow){tt:TT}{t:Nat}:∀ {ps:List (Nat×aav)}{l:List (Nat×PV)},rj g (tj tt g t ps)=some l ->
  l.map (·.1)=ps.map (·.1)/\∀(j:Nat) (i:Nat) (p:PV) (x:aav),l[j]? = some (i,p)->(ps[j]?).map (·.2)=some x->PVR F B w p (a.eval x)
 |[],l,hp=>by simp[tj,rj]at hp;subst hp;simp
 |(i,x)::ps,l,hp=>by
  simp only[tj,rj]at hp;cases hq:plainR g (rdo tt g t x) with
  |none=>rw[hq]at hp;simp at hp
  |some q=>
   obtain⟨bo,pv⟩:=q;rw[hq]at hp;cases bo with
   |true=>simp at hp
   |false=>
    cases hr:rj g (tj tt g t ps) with
    |none=>rw[hr]at hp;simp at hp
    |some l'=>
     rw[hr]at hp;simp at hp;subst hp;obtain⟨h1,h2⟩:=TC h hr;refine⟨by simp[h1],λj i' p x' hj hx=>?_⟩;cases j with
     |zero=>
      simp at hj hx;obtain⟨rfl,rfl⟩:=hj;subst hx;exact cn h hq
     |succ j=>exact h2 j i' p x' (by simpa using hj) (by simpa using hx)
theorem MO{fs:List (Nat×Nat)}:∀ {ps:List (Nat×PV)}{vs:List (Nat×Value)}{f f':Bool}{cs cs':List C}{cur:Array Value}{place:Nat->Option (Nat×Nat)},
  (∀i,place i=fs[i]?)->ps.map (·.1)=vs.map (·.1)->(∀(j:Nat) (i:Nat) (p:PV) (v:Value),ps[j]? = some (i,p)->(vs[j]?).map (·.2)=some v->PVR F B w p v) ->
  RCs F (lof B f) w cs cur.toList->Uk fs ps (f,cs)=some (f',cs') ->
  ∃cur',abU place cur vs=some cur'/\RCs F (lof B f') w cs' cur'.toList
 |[],vs,f,f',cs,cs',cur,place,hpl,hm,hv,hr,hf=>by
  have:vs=[]:=by simpa using hm
  subst this;simp[Uk]at hf;obtain⟨rfl,rfl⟩:=hf;exact⟨cur,rfl,hr⟩
 |(i,p)::ps,[],f,f',cs,cs',cur,place,hpl,hm,hv,hr,hf=>by simp at hm
 |(i,p)::ps,(i',v)::vs,f,f',cs,cs',cur,place,hpl,hm,hv,hr,hf=>by
  simp only[abZ,abN]at hm;obtain⟨rfl,hm⟩:=hm;simp only[Uk]at hf;cases hfs:fs[i]? with
  |none=>rw[hfs]at hf;simp at hf
  |some on=>
   obtain⟨o,n⟩:=on;rw[hfs]at hf;simp only[]at hf;cases hb:aaq p.cs.length n&&aaY (o+n) cs.length with
   |false=>rw[hb]at hf;simp at hf
   |true=>
    rw[hb]at hf;simp only[]at hf;simp only[aat]at hb;have hn:=aao hb.1;have ho:=aaD hb.2;obtain⟨pf,pa,pc⟩:=p;have hp:=hv 0 i ⟨pf,pa,pc⟩ v rfl rfl;have hi:=hp.cells;have hlen:v.cells.size=n:=by rw[<-hn];simpa using hi.length.symm
    have hh:=hr.length;simp only[abU,hpl,hfs];rw[if_neg (by simp only[aaU]at hh;simp[hlen];omega)];refine MO (f:=f&&pf) hpl hm (λj i p v hj hjv=>hv (j+1) i p v (by simpa using hj) (by simpa using hjv)) ?_ hf;rw[PC];refine RCs.set ?_ o ?_
    .refine hr.mono (λ_ _ h=>h) ?_ (λ_ _ _=>rfl);cases f<;>cases pf<;>simp[lof]
    .refine hi.mono (λ_ _ h=>h) ?_ (λ_ _ _=>rfl);cases f<;>cases pf<;>simp[lof]
theorem run_places{fs:List (Nat×Nat)}{l:List Field}(h:Sg P fs l=true)(acc:Array (Nat×Nat)) :
  (List.foldlM (λ(acc:Array (Nat×Nat)) (f:Field)=>do let s <-sizeOf f.type;pure (acc.push (f.offset,s))) acc l:Sem (Array (Nat×Nat))).run P w=.ok (acc++fs.toArray) w:=by
 induction fs generalizing l acc with
 |nil=>
  cases l with
  |nil=>simp
  |cons f l=>simp[Sg]at h
 |cons p fs ih=>
  obtain⟨o,n⟩:=p;cases l with
  |nil=>simp[Sg]at h
  |cons f l=>
   simp only[Sg,aat]at h;have hz:=IC (P:=P) (t:=f.type) (aao h.2.1).symm (by simpa [Nat.blt_eq] using h.2.2.1) w;simp only[List.foldlM_cons,abq,hz,aaX,abH];rw[ih h.2.2.2]
   congr 1
   rw[show f.offset=o from(aao h.1).symm];apply aaN;simp
theorem VC{t:Nat}{d:TD}(hd:Sb P t d){fs:List (Nat×Nat)}(hs:d.sh=.struct fs){ps:List (Nat×PV)}{vs:Array (Nat×Value)}{f:Bool}{cs:List C}
  (hm:ps.map (·.1)=vs.toList.map (·.1)) (hv:∀(j:Nat) (i:Nat) (p:PV) (v:Value),ps[j]? = some (i,p)->(vs.toList[j]?).map (·.2)=some v->PVR F B w p v)
  (hf:Uk fs ps (true,d.zero)=some (f,cs)):∃us:List Value,(Instr.build t vs).run P w=.ok (.agg us.toArray) w/\RCs F (lof B f) w cs us:=by
 obtain⟨z,hz,hl⟩:=hd.zeroV w;obtain⟨u,hu,hi⟩:=hd.und;rw[hs]at hi;obtain⟨fields,rfl,hj⟩:=hi;obtain⟨hh,h1,h2⟩:=MO (F:=F) (B:=B) (w:=w) (fs:=fs) (place:=(fs.toArray[·]?)) (λi=>by simp) hm hv (wi (lo:=lof B true) hl) hf;refine⟨hh.toList,?_,h2⟩
 have hk:(fields.mapM (λf=>do pure (f.offset,<-sizeOf f.type)):Sem (Array (Nat×Nat))).run P w=.ok fs.toArray w:=by
  rw[Array.mapM_eq_foldlM,<-Array.foldlM_toList];have:=run_places (P:=P) (w:=w) hj #[];simpa using this
 simp only[Instr.build,abq,hz,aaX,aas hu,hk];rw[h1];simp
theorem NO{t:Ty}{sz:Nat}{n:Nat}:∀ {ps:List (Nat×PV)}{vs:List (Nat×Value)}{f:Bool}{xs:List t.T}{pre:List Value}{k:Nat}{cur:Array Value},
  (∀(j:Nat) (i:Nat) (p:PV) (v:Value),ps[j]? = some (i,p)->(vs[j]?).map (·.2)=some v->PVR F B w p v)->ps.map (·.1)=vs.map (·.1) ->
  sj t sz ps k=some (f,xs)->cur.size=n->cur.toList.take (k*sz)=pre->pre.length=k*sz->n=(k+ps.length)*sz ->
  ∃ (cur':Array Value) (uss:List (List Value)),abU (λi=>some (i*sz,sz)) cur vs=some cur'/\cur'.toList=pre++uss.flatten/\uss.length=xs.length/\xs.length=ps.length /\
    ∀(i:Nat) (x:t.T) (us:List Value),xs[i]? = some x->uss[i]? = some us->us.length=sz/\RCs F (lof B f) w (cells t x) us
 |[],vs,f,xs,pre,k,cur,hv,hm,hp,hn,hpre,hl,hnn=>by
  have:vs=[]:=by simpa using hm.symm
  subst this;simp[sj]at hp;obtain⟨rfl,rfl⟩:=hp;refine⟨cur,[],rfl,?_,rfl,rfl,λi x us hx=>by simp at hx⟩;have:cur.toList.length=k*sz:=by simp[hn,hnn]
  rw[List.take_of_length_le (by omega)]at hpre;simp[hpre]
 |(i,p)::ps,[],f,xs,pre,k,cur,hv,hm,hp,hn,hpre,hl,hnn=>by simp at hm
 |(i,p)::ps,(i',v)::vs,f,xs,pre,k,cur,hv,hm,hp,hn,hpre,hl,hnn=>by
  simp only[abZ,abN]at hm;obtain⟨rfl,hm⟩:=hm;simp only[sj]at hp;cases hb:aaq i k&&aaq p.cs.length sz with
  |false=>rw[hb]at hp;simp at hp
  |true=>
   cases hx:pack t (norms p.cs) with
   |none=>rw[hb,hx]at hp;simp at hp
   |some x=>
    cases hr:sj t sz ps (k+1) with
    |none=>rw[hb,hx,hr]at hp;simp at hp
    |some q=>
     obtain⟨f',hw⟩:=q;rw[hb,hx,hr]at hp;simp at hp;obtain⟨rfl,rfl⟩:=hp;simp only[aat]at hb;have hi:=aao hb.1;have hsz:=aao hb.2;subst hi;obtain⟨pf,pa,pc⟩:=p;have hu:=hv 0 i ⟨pf,pa,pc⟩ v rfl rfl;have ht:=hu.cells;have hlen:v.cells.size=sz:=by rw[<-hsz];simpa using ht.length.symm
     have hs:n=(i*sz+sz)+ps.length*sz:=by rw[hnn];simp[aaM];omega
     simp only[abU];rw[if_neg (by simp[hlen,hn];omega)]
     have hh:∀(l:List Value) (o:Nat) (us:List Value),o+us.length<=l.length->ud l o us=l.take o++us++l.drop (o+us.length):=by
      intro l
      induction l with
      |nil=>intro o us h;simp at h;simp[h.1,h.2,ud]
      |cons c l ih=>
       intro o us h;cases o with
       |zero=>
        cases us with
        |nil=>simp[ud]
        |cons u us=>
         have:=ih 0 us (by simp at h;omega);simp[ud,this]
       |succ o=>
        have:=ih o us (by simp at h;omega);simp[ud,this,show o+1+us.length=(o+us.length)+1 by omega]
     have ho:=hh cur.toList (i*sz) v.cells.toList (by simp[hlen,hn];omega)
     have hq:=NO (ps:=ps) (vs:=vs) (f:=f') (xs:=hw) (pre:=pre++v.cells.toList) (k:=i+1) (n:=n)
      (cur:=v.cells.zipIdx.foldl (λcs (c,j)=>cs.setIfInBounds (i*sz+j) c) cur)
      (λj i p v hj hjv=>hv (j+1) i p v (by simpa using hj) (by simpa using hjv)) hm hr
      (by rw[<-aaU,PC,SC,aaU,hn])
      (by
        rw[PC,ho,hpre];have hk:(pre++v.cells.toList).length=(i+1)*sz:=by simp[hl,hlen,aaM]
        rw[<-hk,List.take_append_of_le_length (aau _),List.take_length])
      (by simp[hl,hlen,aaM]) (by rw[hnn];simp only[abk];congr 1;omega)
     obtain⟨cur',uss,h1,h2,h3,h4,h5⟩:=hq;refine⟨cur',v.cells.toList::uss,h1,by rw[h2];simp,by simp[h3],by simp[h4],λj x' us hx' hus=>?_⟩;cases j with
     |zero=>
      simp at hx' hus;subst hx';subst hus;refine⟨by simp[hlen],?_⟩;have:=ht.norms;rw[<-pack_cells hx]at this;exact this.mono (λ_ _ h=>h) (by cases pf<;>cases f'<;>simp[lof]) (λ_ _ _=>rfl)
     |succ j=>
      obtain⟨q1,q2⟩:=h5 j x' us (by simpa using hx') (by simpa using hus);exact⟨q1,q2.mono (λ_ _ h=>h) (by cases pf<;>cases f'<;>simp[lof]) (λ_ _ _=>rfl)⟩
theorem OO{sz:Nat}:∀ {uss:List (List Value)},(∀us∈uss,us.length=sz)->∀ {i j:Nat},j<sz->uss.flatten[i*sz+j]? = (uss[i]?).bind (·[j]?)
 |[],_,i,j,_=>by simp
 |us::uss,h,i,j,hj=>by
  have hu:=h us (by simp);rw[ace];cases i with
  |zero=>rw[aax (by omega)];simp
  |succ i=>
   rw[aaA (by rw[hu,aaM];omega),hu,show(i+1)*sz+j - sz=i*sz+j by rw[aaM];omega];simpa using OO (λus hm=>h us (by simp[hm])) hj
theorem pZ(hl:Live F w){f:Bool}{t:Ty}{xs:List t.T}{uss:List (List Value)}(hB:B<=w.heap.size)(hlen:uss.length=xs.length)
  (h:∀(i:Nat) (x:t.T) (us:List Value),xs[i]? = some x->uss[i]? = some us->us.length=t.size/\RCs F (lof B f) w (cells t x) us) (e:TypeId) (tm:Nat->Value) (ge:Get) :
  ∃ F' owd,Ua F w F' (w.alloc (.cells uss.flatten.toArray e))/\Live F' (w.alloc (.cells uss.flatten.toArray e))/\(∀i b,owd i=some b->w.heap.size<=b/\b<(w.alloc (.cells uss.flatten.toArray e)).heap.size) /\
    (∀i i' b,owd i=some b->owd i'=some b->i=i') /\
    AVR F' B (w.alloc (.cells uss.flatten.toArray e)) tm ge owd (.v (.acc f) (.lst t xs)) (.slice (some ⟨w.heap.size,0,none⟩) xs.length xs.length):=by
 have hs:∀us∈uss,us.length=t.size:=λus hm=>by
  obtain⟨i,hi⟩:=abm.1 hm;have hq:i<xs.length:=by rw[<-hlen];exact(aan.1 hi).1
  exact(h i _ us (aam hq) hi).1
 have hp:uss.flatten.length=xs.length*t.size:=by
  rw[<-hlen];clear h hlen
  induction uss with
  |nil=>simp
  |cons us uss ih=>simp only[ace,aay,abk,aaM];rw[hs us (by simp),ih (λu hu=>hs u (by simp[hu]))];omega
 have hn:=Blk.new (w:=w) uss.flatten e;let F':Fz:=λb o=>F b o\/(b=w.heap.size/\o<xs.length*t.size)
 have hg:Ua F w F' (w.alloc (.cells uss.flatten.toArray e)):=⟨rfl,rfl,rfl,by simp,λ_ hk=>js _ hk,λ_ _ h=>.inl h,λb o hb=>hb.elim .inl (λh=>.inr (by omega))⟩
 refine⟨F',λi=>match i with|none=>some w.heap.size|some _=>none,hg,?_,?_,?_,?_,?_⟩
 .refine hl.next hg λb o hb=>?_;rcases hb with hb|⟨rfl,hb⟩
  .exact (hl.grow (Ua.alloc F w _)) b o hb
  .rw[hn.cell,aam (by omega)];rfl
 .intro i b hb;cases i with
  |none=>simp at hb;subst hb;simp
  |some i=>simp at hb
 .intro i i' b hb hh;cases i<;>cases i'<;>simp at hb hh⊢
 .refine .lst t xs w.heap.size 0 xs.length (λi j=>((uss[i]?).bind (·[j]?)).getD undef) (by cases f<;>simp[lof];exact hB) (aau _) (λi j hi hj=>.inr ⟨rfl,?_⟩) (λi j hi hj=>?_) (λi j x c hx hc=>?_)
  .have:i*t.size+t.size<=xs.length*t.size:=by rw[<-aaT];exact aar _ hi
   omega
  .rw[aaK,hn.cell,OO hs hj];have hq:i<uss.length:=by rw[hlen];exact hi
   rw[aam hq];have:=hs _ (List.getElem_mem hq);simp[this,hj]
  .have hq:i<uss.length:=by rw[hlen];exact(aan.1 hx).1
   obtain⟨q1,q2⟩:=h i x _ hx (aam hq);obtain⟨u,hu,hr⟩:=q2.get hc;simp only[aam hq,Option.bind_some,hu,Option.getD_some];exact hr.grow hg hl
 .exact .inr ⟨t,xs,w.heap.size,xs.length,uss.flatten,rfl,rfl,rfl,hn,hp,λo ho hF=>hF.elim (λhF=>by have:=hl.lt hF;omega) (λh=>by omega)⟩
theorem qZ(hl:Live F w)(hB:B<=w.heap.size){t e:Nat}{d:TD}(he:P.underlying t=some (.slice e))(hd:Sb P e d){y:Ty}(hy:d.ty=some y){ps:List (Nat×PV)}{vs:Array (Nat×Value)}{n:Nat}{f:Bool}{xs:List y.T}
  (hm:ps.map (·.1)=vs.toList.map (·.1)) (hv:∀(j:Nat) (i:Nat) (p:PV) (v:Value),ps[j]? = some (i,p)->(vs.toList[j]?).map (·.2)=some v->PVR F B w p v)
  (hp:sj y d.size ps 0=some (f,xs)) (hn:ps.length=n) (hbig:n*d.size<=16777216) (tm:Nat->Value) (ge:Get) :
  ∃ v w' F' owd,(abI t n vs).run P w=.ok v w'/\Ua F w F' w'/\Live F' w'/\(∀i b,owd i=some b->w.heap.size<=b/\b<w'.heap.size) /\
    (∀i i' b,owd i=some b->owd i'=some b->i=i')/\AVR F' B w' tm ge owd (.v (.acc f) (.lst y xs)) v:=by
 obtain⟨z,hz,ho⟩:=hd.zeroV w;have hsz:=hd.size w;have hj:=hd.ty y hy;let zero:Array Value:=if n*d.size=0 then #[] else z.cells
 obtain⟨hh,hq,h1,h2,h3,h4,h5⟩:=NO (F:=F) (B:=B) (w:=w) (t:=y) (sz:=d.size) (n:=n*d.size) (pre:=[]) (k:=0) (cur:=(Array.range (n*d.size)).map (zero[· % zero.size]!)) hv hm hp
  (by simp) (by simp) (by simp) (by rw[hn];simp)
 have hi:xs.length=n:=by rw[h4,hn]
 obtain⟨F',owd,q1,q2,q3,q4,q5⟩:=pZ (F:=F) (B:=B) hl hB h3 (f:=f) (λi x us hx hu=>by rw[<-hj];exact h5 i x us hx hu) e tm ge;rw[hi]at q5;refine⟨_,_,F',owd,?_,q1,q2,q3,q4,q5⟩;have hc:hh=hq.flatten.toArray:=by apply aaN;simpa using h2
 by_cases h0:n*d.size=0
 .have hk:zero=#[]:=if_pos h0;rw[hk]at h1;simp only[abI,abq,aas he,aaX,hsz,if_neg (show ¬ n*d.size > 2 ^ 24 by omega),if_pos h0,abH,h1];simp[newRow,hc]
 .have hk:zero=z.cells:=if_neg h0;rw[hk]at h1;simp only[abI,abq,aas he,aaX,hsz,if_neg (show ¬ n*d.size > 2 ^ 24 by omega),if_neg h0,abH,hz,h1];simp[newRow,hc]
theorem rZ(hl:Live F w)(hB:B<=w.heap.size){t e:Nat}{d:TD}(he:P.underlying t=some (.slice e))(hd:Sb P e d){y:Ty}(hy:d.ty=some y){z:y.T}(hz:pack y (norms d.zero)=some z)
  {p q:Int}{k k':aaQ} (hok:ni p q) (tm:Nat->Value) (ge:Get) :
  ∃ v w' F' owd,(Instr.makeSlice t (.int k p) (.int k' q)).run P w=.ok v w'/\Ua F w F' w'/\Live F' w'/\(∀i b,owd i=some b->w.heap.size<=b/\b<w'.heap.size) /\
    (∀i i' b,owd i=some b->owd i'=some b->i=i')/\AVR F' B w' tm ge owd (.v (.own true) (.lst y (abt p.toNat z))) v:=by
 obtain⟨rfl,h0,hp⟩:=hok;obtain⟨i,zz,hi,hs,hb,it,io⟩:=hd.info;have ha:=hd.ty y hy
 have hv:=run_make (P:=P) w t e i zz he hi it k k' p p h0 (by omega) (by
  have h1:(i.bytes:Int)*p<=128*p:=by
   have:((i.bytes:Nat):Int)<=128:=by omega
   exact Int.mul_le_mul_of_nonneg_right this h0
  omega) (by omega)
 have hf:RCs F B w (norms d.zero) zz.cells.toList:=(wi (lo:=B) io).norms;have hn:cells y z=norms d.zero:=pack_cells hz;rw[<-hn]at hf;have ih:zz.cells.size=y.size:=by have:=hf.length;rw[We]at this;simpa using this.symm
 let cs:=(madeCells zz.cells (p.toNat*i.size)).toList;have hg:=Ua.alloc F w (.cells cs.toArray e);refine⟨_,_,F,λi=>match i with|none=>some w.heap.size|some _=>none,hv,?_,?_,?_,?_,?_⟩
 .exact Ua.alloc F w _
 .exact hl.grow (Ua.alloc F w _)
 .intro i b hb;cases i with
  |none=>simp at hb;subst hb;simp
  |some i=>simp at hb
 .intro i i' b hb hh;cases i<;>cases i'<;>simp at hb hh⊢
 .have hk:∀m j,m<p.toNat->j<y.size->cs[m*y.size+j]? = some (zz.cells.toList.getD j undef):=by
   intro m j hm hj
   have hb:m*y.size+j<p.toNat*i.size:=by
    rw[hs,ha];have:m*y.size+y.size<=p.toNat*y.size:=by rw[<-aaT];exact aar _ hm
    omega
   have hq:j<zz.cells.size:=by omega
   have ht:(m*y.size+j) % zz.cells.size=j:=by rw[ih,aaZ,Nat.mul_add_mod,Nat.mod_eq_of_lt hj]
   simp only[cs,madeCells,abJ,Array.toList_range,aaz,abr hb,abp,ht];rw[getElem!_pos zz.cells j hq,aaw,aam (by simpa using hq)];simp
  refine .inr ⟨y,abt p.toNat z,w.heap.size,p.toNat,cs,λ_ j=>zz.cells.toList.getD j undef,rfl,by simp,rfl,?_,?_,by simp,by simpa [lof] using hB,λo hF=>by have:=hl.lt hF;omega,?_,?_⟩
  .have:=Blk.new (w:=w) cs e;simpa [cs] using this
  .simp[cs,size_madeCells,hs,ha]
  .intro m j hm hj;exact hk m j (by simpa using hm) hj
  .intro m j x c hx hc
   have hw:x=z:=by
    rw[List.getElem?_replicate]at hx;split at hx
    .simpa using hx.symm
    .simp at hx
   subst hw;obtain⟨u,hu,hr⟩:=hf.get hc;have ho:zz.cells.toList.getD j undef=u:=by rw[aaw,hu];rfl
   show RC F (lof B true) _ c (zz.cells.toList.getD j undef);rw[ho];exact hr.grow (Ua.alloc F w _) hl
end
theorem sZ{F:Fz}{lo:Nat}{w:World}{ob:Option Nat}{c:C}{v:Value}(hl:Live F w)(h:ae F lo w ob c v) :
  ∃F':Fz,(∀b o,F b o->F' b o)/\(∀b o,F' b o->F b o\/ob=some b)/\Live F' w/\Ca F' lo w ob c v:=by
 rcases h with⟨t,rfl,rfl⟩|⟨t,xs,b,cap,cs,vs,rfl,rfl,h3,h4,h5,hh,h6,h7,h8,h9⟩
 .exact⟨F,λ_ _ h=>h,λ_ _ h=>.inl h,hl,.nil t,.inl ⟨t,rfl,rfl⟩⟩
 .have hm:=Yk t
  have hk:∀i j,i<xs.length->j<t.size->i*t.size+j<xs.length*t.size:=λi j hi hj=>by
   have:i*t.size+t.size<=xs.length*t.size:=by rw[<-aaT];exact aar _ hi
   omega
  refine⟨λb' o=>F b' o\/(b'=b/\o<xs.length*t.size),λ_ _ h=>.inl h,λb' o h=>h.imp_right λh=>by rw[h.1];exact h3,hl.ext (λ_ _ h=>.inl h) λb' o h=>?_,?_,.inr ⟨t,xs,b,cap,cs,rfl,rfl,h3,h4,h5,λo ho h=>?_⟩⟩
  .rcases h with h|⟨rfl,h⟩
   .exact hl _ _ h
   .rw[h4.cell,aam (by rw[h5];exact aaC h (aar _ hh))];rfl
  .refine .lst t xs b 0 cap vs h6 hh (λi j hi hj=>.inr ⟨rfl,by rw[aaK];exact hk i j hi hj⟩) (λi j hi hj=>?_) (λi j x c hx hc=>(h9 i j x c hx hc).mono (λ_ _ h=>.inl h) (aau _) (λ_ _ _=>rfl));rw[aaK,h4.cell];exact h8 i j hi hj
  .rcases h with h|⟨_,h⟩
   .exact h7 o h
   .omega
theorem tZ{P:aaF}{F:Fz}{B:Nat}{w:World}(hl:Live F w)(hB:B<=w.heap.size){t e:Nat}{d:TD}(he:P.underlying t=some (.slice e))(hd:Sb P e d){y:Ty}(hy:d.ty=some y){z:y.T}(hz:pack y (norms d.zero)=some z)
  {p q:Int}{k k':aaQ} (hok:ni p q) (tm:Nat->Value) (ge:Get) :
  ∃ v w' F' owd,(Instr.makeSlice t (.int k p) (.int k' q)).run P w=.ok v w'/\Ua F w F' w'/\Live F' w'/\(∀i b,owd i=some b->w.heap.size<=b/\b<w'.heap.size) /\
    (∀i i' b,owd i=some b->owd i'=some b->i=i')/\AVR F' B w' tm ge owd (.v (mkK y) (.lst y (abt p.toNat z))) v:=by
 obtain⟨v,w',F',owd,h1,h2,h3,h4,h5,h6⟩:=rZ (P:=P) hl hB he hd hy hz (k:=k) (k':=k') hok tm ge;obtain⟨F2,g1,g2,g3,g4⟩:=sZ h3 (show ae F' (lof B true) w' (owd none) _ v from h6);have hk:mkK y=.own true\/mkK y=.acc true:=by cases y<;>first|exact .inl rfl|exact .inr rfl
 rcases hk with hk|hk
 .exact⟨v,w',F',owd,h1,h2,h3,h4,h5,by rw[hk];exact h6⟩
 .exact⟨v,w',F2,owd,h1,⟨h2.os,h2.tape,h2.output,h2.size,h2.block,λb o h=>g1 _ _ (h2.sub b o h),λb o h=>(g2 b o h).elim (h2.new b o) λh=>.inr (h4 _ _ h).1⟩,g3,h4,h5,by rw[hk];exact g4⟩
theorem WC{tm:Nat->Value}:∀ {k k':Key},sameKey k k'=true->SR.KeyT tm k->SR.KeyT tm k'->Rb k'=true->Rb k=true
 |[],[],_,_,_,_=>rfl
 |[],_::_,h,_,_,_=>by simp[sameKey]at h
 |_::_,[],h,_,_,_=>by simp[sameKey]at h
 |(n,b,x)::k,(n',b',x')::k',h,h1,h2,hk=>by
  simp only[sameKey,aat,beq_iff_eq]at h;obtain⟨hn,rfl,hs⟩:=h;have hn:=aao hn;subst hn;have hh:Rb k'=true:=by cases b<;>simp[Rb]at hk<;>exact hk.2
  have hr:=WC hs h1.1 h2.1 hh;have e1:=h1.2.1 hr;have e2:=h2.2.1 hh;rw[e1]at e2;have hx:x=x':=by simpa using e2
  subst hx;cases b<;>simp[Rb]at hk⊢<;>exact⟨hk.1,hr⟩
theorem PO{tm:Nat->Value}{k':Key}:∀ {k:Key},sub k' k=true->SR.KeyT tm k'->SR.KeyT tm k->Rb k=true->Rb k'=true
 |[],h,h1,h2,hk=>WC h h1 h2 hk
 |(n,b,x)::k,h,h1,h2,hk=>by
  simp only[sub,Bool.or_eq_true]at h;rcases h with h|h
  .exact WC h h1 h2 hk
  .exact PO h h1 h2.1 (by cases b<;>simp[Rb]at hk<;>exact hk.2)
section
variable {P:aaF}{w:World}{F:Fz}{B:Nat}{a:Act}{ge raw:Get}{ow:Nat->Option Nat->Option Nat}
def cl(F:Fz)(B:Nat)(w:World)(tm:Nat->Value)(ge raw:Get)(ow:Nat->Option Nat->Option Nat):Prop:=
 ∀n,raw n=.dead\/(SR F B w tm ge ow n (raw n)/\ge n=raw n)
theorem zj{tm:Nat->Value}(hl:Live F w)(h:cl F B w tm ge raw ow){k:Key}(hk:SR.KeyT tm k)(hb:Rb k=true):Kn F B w tm ge (λn=>strip k (raw n)) ow:=by
 refine⟨hl,λn=>?_⟩;rcases h n with h|⟨h,hh⟩
 .left;simp only[h];rfl
 .show strip k (raw n)=.dead\/(SR F B w tm ge ow n (strip k (raw n))/\(∀k' a,strip k (raw n)≠.cond k' a)/\(Go.Proofs.YteogppapbognjaaGreatDoor.bears (strip k (raw n))=true->ge n=strip k (raw n)));cases hr:raw n with
  |cond k' a'=>
   rw[hr]at h;simp only[strip];cases hs:sub k' k with
   |false=>left;rfl
   |true=>
    cases hc:(Nf a'||bears a') with
    |true=>left;rfl
    |false=>
     right;simp only[aba]at hc;exact⟨h.2.2.1 (PO hs h.2.1 hk hb),λk'' a'' e=>by have e':a'=.cond k'' a'':=e;rw[e']at hc;simp[Nf]at hc,λhbb=>by have h':Go.Proofs.YteogppapbognjaaGreatDoor.bears a'=true:=hbb;rw[hc.2]at h';exact absurd h' (by simp)⟩
  |_=>right;rw[hr]at h;exact⟨h,(λ_ _ e=>by simp[strip]at e),λ_=>by rw[hh,hr];rfl⟩
theorem Aj{tm:Nat->Value}{o:Option Nat->Option Nat}{k:K}{b:Bool}{v:Value}(h:AVR F B w tm ge o (.v k (.bool b)) v):v=.bool b:=by
 cases k with
 |sh=>cases h;rfl
 |fr=>cases h;rfl
 |acc f=>obtain⟨h1,_⟩:=h;cases h1;rfl
 |own f=>rcases h with⟨t,h1,_⟩|⟨t,xs,b',cap,cs,vs,h1,_⟩<;>cases h1
theorem XC{lo lo':Nat}:∀ {cs ds:List C}{e:Bool}{vs us:List Value},Ib cs ds=some e->RCs F lo w cs vs->RCs F lo' w ds us->vs=cs.map zv/\us=ds.map zv
 |[],[],_,_,_,_,h1,h2=>by cases h1;cases h2;exact⟨rfl,rfl⟩
 |.int k a::r,.int k' b::r',_,vs,us,hq,h1,h2=>by
  simp only[Ib]at hq;split at hq
  .rename_i e' hk' hr';cases h1 with
   |cons h1 h1'=>
    cases h1;cases h2 with
    |cons h2 h2'=>
     cases h2;obtain⟨q1,q2⟩:=XC hr' h1' h2';exact⟨by rw[q1];rfl,by rw[q2];rfl⟩
  .cases hq
 |[],_::_,_,_,_,hq,_,_=>by simp[Ib]at hq
 |.bool _::_,_,_,_,_,hq,_,_=>by simp[Ib]at hq
 |.str _::_,_,_,_,_,hq,_,_=>by simp[Ib]at hq
 |.lst _ _::_,_,_,_,_,hq,_,_=>by simp[Ib]at hq
 |.nl _::_,_,_,_,_,hq,_,_=>by simp[Ib]at hq
 |.int _ _::_,[],_,_,_,hq,_,_=>by simp[Ib]at hq
 |.int _ _::_,.bool _::_,_,_,_,hq,_,_=>by simp[Ib]at hq
 |.int _ _::_,.str _::_,_,_,_,hq,_,_=>by simp[Ib]at hq
 |.int _ _::_,.lst _ _::_,_,_,_,hq,_,_=>by simp[Ib]at hq
 |.int _ _::_,.nl _::_,_,_,_,hq,_,_=>by simp[Ib]at hq
theorem ab.val{s:Sem Value}{tm:Nat->Value}{av:AV}(hl:Live F w){v:Value}(hr:s.run P w=.ok v w)(h:AVR F B w tm ge (λ_=>none) av v) :
 ab P F B w tm ge (do pure (.value (<-s))) av:=ab.same hl (by simp[hr]) h
theorem ab.new{s:Sem Value}{tm:Nat->Value}{av:AV}(h:∃v w' F' owd,s.run P w=.ok v w'/\Ua F w F' w'/\Live F' w'/\(∀i b,owd i=some b->w.heap.size<=b/\b<w'.heap.size) /\
  (∀i i' b,owd i=some b->owd i'=some b->i=i')/\AVR F' B w' tm ge owd av v):ab P F B w tm ge (do pure (.value (<-s))) av:=by
 obtain⟨v,w',F',owd,hr,h⟩:=h;exact⟨v,w',F',owd,by simp[hr],h⟩
set_option maxHeartbeats 4000000 in
theorem uZ{tt:TT}(htt:dc P tt){sp:SP}{k:Key}(hl:Live F w)(hB:B<=w.heap.size)(hraw:cl F B w (λn=>a.tmps.getD n undef) ge raw ow)
  (hk:SR.KeyT (λn=>a.tmps.getD n undef) k) (hb:Rb k=true) {o:Oper}{av:AV}{obs:List Prop}{io:Option (Nat×Int)}
  (hnc:∀f args ts,o.op≠.call ⟨.value (.func f),args,ts⟩)
  (hs:sev tt sp raw k (λn=>strip k (raw n)) o.type o.op=some ⟨av,obs,io⟩) (ho:∀p∈obs,p) :
  io=none/\ab P F B w (λn=>a.tmps.getD n undef) ge (execOp a.eval o) av:=by
 have h:=zj (F:=F) (B:=B) (w:=w) hl hraw hk hb;obtain⟨dst,op,ob,pos,after,guard⟩:=o;simp only[]at hs hnc;generalize hg:(λn=>strip k (raw n))=g at hs h;cases op with
 |move x=>
  cases x with
  |tmp s=>simp[sev,mk1]at hs;obtain⟨rfl,rfl,rfl⟩:=hs;exact⟨rfl,ab.same hl rfl (xO h s)⟩
  |_=>simp[sev,mk1]at hs;obtain⟨rfl,rfl,rfl⟩:=hs;exact⟨rfl,ab.same hl rfl (FC tt g _ ge ob _ (by simp))⟩
 |assign x=>
  cases x with
  |tmp s=>simp[sev,mk1]at hs;obtain⟨rfl,rfl,rfl⟩:=hs;exact⟨rfl,ab.same hl rfl (xO h s)⟩
  |_=>simp[sev,mk1]at hs;obtain⟨rfl,rfl,rfl⟩:=hs;exact⟨rfl,ab.same hl rfl (FC tt g _ ge ob _ (by simp))⟩
 |nilCheck x=>
  cases x with
  |tmp s=>
   simp only[sev]at hs;have nm:=h.avr s;cases hgs:g s with
   |box cs=>
    rw[hgs]at hs nm;simp only[mk1,aal,Out.mk.injEq]at hs;obtain⟨rfl,rfl,rfl⟩:=hs;obtain⟨ks,b,vs,q1,_⟩:=yj h hgs;exact⟨rfl,ab.same hl (v:=a.tmps.getD s undef) (by show Sem.run P (match a.tmps.getD s undef with|.pointer none|.nilIface|.nilFunc=>_|.func (.method name) first captured=>_|x=>_) w=_;rw[q1];rfl) ⟨rfl,by rw[ks];rfl⟩⟩
   |view n i=>
    rw[hgs]at hs nm;cases i with
    |some j=>simp at hs
    |none=>
     simp only[]at hs;cases hgn:g n with
     |box cs=>
      rw[hgn]at hs;simp only[mk1,aal,Out.mk.injEq]at hs;obtain⟨rfl,rfl,rfl⟩:=hs;obtain⟨ks,b,vs,q1,_⟩:=yj h hgn;have hv:a.tmps.getD s undef=.pointer (some ⟨b,0,none⟩):=nm.1.trans q1;exact⟨rfl,ab.same hl (v:=a.tmps.getD s undef) (by show Sem.run P (match a.tmps.getD s undef with|.pointer none|.nilIface|.nilFunc=>_|.func (.method name) first captured=>_|x=>_) w=_;rw[hv];rfl) nm⟩
     |_=>rw[hgn]at hs;simp at hs
   |_=>rw[hgs]at hs;simp at hs
  |_=>simp[sev]at hs
 |pick c x y=>
  simp only[sev,Pr]at hs;split at hs
  .rename_i n;split at hs
   .rename_i kk b hc
    have jb:a.tmps.getD n undef=.bool b:=by
     have:=h.avr n;rw[<-hg]at this;simp only[hc]at this;exact Aj this
    split at hs
    .rename_i k1 p k2 q hx hy;simp only[mk1,aal,Out.mk.injEq]at hs;obtain⟨rfl,rfl,rfl⟩:=hs;refine⟨rfl,?_⟩
     have oy:∀ {kb:Bool}{z:aav}{kz:K}{r:Bool},b=kb->strip ((n,kb,b)::k) (rdo tt raw ob z)=.v kz (.bool r)->a.eval z=.bool r:=by
      intro kb z kz r kc hz;have ke:SR.KeyT (λn=>a.tmps.getD n undef) ((n,kb,b)::k):=⟨hk,λ_=>jb,λhf=>by rw[hb]at hf;exact absurd hf (by simp)⟩;have ie:Rb ((n,kb,b)::k)=true:=by subst kc;cases b<;>simp[Rb,hb]
      have h2:=zj (F:=F) (B:=B) (w:=w) hl hraw ke ie;cases z with
      |tmp m=>
       have:=h2.avr m;simp only[rdo]at hz;simp only[hz]at this;exact Aj this
      |const v=>
       have:=FC (F:=F) (B:=B) (w:=w) (a:=a) tt raw (λn=>a.tmps.getD n undef) ge ob (.const v) (by simp);cases hr:rdo tt raw ob (.const v) with
       |v kq cq=>
        rw[hr]at hz this;simp only[strip]at hz;cases hz;simp only[rdo]at hr;split at hr
        .cases hr;exact Aj this
        .cases hr
       |cond k' a'=>
        simp only[rdo]at hr;split at hr<;>cases hr
       |_=>rw[hr]at hz;simp[strip]at hz
      |global m=>simp[rdo,strip]at hz
      |func m=>simp[rdo,strip]at hz
     refine ab.same hl (v:=.bool (cond b p q)) ?_ (.bool _);have ki:a.eval (.tmp n)=.bool b:=jb;cases b with
     |true=>simp[execOp,ki,asBool,oy (kb:=true) rfl hx]
     |false=>simp[execOp,ki,asBool,oy (kb:=false) rfl hy]
    .cases hs
   .cases hs
  .cases hs
 |binOp op t x y yt=>
  simp only[sev]at hs;split at hs
  .rename_i b1 p b2 q hp hq;have hP:=ce h hp;have hQ:=ce h hq;split at hs
   .rename_i c obs' hag hbin;simp only[mk1,aal,Out.mk.injEq]at hs;obtain⟨rfl,rfl,rfl⟩:=hs;refine⟨rfl,?_⟩;show ab P F B w _ ge (do let r <-(do aaS op t x y (a.eval x) (a.eval y);binOp op t (a.eval x) (a.eval y));pure (.value r)) _;have ju:=hbin;unfold bin at hbin;split at hbin
    .rename_i f1 k1 n1 f2 k2 n2;split at hbin
     .rename_i hke;have:=Zk hke;subst this;rw[hP.int,hQ.int];exact ZY hl _ ge ju ho
     .cases hbin
    .rename_i f1 s1 f2 s2;rw[hP.str,hQ.str];exact aZ hl _ ge ju ho
    .rename_i f1 x1 f2 x2;have nt:sC tt t=true:=by simpa [tC] using hag
     have hu:P.underlying t=some .bool:=by
      unfold sC at nt;split at nt
      .rename_i d hd;split at nt
       .rename_i b0 hsh hze;obtain⟨u,hu,hm⟩:=(htt.td _ _ hd).und;rw[hsh]at hm;rcases hm with⟨k,n,_,hz⟩|⟨b,rfl,_⟩|⟨s,_,hz⟩
        .rw[hze]at hz;cases hz
        .exact hu
        .rw[hze]at hz;cases hz
       .cases nt
      .cases nt
     have kr:∀u v:Bool,(Op.equal t (.bool u) (.bool v)).run P w=.ok (u == v) w:=λu v=>by
      show(Op.equalIn (9999+1) t (.bool u) (.bool v)).run P w=_;unfold Op.equalIn;simp[aas hu]
     rw[hP.bool,hQ.bool];split at hbin
     .simp at hbin;obtain⟨rfl,rfl⟩:=hbin;refine ab.same hl (v:=.bool (x1 == x2)) ?_ (.bool _);simp[aaS,binOp,kr]
     .simp at hbin;obtain⟨rfl,rfl⟩:=hbin;refine ab.same hl (v:=.bool (!(x1 == x2))) ?_ (.bool _);simp[aaS,binOp,kr]
     .cases hbin
    .rename_i f1 cs f2 ds;obtain⟨vs,ou,lb⟩:=hP.agg;obtain⟨us,ot,mp⟩:=hQ.agg;have kr:rC tt t cs=true:=by simpa [tC] using hag
     unfold rC at kr;split at kr
     .rename_i d hd;simp only[aat]at kr;have hlen:=aao kr.2;obtain⟨kx,nl⟩:=htt.eq _ _ hd kr.1;split at hbin
      .rename_i e hae;simp at hbin;obtain⟨rfl,rfl⟩:=hbin;obtain⟨q1,q2⟩:=XC hae lb mp;have hr:=nl w cs ds e hae hlen;rw[<-q1,<-q2,<-ou,<-ot]at hr;refine ab.same hl (v:=.bool e) ?_ (.bool _);rw[ou,ot]at hr⊢;simp[aaS,kx,binOp,hr]
      .rename_i e hae;simp at hbin;obtain⟨rfl,rfl⟩:=hbin;obtain⟨q1,q2⟩:=XC hae lb mp;have hr:=nl w cs ds e hae hlen;rw[<-q1,<-q2,<-ou,<-ot]at hr;refine ab.same hl (v:=.bool (!e)) ?_ (.bool _);rw[ou,ot]at hr⊢;simp[aaS,kx,binOp,hr]
      .cases hbin
     .cases kr
    .cases hbin
   .cases hs
  .cases hs
 |unOp op t x=>
  simp only[sev]at hs;split at hs
  .rename_i b1 f1 b hp;have hP:=(ce h hp).bool;simp only[mk1,aal,Out.mk.injEq]at hs;obtain⟨rfl,rfl,rfl⟩:=hs;exact⟨rfl,ab.val hl (v:=.bool (!b)) (by rw[hP];simp[Op.unary]) (.bool _)⟩
  .rename_i b1 f1 kk n hp;have hP:=(ce h hp).int;simp only[mk1,aal,Out.mk.injEq]at hs;obtain⟨rfl,rfl,rfl⟩:=hs;exact⟨rfl,ab.val hl (v:=.int kk (kk.wrap (0 - n))) (by rw[hP];simp[Op.unary,Op.intArith]) (.int _ _)⟩
  .cases hs
 |convert s t x=>
  simp only[sev]at hs;split at hs
  .rename_i b1 f1 k1 n x1 kk m x2 x3 d hp hd hd2;have hP:=(ce h hp).int;simp only[mk1,aal,Out.mk.injEq]at hs;obtain⟨rfl,rfl,rfl⟩:=hs;obtain⟨u,hu,km⟩:=(htt.td _ _ hd).und;obtain⟨u2,oj,_⟩:=(htt.td _ _ hd2).und;rcases km with⟨k2,n2,rfl,e⟩|⟨b,_,e⟩|⟨s,_,e⟩
   .cases e;exact⟨rfl,ab.val hl (v:=.int kk (kk.wrap n)) (by rw[hP];simp[convert,aas oj,aas hu,Conv.intToInt]) (.int _ _)⟩
   .cases e
   .cases e
  .rename_i f1 xs x1 s1 x2 x3 e x4 x5 x6 x7 hp hd hd2;split at hs
   .rename_i y1 y2 y3 y4 hde;simp only[mk1,aal,Out.mk.injEq]at hs;obtain⟨rfl,rfl,rfl⟩:=hs;have hP:PVR F B w ⟨f1,false,[.lst .byte xs]⟩ (a.eval x):=ce h hp;have hP:RC F (lof B f1) w (.lst .byte xs) (a.eval x):=hP;obtain⟨u,hu,km⟩:=(htt.td _ _ hd).und;obtain⟨u2,oj,kn⟩:=(htt.td _ _ hd2).und;obtain⟨u3,os,kp⟩:=(htt.td _ _ hde).und;have oj:P.underlying s=some (.slice e):=by rw[oj,kn]
    have hu:P.underlying t=some .string:=by
     rcases km with⟨k2,n2,_,e⟩|⟨b,_,e⟩|⟨s,rfl,_⟩
     .cases e
     .cases e
     .exact hu
    have os:P.underlying e=some (.int .u8):=by
     rcases kp with⟨k2,n2,rfl,e⟩|⟨b,_,e⟩|⟨s,_,e⟩
     .cases e;exact os
     .cases e
     .cases e
    refine⟨rfl,ab.val hl (v:=.string (ui xs)) ?_ (.str _)⟩;generalize a.eval x=vx at hP⊢;cases hP with
    |nil=>exact run_convert_bytes_nil w s e oj os 0 0 t hu
    |lst _ _ b o cap vs hb hcap hf hc hr=>
     refine run_convert_bytes_arg w s e oj os b o xs.length cap xs rfl (λi hi=>?_) t hu;have h1:=hc i 0 hi (by decide);have h2:=hr i 0 _ (.int .u8 xs[i]) (aam hi) rfl;rw[show o+(i*Ty.byte.size+0)=o+i by show o+(i*1+0)=o+i;omega]at h1;rw[h1];generalize vs i 0=z at h2⊢;cases h2;rw[aaw,aam hi];rfl
   .cases hs
  .cases hs
 |box t x=>
  simp only[sev]at hs;split at hs
  .rename_i f1 ag cs d hp hd;have hP:PVR F B w ⟨f1,ag,cs⟩ (a.eval x):=cn h hp;split at hs
   .simp only[mk1,aal,Out.mk.injEq]at hs;obtain⟨rfl,rfl,rfl⟩:=hs;refine⟨rfl,ab.new ?_⟩;obtain⟨pi,q1,q2,q3,q4,q5⟩:=FO hl hB hP.cells t (λn=>a.tmps.getD n undef) ge;exact⟨_,_,F,pi,by simp[Instr.box,newVar,newRow],q1,q2,q3,q4,q5⟩
   .cases hs
  .cases hs
 |alloc t=>
  simp only[sev]at hs;split at hs
  .rename_i d hd;simp only[mk1,aal,Out.mk.injEq]at hs;obtain⟨rfl,rfl,rfl⟩:=hs;refine⟨rfl,ab.new ?_⟩;obtain⟨z,hz,ox⟩:=(htt.td _ _ hd).zeroV w;obtain⟨pi,q1,q2,q3,q4,q5⟩:=FO (f:=true) hl hB (wi ox) t (λn=>a.tmps.getD n undef) ge;have hk:(d.zero.map λc=>(kC true c,c))=d.zero.map λc=>(K.fr,c):=by congr 1;funext c;rw[oZ]
   rw[hk]at q5;exact⟨_,_,F,pi,by simp[Instr.alloc,hz,newVar,newRow],q1,q2,q3,q4,q5⟩
  .cases hs
 |build t ps=>
  simp only[sev]at hs;split at hs
  .rename_i fs x1 z x2 x3 hd;split at hs
   .rename_i l hl';split at hs
    .rename_i f cs hf;simp only[mk1,aal,Out.mk.injEq]at hs;obtain⟨rfl,rfl,rfl⟩:=hs;obtain⟨h1,h2⟩:=TC h hl'
     obtain⟨us,hr,mt⟩:=VC (P:=P) (htt.td _ _ hd) rfl (vs:=ps.map λ(i,x)=>(i,a.eval x)) (by rw[h1];simp) (λj i p v hj hv=>by
      simp only[abJ,aaz,Option.map_map]at hv;cases hps:ps.toList[j]? with
      |none=>rw[hps]at hv;simp at hv
      |some ix=>
       rw[hps]at hv;simp at hv;subst hv;exact h2 j i p ix.2 hj (by rw[hps];rfl)) hf
     exact⟨rfl,ab.val hl hr ⟨us,rfl,mt⟩⟩
    .cases hs
   .cases hs
  .cases hs
 |buildSlice t n ps=>
  simp only[sev]at hs;split at hs
  .rename_i y d hd;split at hs
   .rename_i l hl';split at hs
    .rename_i f xs hp hb;simp only[mk1,aal,Out.mk.injEq]at hs;obtain⟨rfl,rfl,rfl⟩:=hs;simp only[aat]at hb;obtain⟨e,he,li,hy,kj,hid⟩:=Zr htt hd;obtain⟨h1,h2⟩:=TC h hl'
     exact⟨rfl,ab.new (qZ hl hB he kj hy (vs:=ps.map λ(i,x)=>(i,a.eval x)) (by rw[h1];simp) (λj i p v hj hv=>by
      simp only[abJ,aaz,Option.map_map]at hv;cases hps:ps.toList[j]? with
      |none=>rw[hps]at hv;simp at hv
      |some ix=>
       rw[hps]at hv;simp at hv;subst hv;exact h2 j i p ix.2 hj (by rw[hps];rfl)) hp (aao hb.1) (aaD hb.2) _ ge)⟩
    .cases hs
   .cases hs
  .cases hs
 |load t x=>
  simp only[sev]at hs;split at hs
  .rename_i d hd;split at hs
   .rename_i r hr;simp only[mk1,aal,Out.mk.injEq]at hs;obtain⟨rfl,rfl,rfl⟩:=hs;obtain⟨v,hv,it⟩:=fZ (P:=P) h (htt.td _ _ hd) hr;exact⟨rfl,ab.val hl hv it⟩
   .cases hs
  .cases hs
 |fieldAddr t x i=>
  simp only[sev]at hs;split at hs
  .rename_i fs x1 x2 x3 x4 hd;split at hs
   .rename_i oo n hi;split at hs
    .rename_i r hr;simp only[mk1,aal,Out.mk.injEq]at hs;obtain⟨rfl,rfl,rfl⟩:=hs;obtain⟨v,hv,it⟩:=gZ (P:=P) h (htt.td _ _ hd) rfl hi hr;exact⟨rfl,ab.val hl hv it⟩
    .cases hs
   .cases hs
  .cases hs
 |indexAddr t x i=>
  simp only[sev]at hs;split at hs
  .rename_i sz n hsz hn;obtain⟨e,he,hz⟩:=JC htt hsz;obtain⟨kk,ke⟩:=jn h hn;obtain⟨rfl,v,hv,it⟩:=iZ (P:=P) h (k:=kk) he hz hs ho;exact⟨rfl,ab.val hl (by rw[ke];exact hv) it⟩
  .cases hs
 |index t x i=>
  simp only[sev]at hs;split at hs
  .rename_i b1 f1 s n ht hp hn;obtain⟨kk,ke⟩:=jn h hn;simp only[mk1,aal,Out.mk.injEq]at hs;obtain⟨rfl,rfl,rfl⟩:=hs;exact⟨rfl,ab.val hl (by rw[ke,(ce h hp).str];exact kZ (MC htt ht) (ho _ (by simp))) (.int _ _)⟩
  .cases hs
 |slice t x lo hi mx=>
  cases mx with
  |some m=>simp[sev]at hs
  |none=>
   have key:∀ {v:Bool×PV}{m:Int}{hh:Option Int},plain g (rdo tt g t x)=some v->Xk tt t m hh v=some ⟨av,obs,io⟩ ->
     ((lo.map a.eval=none/\m=0)\/∃k,lo.map a.eval=some (.int k m))->((hh=none/\hi.map a.eval=none)\/∃n k,hh=some n/\hi.map a.eval=some (.int k n)) ->
     io=none/\ab P F B w (λn=>a.tmps.getD n undef) ge (execOp a.eval { dst:=dst,op:=.slice t x lo hi none,type:=ob,pos:=pos,after:=after,guard:=guard }) av:=by
    intro v m hh hp hc lp ky;obtain⟨bo,p⟩:=v;have hP:=ce h hp;unfold Xk at hc;split at hc
    .rename_i sz hsz;obtain⟨e,he,hz⟩:=JC htt hsz;obtain⟨h1,u,hu,it⟩:=lZ (P:=P) he hz hP hc ho lp ky (λn=>a.tmps.getD n undef);exact⟨h1,ab.val hl hu it⟩
    .rename_i hsz hst;obtain⟨h1,u,hu,it⟩:=mZ (P:=P) (MC htt hst) hP hc ho lp ky (λn=>a.tmps.getD n undef);exact⟨h1,ab.val hl hu it⟩
    .cases hc
   simp only[sev]at hs;split at hs
   .rename_i v hh hp lp ky;rcases es h lp with⟨_,e⟩|⟨n,k,e,_⟩
    .exact key hp hs (.inl ⟨e,rfl⟩) (es h ky)
    .cases e
   .rename_i v m hh hp lp ky;rcases es h lp with⟨e,_⟩|⟨n,k,e,e2⟩
    .cases e
    .cases e;exact key hp hs (.inr ⟨k,e2⟩) (es h ky)
   .cases hs
 |makeSlice t n m=>
  simp only[sev]at hs;split at hs
  .rename_i p q y d hp hq hd;split at hs
   .rename_i z hz;simp only[mk1,aal,Out.mk.injEq]at hs;obtain⟨rfl,rfl,rfl⟩:=hs;obtain⟨k1,e1⟩:=jn h hp;obtain⟨k2,e2⟩:=jn h hq;obtain⟨e,he,li,hy,kj,hid⟩:=Zr htt hd;have:=tZ (P:=P) hl hB he kj hy hz (p:=p) (q:=q) (k:=k1) (k':=k2) (ho _ (List.mem_singleton_self _)) (λn=>a.tmps.getD n undef) ge;rw[<-e1,<-e2]at this;exact⟨rfl,ab.new this⟩
   .cases hs
  .cases hs
 |extract x i=>
  simp only[sev]at hs;split at hs
  .rename_i l hx;split at hs
   .rename_i p hp;simp only[mk1,aal,Out.mk.injEq]at hs;obtain⟨rfl,rfl,rfl⟩:=hs;obtain⟨o,it⟩:=bn h tt 0 x;rw[hx]at it;obtain⟨vs,hv,hr⟩:=it
    have:∀ {l:List PV}{vs:List Value}{i:Nat}{p:PV},Zd F B w l vs->l[i]? = some p->∃u,vs[i]? = some u/\PVR F B w p u:=by
     intro l vs i p hr
     induction hr generalizing i with
     |nil=>intro h;simp at h
     |cons h1 h2 ih=>
      intro h;cases i with
      |zero=>simp at h;subst h;exact⟨_,rfl,h1⟩
      |succ i=>simpa using ih (by simpa using h)
    obtain⟨u,hu,lx⟩:=this hr hp;refine⟨rfl,ab.val hl (v:=u) (by rw[hv];simp[Instr.extract,hu]) ?_⟩;obtain⟨f,ag,cs⟩:=p;cases ag with
    |true=>exact lx
    |false=>
     match cs,lx with
     |[c],lx=>exact Yr lx
   .cases hs
  .cases hs
 |call c=>
  obtain⟨hw,args,ts⟩:=c;cases hw with
  |builtin b=>
   cases b with
   |len=>
    simp only[sev]at hs;split at hs
    .rename_i x t hx ht;split at hs
     .rename_i c hc;simp only[mk1,aal,Out.mk.injEq]at hs;obtain⟨rfl,rfl,rfl⟩:=hs;have ha:args=#[x]:=by apply aaN;simpa using hx
      have nq:ts=#[t]:=by apply aaN;simpa using ht
      subst ha;subst nq;obtain⟨n,rfl,hr⟩:=nZ (P:=P) h htt (ty:=ob) hc;exact⟨rfl,ab.same hl (v:=.int .i64 n) (by simp[execOp,abG,invoke,abT,hr]) (.int _ _)⟩
     .cases hs
    .cases hs
   |max=>
    simp only[sev]at hs;split at hs
    .rename_i x y hx;split at hs
     .rename_i b1 f1 kk p b2 f2 k2 q hp hq;simp only[mk1,aal,Out.mk.injEq]at hs;obtain⟨rfl,rfl,rfl⟩:=hs;have ha:args=#[x,y]:=by apply aaN;simpa using hx
      subst ha;have h1:=(ce h hp).int;have h2:=(ce h hq).int;exact⟨rfl,ab.same hl (v:=.int kk (Go.Proofs.YteogppapbognjaaGreatDoor.mx p q)) (by simp[execOp,abG,invoke,abT,h1,h2,run_max_int2,Go.Proofs.YteogppapbognjaaGreatDoor.mx]) (.int _ _)⟩
     .cases hs
    .cases hs
   |min=>
    simp only[sev]at hs;split at hs
    .rename_i x y hx;split at hs
     .rename_i b1 f1 kk p b2 f2 k2 q hp hq;simp only[mk1,aal,Out.mk.injEq]at hs;obtain⟨rfl,rfl,rfl⟩:=hs;have ha:args=#[x,y]:=by apply aaN;simpa using hx
      subst ha;have h1:=(ce h hp).int;have h2:=(ce h hq).int;exact⟨rfl,ab.same hl (v:=.int kk (mn p q)) (by simp[execOp,abG,invoke,abT,h1,h2,run_min_int2,mn]) (.int _ _)⟩
     .cases hs
    .cases hs
   |_=>simp[sev]at hs
  |value f=>
   cases f with
   |func f=>exact absurd rfl (hnc f args ts)
   |_=>simp[sev]at hs
  |invoke r m=>simp[sev]at hs
 |_=>simp[sev]at hs
end
def Ug(F:Fz)(w:World)(p:PT)(x:p.T)(v:Value):Prop:=PVR F 0 w ⟨false,(enc1 p x).1,(enc1 p x).2⟩ v
def xe(F:Fz)(w:World):(ps:List PT)->Ab ps->List Value->Option Nat->Prop
 |[],_,vs,io=>vs=[]/\io=none
 |.rdr::ps,x,vs,io=>∃b sl vs',vs=.pointer (some ⟨b,0,none⟩)::vs'/\io=some b/\Blk w b [sl,.int .i64 x.1.2]/\RC F 0 w (.lst .byte x.1.1) sl/\(∀o,¬ F b o)/\xe F w ps x.2 vs' none
 |.int k::ps,x,vs,io=>∃v vs',vs=v::vs'/\Ug F w (.int k) x.1 v/\xe F w ps x.2 vs' io
 |.bool::ps,x,vs,io=>∃v vs',vs=v::vs'/\Ug F w .bool x.1 v/\xe F w ps x.2 vs' io
 |.str::ps,x,vs,io=>∃v vs',vs=v::vs'/\Ug F w .str x.1 v/\xe F w ps x.2 vs' io
 |.lst t::ps,x,vs,io=>∃v vs',vs=v::vs'/\Ug F w (.lst t) x.1 v/\xe F w ps x.2 vs' io
 |.st t::ps,x,vs,io=>∃v vs',vs=v::vs'/\Ug F w (.st t) x.1 v/\xe F w ps x.2 vs' io
structure Left(F:Fz)(w:World)(io:Option Nat)(F':Fz)(w':World):Prop where
 os:w'.os=w.os
 tape:w'.tape=w.tape
 output:w'.output=w.output
 size:w.heap.size<=w'.heap.size
 block:∀k,k<w.heap.size->io≠some k->w'.heap[k]? = w.heap[k]?
 sub:∀b o,F b o->F' b o
 new:∀b o,F' b o->F b o\/w.heap.size<=b
 live:Live F' w'
def rdB:(ps:List PT)->Ab ps->Option (List Int)
 |[],_=>none
 |.rdr::_,x=>some x.1.1
 |.int _::ps,x=>rdB ps x.2
 |.bool::ps,x=>rdB ps x.2
 |.str::ps,x=>rdB ps x.2
 |.lst _::ps,x=>rdB ps x.2
 |.st _::ps,x=>rdB ps x.2
def QO(s:Spec)(x:Ab s.pts)(F:Fz)(w:World)(io:Option Nat)(e:Ending)(w':World):Prop:=
 ∃ v F' ow,e=.returned v/\Left F w io F' w'/\(∀i b,ow i=some b->w.heap.size<=b/\b<w'.heap.size)/\(∀i i' b,ow i=some b->ow i'=some b->i=i') /\
   VR F' w.heap.size w' ow (s.rt.av (s.val x).1) v/\∀b bs,io=some b->rdB s.pts x=some bs->∃sl,Blk w' b [sl,.int .i64 (s.val x).2]/\RC F' 0 w' (.lst .byte bs) sl
structure Con(P:aaF)(f:Nat)(s:Spec):Prop where
 fn:∃fn,P.funcs[f]? = some fn/\(fn.name == "runtime.NumGoroutine")=false/\fn.body.isNone=false
 call:∀(x:Ab s.pts),s.pre x->∀(w:World) (F:Fz) (vs:List Value) (io:Option Nat),Live F w->xe F w s.pts x vs io->Calls P f vs.toArray w (QO s x F w io)
theorem YC{F:Fz}{lo:Nat}{w:World}{t u:Ty}{xs:List u.T}{ys:List t.T}{v:Value}(h:Sk t u xs=some ys)(hr:RC F lo w (.lst u xs) v):RC F lo w (.lst t ys) v:=by
 cases t<;>cases u<;>first|(simp[Sk]at h;done)|(have h':some xs=some ys:=h;cases h';exact hr)
theorem RO{F:Fz}{w:World}{p:PT}{pv:PV}{x:p.T}{v:Value}(h:Og p pv=some x)(hv:PVR F 0 w pv v):Ug F w p x v:=by
 obtain⟨f,ag,cs⟩:=pv;have h0:∀ {c:C},RC F (lof 0 f) w c v->RC F (lof 0 false) w c v:=λh=>h.mono (λ_ _ h=>h) (by cases f<;>simp[lof]) (λ_ _ _=>rfl);cases p with
 |rdr=>simp[Og]at h
 |int k=>
  match ag,cs,h,hv with
  |false,[.int k' n],h,hv=>
   simp only[Og]at h;split at h
   .rename_i hk;cases h;cases Zk hk;exact h0 hv
   .cases h
 |bool=>
  match ag,cs,h,hv with
  |false,[.bool b],h,hv=>simp only[Og]at h;cases h;exact h0 hv
 |str=>
  match ag,cs,h,hv with
  |false,[.str s],h,hv=>simp only[Og]at h;cases h;exact h0 hv
 |lst t=>
  match ag,cs,h,hv with
  |false,[.lst u xs],h,hv=>simp only[Og]at h;exact h0 (YC h hv)
 |st t=>
  cases ag with
  |false=>simp[Og]at h
  |true=>
   simp only[Og]at h;obtain⟨vs,rfl,hr⟩:=hv;refine⟨vs,rfl,?_⟩;show RCs F (lof 0 false) w (cells t x) vs;rw[pack_cells h];exact hr.mono (λ_ _ h=>h) (by cases f<;>simp[lof]) (λ_ _ _=>rfl)
theorem PVR.zero{F:Fz}{B:Nat}{w:World}{p:PV}{v:Value}(h:PVR F B w p v):PVR F 0 w p v:=h.mono (λ_ _ h=>h) (aaR _) (λ_ _ _=>rfl)
section
variable {P:aaF}{w:World}{F:Fz}{B:Nat}{a:Act}{ge g:Get}{ow:Nat->Option Nat->Option Nat}
def xi(F:Fz)(ge:Get)(ow:Nat->Option Nat->Option Nat)(bo:Bool):Fz:=λb o=>
 F b o\/(bo=true/\∃m f t xs,ge m=.v (.own f) (.lst t xs)/\ow m none=some b/\o<xs.length*t.size)
theorem vZ{f:Bool}{m:Nat}{c:C}{v:Value}(hge:ge m=.v (.own f) c)(h:ae F (lof B f) w (ow m none) c v):RC (xi F ge ow true) 0 w c v:=by
 rcases h with⟨t,rfl,rfl⟩|⟨t,xs,b,cap,cs,vs,rfl,rfl,h3,h4,h5,hh,h6,h7,h8,h9⟩
 .exact .nil t
 refine .lst t xs b 0 cap vs (aaR _) hh (λi j hi hj=>.inr ⟨rfl,m,f,t,xs,hge,h3,?_⟩) (λi j hi hj=>?_) (λi j x c hx hc=>?_)
 .have:i*t.size+t.size<=xs.length*t.size:=by rw[<-aaT];exact aar _ hi
  omega
 .rw[aaK,h4.cell];exact h8 i j hi hj
 .exact (h9 i j x c hx hc).mono (λ_ _ h=>.inl h) (aaR _) (λ_ _ _=>rfl)
theorem ZC{bo bo':Bool}(h:bo=true->bo'=true):∀b o,xi F ge ow bo b o->xi F ge ow bo' b o:=λ_ _ hb=>hb.elim .inl (λ⟨h1,h2⟩=>.inr ⟨h h1,h2⟩)
theorem Ug.mono{F F':Fz}{w:World}(hF:∀b o,F b o->F' b o){p:PT}{x:p.T}{v:Value}(h:Ug F w p x v):Ug F' w p x v:=PVR.mono hF (aau _) (λ_ _ _=>rfl) h
theorem wZ{tt:TT}{t:Nat}{y:aav}:plain g (si y (rdo tt g t y))=plain g (rdo tt g t y):=by
 unfold si;split
 .rename_i n cs hb;have hb:g n=.box cs:=hb;show plain g (.view n none)=plain g (g n);rw[hb];simp only[plain,plainR,hb]
 .rfl
theorem xZ(h:Kn F B w (λn=>a.tmps.getD n undef) ge g ow){tt:TT}{t:Nat}{y:aav}{n:Nat}(hv:si y (rdo tt g t y)=.view n none):a.eval y=a.tmps.getD n undef:=by
 obtain⟨o,hh⟩:=bn h tt t y;generalize rdo tt g t y=r at hv hh;unfold si at hv;split at hv
 .cases hv;rfl
 .rw[hv]at hh;exact hh.1
theorem aD(h:Kn F B w (λn=>a.tmps.getD n undef) ge g ow)(hinj:∀s i s' i' b,ow s i=some b->ow s' i'=some b->s=s'/\i=i'){tt:TT} :
  ∀ {ps:List PT}{xs:List aav}{ts:List Nat}{bo:Bool}{r:Option Nat}{x:Ab ps}{Fx:Fz},(∀b o,xi F ge ow bo b o->Fx b o)->(∀b o,Fx b o->xi F ge ow true b o)->xs.length=ts.length ->
    Wb g ps (Yd tt g xs ts)=some (bo,r,x)->xe Fx w ps x (xs.map a.eval) (r.bind (ow · none))/\(r=none->True)/\∀s,r=some s->∃b bs q,ow s none=some b/\ge s=.box [(.sh,.lst .byte bs),(.fr,.int .i64 q)]/\rdB ps x=some bs
 |[],[],[],bo,r,x,Fx,hF,hF',hl,hd=>by
  simp[Wb,Yd]at hd;obtain⟨rfl,rfl⟩:=hd;exact⟨⟨rfl,rfl⟩,λ_=>trivial,λs hs=>by simp at hs⟩
 |[],y::ys,[],bo,r,x,Fx,hF,hF',hl,hd=>by simp at hl
 |[],[],t::ts,bo,r,x,Fx,hF,hF',hl,hd=>by simp at hl
 |p::ps,y::ys,[],bo,r,x,Fx,hF,hF',hl,hd=>by simp at hl
 |p::ps,[],t::ts,bo,r,x,Fx,hF,hF',hl,hd=>by simp at hl
 |[],y::ys,t::ts,bo,r,x,Fx,hF,hF',hl,hd=>by simp[Wb,Yd]at hd
 |p::ps,[],[],bo,r,x,Fx,hF,hF',hl,hd=>by cases p<;>simp[Wb,Yd]at hd
 |p::ps,y::ys,t::ts,bo,r,x,Fx,hF,hF',hl,hd=>by
  have hi:kg (qi g p (si y (rdo tt g t y))) (Wb g ps (Yd tt g ys ts))=some (bo,r,x)->Ug Fx w p x.1 (a.eval y)/\xe Fx w ps x.2 (ys.map a.eval) (r.bind (ow · none))/\∀s,r=some s->∃b bs q,ow s none=some b/\ge s=.box [(.sh,.lst .byte bs),(.fr,.int .i64 q)]/\rdB ps x.2=some bs:=by
   intro hq;cases hx:qi g p (si y (rdo tt g t y)) with
   |none=>rw[hx]at hq;simp[kg]at hq
   |some bx=>
    obtain⟨b1,x1⟩:=bx;cases hdr:Wb g ps (Yd tt g ys ts) with
    |none=>rw[hx,hdr]at hq;simp[kg]at hq
    |some q=>
     obtain⟨b2,s,xs⟩:=q;rw[hx,hdr]at hq;simp only[kg,aal,aap]at hq;obtain⟨rfl,rfl,rfl⟩:=hq;obtain⟨q1,_,q3⟩:=aD (Fx:=Fx) h hinj (λb o hb=>hF b o (ZC (λhb2=>by rw[hb2];simp) b o hb)) hF' (by simpa using hl) hdr;refine⟨?_,q1,q3⟩;unfold qi at hx;rw[wZ]at hx;cases hpl:plain g (rdo tt g t y) with
     |none=>rw[hpl]at hx;simp at hx
     |some bp=>
      obtain⟨hh,pv⟩:=bp;rw[hpl]at hx;simp only[]at hx;cases hd1:Og p pv with
      |none=>rw[hd1]at hx;simp at hx
      |some x1'=>
       rw[hd1]at hx;simp only[aal,aap]at hx;obtain⟨rfl,rfl⟩:=hx;have hP:=ce h hpl;cases hh with
       |false=>exact RO hd1 ((PVR.zero hP).mono (λb o hb=>hF b o (.inl hb)) (aau _) (λ_ _ _=>rfl))
       |true=>
        obtain⟨f,c,m,rfl,hn,hp⟩:=hP;have hr:=vZ (F:=F) hn hp;refine RO hd1 (p:=p) (F:=Fx) (w:=w) ?_;have ht:RC Fx 0 w c (a.eval y):=hr.mono (λb o hb=>hF b o (ZC (by simp) b o hb)) (aau _) (λ_ _ _=>rfl);exact ht.mono (λ_ _ h=>h) (by cases f<;>simp[lof]) (λ_ _ _=>rfl)
  cases p with
  |rdr=>
   simp only[Wb,Yd]at hd;cases hr:Vm g (si y (rdo tt g t y)) with
   |none=>rw[hr]at hd;simp at hd
   |some sx=>
    obtain⟨s,bs,pp⟩:=sx;rw[hr]at hd;cases hdr:Wb g ps (Yd tt g ys ts) with
    |none=>rw[hdr]at hd;simp at hd
    |some q=>
     obtain⟨b1,s',x1⟩:=q;rw[hdr]at hd;cases s' with
     |some s'=>simp at hd
     |none=>
      simp only[aal,aap]at hd;obtain⟨rfl,rfl,rfl⟩:=hd;obtain⟨q1,_,q3⟩:=aD (Fx:=Fx) h hinj hF hF' (by simpa using hl) hdr;unfold Vm at hr;split at hr
      .rename_i n hv;have hw:a.eval y=a.tmps.getD n undef:=xZ h hv;split at hr
       .rename_i bs' pp' hg;cases hr;obtain⟨hk,b,vs,e1,e2,e3,e4,e5,e6⟩:=yj h hg;have hu:a.eval y=.pointer (some ⟨b,0,none⟩):=hw.trans e1
        match vs,e5 with
        |[sl,u],_=>
         have h0:=e6 0 (.sh,.lst .byte bs) sl rfl rfl;have h1:RC F B w (.int .i64 pp) u:=e6 1 (.fr,.int .i64 pp) u rfl rfl;cases h1;refine⟨⟨b,sl,ys.map a.eval,by simp[hu],by simp[e2],e3,?_,?_,q1⟩,λ_=>trivial,λs' hs'=>?_⟩
         .have hj:RC F 0 w (.lst .byte bs) sl:=h0;exact hj.mono (λb o hb=>hF b o (.inl hb)) (aau _) (λ_ _ _=>rfl)
         .intro o hb;rcases hF' b o hb with hb|⟨_,m,f,t',hy,hm,ho,_⟩
          .exact e4 o hb
          .obtain⟨rfl,_⟩:=hinj _ _ _ _ _ ho e2;rw[hk]at hm;cases hm
         .simp at hs';subst hs';exact⟨b,_,_,e2,hk,rfl⟩
       .cases hr
      .cases hr
  |int k=>exact((λq=>⟨⟨_,_,rfl,q.1,q.2.1⟩,λ_=>trivial,q.2.2⟩) (hi (by simpa only[Wb,Yd] using hd)))
  |bool=>exact((λq=>⟨⟨_,_,rfl,q.1,q.2.1⟩,λ_=>trivial,q.2.2⟩) (hi (by simpa only[Wb,Yd] using hd)))
  |str=>exact((λq=>⟨⟨_,_,rfl,q.1,q.2.1⟩,λ_=>trivial,q.2.2⟩) (hi (by simpa only[Wb,Yd] using hd)))
  |lst t'=>exact((λq=>⟨⟨_,_,rfl,q.1,q.2.1⟩,λ_=>trivial,q.2.2⟩) (hi (by simpa only[Wb,Yd] using hd)))
  |st t'=>exact((λq=>⟨⟨_,_,rfl,q.1,q.2.1⟩,λ_=>trivial,q.2.2⟩) (hi (by simpa only[Wb,Yd] using hd)))
theorem RC.above{F:Fz}{lo:Nat}{c:C}{v:Value}(h:RC F lo w c v):RC (λb o=>F b o/\lo<=b) lo w c v:=by
 induction h with
 |int k n=>exact .int k n
 |bool b=>exact .bool b
 |str s=>exact .str s
 |nl t=>exact .nl t
 |nil t=>exact .nil t
 |lst t xs b o cap vs hb hcap hf hc hr ih=>exact .lst t xs b o cap vs hb hcap (λi j hi hj=>⟨hf i j hi hj,hb⟩) hc ih
theorem RCs.above{F:Fz}{lo:Nat}{c:List C}{v:List Value}(h:RCs F lo w c v):RCs (λb o=>F b o/\lo<=b) lo w c v:=by
 induction h with
 |nil=>exact .nil
 |cons h _ ih=>exact .cons h.above ih
theorem VR.fresh{F F':Fz}{M:Nat}{w:World}{o:Option Nat->Option Nat}{rt:RT}{x:rt.T}{v:Value}(hfr:rt.fresh=true)(h:VR F M w o (rt.av x) v)
  (h1:∀b o,F b o->M<=b->F' b o) (h2:∀b o,F' b o->F b o):VR F' M w o (rt.av x) v:=by
 have rc:∀ {c:C}{v:Value},RC F M w c v->RC F' M w c v:=λh=>h.above.mono (λb o hb=>h1 b o hb.1 hb.2) (aau _) (λ_ _ _=>rfl);have hi:∀ {c:List C}{v:List Value},RCs F M w c v->RCs F' M w c v:=λh=>h.above.mono (λb o hb=>h1 b o hb.1 hb.2) (aau _) (λ_ _ _=>rfl);cases rt with
 |rdr=>simp[RT.fresh]at hfr
 |tup l=>
  obtain⟨vs,rfl,h⟩:=h;refine⟨vs,rfl,?_⟩
  have key:∀ {l:List (Bool×PT)}{x:Tup l}{vs:List Value},Hr l=true->Zd F M w (Er l x) vs->Zd F' M w (Er l x) vs:=by
   intro l
   induction l with
   |nil=>intro x vs _ h;cases h;exact .nil
   |cons p l ih=>
    obtain⟨f,p⟩:=p;intro x vs hf h;cases f with
    |false=>simp[Hr]at hf
    |true=>
     cases h with
     |cons h h'=>
      refine .cons ?_ (ih hf h');cases hq:enc1 p x.1 with
      |mk ag cs=>
       rw[hq]at h;cases ag with
       |true=>obtain⟨us,rfl,h⟩:=h;exact⟨us,rfl,hi h⟩
       |false=>
        match cs,h with
        |[c],h=>exact rc h
  exact key hfr h
 |one k p=>
  simp only[RT.av]at h⊢;cases hq:enc1 p x with
  |mk ag cs=>
   rw[hq]at h;cases ag with
   |true=>
    simp only[]at h⊢;have hk:Gr k=true:=hfr;rw[hk]at h⊢;obtain⟨us,rfl,h⟩:=h;exact⟨us,rfl,hi h⟩
   |false=>
    match cs,h with
    |[c],h=>
     cases k with
     |sh=>simp[RT.fresh,Gr]at hfr
     |fr=>exact rc h
     |acc f=>
      have hf:f=true:=hfr;subst hf;obtain⟨q1,q2⟩:=h;refine⟨rc q1,?_⟩;rcases q2 with q2|⟨t,xs,b,cap,cs,e1,e2,e3,e4,e5,e6⟩
      .exact .inl q2
      .exact .inr ⟨t,xs,b,cap,cs,e1,e2,e3,e4,e5,λo ho hb=>e6 o ho (h2 b o hb)⟩
     |own f=>
      have hf:f=true:=hfr;subst hf;rcases h with h|⟨t,xs,b,cap,cs,vs,e1,e2,e3,e4,e5,hh,e6,e7,e8,e9⟩
      .exact .inl h
      exact .inr ⟨t,xs,b,cap,cs,vs,e1,e2,e3,e4,e5,hh,e6,λo hb=>e7 o (h2 b o hb),e8,λi j x c hx hc=>rc (e9 i j x c hx hc)⟩
    |[],_=>trivial
    |_::_::_,_=>trivial
end
theorem VR.lower{F:Fz}{B M:Nat}(hB:B<=M){w:World}{o:Option Nat->Option Nat}{av:AV}{v:Value}(h:VR F M w o av v):VR F B w o av v:=by
 have hl:∀f,lof B f<=lof M f:=λf=>by cases f<;>simp[lof,hB]
 have rc:∀ {f:Bool}{c:C}{v:Value},RC F (lof M f) w c v->RC F (lof B f) w c v:=λh=>h.mono (λ_ _ h=>h) (hl _) (λ_ _ _=>rfl);have acc:∀ {f:Bool}{ob:Option Nat}{c:C}{v:Value},Ca F (lof M f) w ob c v->Ca F (lof B f) w ob c v:=λh=>⟨rc h.1,h.2⟩;cases av with
 |dead=>trivial
 |v k c=>
  cases k with
  |sh=>exact h
  |fr=>exact RC.mono (λ_ _ h=>h) hB (λ_ _ _=>rfl) h
  |acc f=>exact acc h
  |own f=>
   rcases h with h|⟨t,xs,b,cap,cs,vs,e1,e2,e3,e4,e5,hh,e6,e7,e8,e9⟩
   .exact .inl h
   exact .inr ⟨t,xs,b,cap,cs,vs,e1,e2,e3,e4,e5,hh,aaB (hl f) e6,e7,e8,λi j x c hx hc=>rc (e9 i j x c hx hc)⟩
 |agg f cs=>obtain⟨vs,rfl,h⟩:=h;exact⟨vs,rfl,h.mono (λ_ _ h=>h) (hl f) (λ_ _ _=>rfl)⟩
 |tup l=>obtain⟨vs,rfl,h⟩:=h;exact⟨vs,rfl,h.mono (λ_ _ h=>h) hB (λ_ _ _=>rfl)⟩
 |box cs=>
  obtain⟨b,vs,h1,h2,h3,h4,h5,h6⟩:=h;refine⟨b,vs,h1,h2,h3,h4,h5,λj kc u hk hu=>?_⟩;have:=h6 j kc u hk hu;obtain⟨k,c⟩:=kc;cases k with
  |sh=>exact this
  |fr=>exact RC.mono (λ_ _ h=>h) hB (λ_ _ _=>rfl) this
  |acc f=>exact acc this
  |own f=>exact this
 |cond k a=>exact h.elim
 |view s i=>exact h.elim
 |baddr s i=>exact h.elim
 |faddr f cs=>exact h.elim
 |oaddr s i j=>exact h.elim
theorem yZ{F:Fz}{B:Nat}{w:World}{tm:Nat->Value}{ge:Get}{o:Option Nat->Option Nat}{rt:RT}{x:rt.T}{v:Value}(h:VR F B w o (rt.av x) v):AVR F B w tm ge o (rt.av x) v:=by
 cases rt with
 |rdr=>exact h
 |tup l=>exact h
 |one k p=>
  simp only[RT.av]at h⊢;cases hq:enc1 p x with
  |mk ag cs=>
   rw[hq]at h;cases ag with
   |true=>exact h
   |false=>
    match cs,h with
    |[c],h=>exact h
    |[],_=>trivial
    |_::_::_,_=>trivial
def After(F:Fz)(B:Nat)(w:World)(tm:Nat->Value)(ge:Get)(ow:Nat->Option Nat->Option Nat)(av:AV)(io:Option (Nat×Int))(v:Value)(w':World):Prop:=
 ∃ F' owd,Left F w (io.bind λsp=>ow sp.1 none) F' w'/\(∀i b,owd i=some b->w.heap.size<=b/\b<w'.heap.size)/\(∀i i' b,owd i=some b->owd i'=some b->i=i') /\
   AVR F' B w' tm ge owd av v/\∀s p,io=some (s,p)->VR F' B w' owd av v/\∃b bs q sl,ow s none=some b/\ge s=.box [(.sh,.lst .byte bs),(.fr,.int .i64 q)]/\Blk w' b [sl,.int .i64 p]/\RC F' 0 w' (.lst .byte bs) sl
theorem Ua.left{F F':Fz}{w w':World}(h:Ua F w F' w')(hl:Live F' w'):Left F w none F' w':=⟨h.os,h.tape,h.output,h.size,λk hk _=>h.block k hk,h.sub,h.new,hl⟩
section
variable {P:aaF}{w:World}{F:Fz}{B:Nat}{a:Act}{ge raw:Get}{ow:Nat->Option Nat->Option Nat}
theorem zZ{tt:TT}{s:Spec}{f:Nat}(hc:Con P f s){g:Get}(h:Kn F B w (λn=>a.tmps.getD n undef) ge g ow)(hB:B<=w.heap.size)
  (hinj:∀s i s' i' b,ow s i=some b->ow s' i'=some b->s=s'/\i=i') (_hbd:∀s i b,ow s i=some b->b<w.heap.size)
  (hge:∀m f c,ge m=.v (.own f) c->ae F (lof B f) w (ow m none) c (a.tmps.getD m undef))
  {xs:List aav}{ts:List Nat} (hlen:xs.length=ts.length) {av:AV}{obs:List Prop}{io:Option (Nat×Int)} (hs:Nr g s (Yd tt g xs ts)=some ⟨av,obs,io⟩) (ho:∀p∈obs,p) :
  Calls P f (xs.map a.eval).toArray w (λe w'=>∃v,e=.returned v/\After F B w (λn=>a.tmps.getD n undef) ge ow av io v w'):=by
 unfold Nr at hs;cases hd:Wb g s.pts (Yd tt g xs ts) with
 |none=>rw[hd]at hs;simp at hs
 |some q=>
  obtain⟨bo,r,x⟩:=q;rw[hd]at hs;simp only[]at hs
  have hi:∀bo,Live (xi F ge ow bo) w:=by
   intro bo;refine h.live.ext (λ_ _ h=>.inl h) λb o hb=>?_;rcases hb with hb|⟨_,m,f',t,ki,hm,he,hz⟩
   .exact h.live b o hb
   .rcases hge m f' _ hm with⟨t2,e1,_⟩|⟨t2,kj,b2,cap,cs,vs,e1,e2,e3,e4,e5,hh,e6,e7,e8,e9⟩
    .cases e1;simp at hz
    cases e1;rw[he]at e3;cases e3;rw[e4.cell]
    have:o<cs.length:=by
     rw[e5];exact aaC hz (aar _ hh)
    rw[aam this];rfl
  obtain⟨hA,_,it⟩:=aD (Fx:=xi F ge ow bo) h hinj (λ_ _ h=>h) (ZC (by simp)) hlen hd
  have hr:(bo&&(s.io||!s.rt.fresh))=false/\obs=[s.pre x]/\av=s.rt.av (s.val x).1/\((r=none/\s.io=false/\io=none)\/∃r',r=some r'/\s.io=true/\io=some (r',(s.val x).2)):=by
   cases hk:(bo&&(s.io||!s.rt.fresh)) with
   |true=>rw[hk]at hs;simp at hs
   |false=>
    rw[hk]at hs;cases r with
    |none=>
     cases hw:s.io with
     |true=>rw[hw]at hs;simp at hs
     |false=>rw[hw]at hs;simp at hs;exact⟨rfl,hs.2.1.symm,hs.1.symm,.inl ⟨rfl,rfl,hs.2.2.symm⟩⟩
    |some r'=>
     cases hw:s.io with
     |false=>rw[hw]at hs;simp at hs
     |true=>rw[hw]at hs;simp at hs;exact⟨rfl,hs.2.1.symm,hs.1.symm,.inr ⟨r',rfl,rfl,hs.2.2.symm⟩⟩
  obtain⟨hk,rfl,rfl,hw⟩:=hr;have hpre:s.pre x:=ho _ (by simp)
  have ha:(r.bind (ow · none))=(io.bind λsp=>ow sp.1 none):=by
   rcases hw with⟨rfl,_,rfl⟩|⟨r',rfl,_,rfl⟩<;>rfl
  refine(hc.call x hpre w (xi F ge ow bo) _ _ (hi bo) hA).mono ?_;rintro e w' ⟨v,Fc,jb,rfl,hy,hq,hu,hv,ih⟩;refine⟨v,rfl,?_⟩;rw[ha]at hy;let F':Fz:=λb o=>F b o\/(Fc b o/\w.heap.size<=b);have ju:∀b o,F' b o->Fc b o:=λb o hb=>hb.elim (λhb=>hy.sub _ _ (.inl hb)) (λhb=>hb.1)
  have hj:VR F' B w' jb (s.rt.av (s.val x).1) v:=by
   refine VR.lower hB ?_;cases hl:bo with
   |true=>
    rw[hl]at hk;exact hv.fresh (by simp at hk;exact hk.2) (λb o hb hm=>.inr ⟨hb,hm⟩) ju
   |false=>
    subst hl;have hp:∀b o,Fc b o↔F' b o:=λb o=>⟨λhb=>(hy.new b o hb).elim (λhb=>.inl (hb.elim id (λhb=>absurd hb.1 (by simp)))) (λhs=>.inr ⟨hb,hs⟩),ju b o⟩;have:Fc=F':=by funext b o;exact propext (hp b o)
    rw[<-this];exact hv
  refine⟨F',jb,⟨hy.os,hy.tape,hy.output,hy.size,hy.block,λ_ _ hb=>.inl hb,λb o hb=>hb.elim .inl (λhb=>.inr hb.2),⟨λb o hb=>hy.live _ _ (ju b o hb),λg cs hg=>⟨λo ho=>.inl ((h.live.tab g cs hg).1 o ho),(hy.live.tab g cs hg).2⟩⟩⟩,hq,hu,yZ hj,?_⟩
  .intro s' p ie;rcases hw with⟨_,_,rfl⟩|⟨r',hf,ix,rfl⟩
   .simp at ie
   .simp at ie;obtain⟨rfl,rfl⟩:=ie;obtain⟨b,bs,q,hb,ht,hn⟩:=it _ hf;obtain⟨sl,g1,g2⟩:=ih b bs (by rw[hf];exact hb) hn
    have hl:bo=false:=by
     rw[ix]at hk;cases hb2:bo with
     |false=>rfl
     |true=>rw[hb2]at hk;exact absurd hk (by simp)
    refine⟨hj,b,bs,q,sl,hb,ht,g1,g2.mono (λb o hb=>?_) (aau _) (λ_ _ _=>rfl)⟩;rw[hl]at hy;exact(hy.new b o hb).elim (λhb=>.inl (hb.elim id (λhb=>absurd hb.1 (by simp)))) (λhs=>.inr ⟨hb,hs⟩)
set_option maxHeartbeats 1000000 in
theorem AZ{tt:TT}(htt:dc P tt){sp:SP}(hsp:∀f s,spk sp f=some s->Con P f s){k:Key}(hl:Live F w)(hB:B<=w.heap.size)
  (hraw:cl F B w (λn=>a.tmps.getD n undef) ge raw ow) (hk:SR.KeyT (λn=>a.tmps.getD n undef) k) (hb:Rb k=true)
  (hinj:∀s i s' i' b,ow s i=some b->ow s' i'=some b->s=s'/\i=i') (hbd:∀s i b,ow s i=some b->b<w.heap.size)
  (hge:∀m f c,ge m=.v (.own f) c->ae F (lof B f) w (ow m none) c (a.tmps.getD m undef))
  {o:Oper}{av:AV}{obs:List Prop}{io:Option (Nat×Int)}
  (hs:sev tt sp raw k (λn=>strip k (raw n)) o.type o.op=some ⟨av,obs,io⟩) (ho:∀p∈obs,p) {next:Act->World->Prop}{Q:Exit->Act->World->Prop}
  (hn:∀v w',After F B w (λn=>a.tmps.getD n undef) ge ow av io v w'->next (a.put o.dst v) w'):o.wp P a w next Q:=by
 by_cases hcall:∃f args ts,o.op=.call ⟨.value (.func f),args,ts⟩
 .obtain⟨f,args,ts,hz⟩:=hcall;rw[hz]at hs;simp only[sev]at hs;cases hsf:spk sp f with
  |none=>rw[hsf]at hs;simp at hs
  |some s=>
   rw[hsf]at hs;simp only[]at hs;have hc:=hsp f s hsf;cases hlb:aaq args.size ts.size with
   |false=>rw[hlb]at hs;simp at hs
   |true=>
    rw[hlb]at hs;have hlen:args.toList.length=ts.toList.length:=by simpa using aao hlb
    have hp:=zZ hc (zj hl hraw hk hb) hB hinj hbd hge hlen hs ho;obtain⟨fn,hq,hw,hj⟩:=hc.fn
    have ha:(execOp a.eval o).run P w=.ok (.enter f (args.toList.map a.eval).toArray) w:=by
     obtain⟨dst,op,ty,pos,aft,gd⟩:=o;simp only[]at hz;subst hz;have hh:(args.map a.eval)=(args.toList.map a.eval).toArray:=by apply aaN;simp
     have hy:¬ fn.name="runtime.NumGoroutine":=by simpa using hw
     have hm:¬ fn.body=none:=by intro e;rw[e]at hj;simp at hj
     rw[<-hh];simp[execOp,abG,Act.eval,Deferred.ofValue,invoke,callFunc,hq,hy,hm]
    unfold abE;rw[ha,Oper.upon_enter];refine hp.mono ?_;rintro e w' ⟨v,rfl,hv⟩;exact hn v w' hv
 .obtain⟨rfl,v,w',F',he,hr,hg,hu,hf,ht,hi⟩:=uZ htt hl hB hraw hk hb (λf args ts e=>hcall ⟨f,args,ts,e⟩) hs ho;unfold abE;rw[hr,abe];exact hn v w' ⟨F',he,hg.left hu,hf,ht,hi,λs p hsp=>by simp at hsp⟩
end
structure Pk(w:World)(b:Nat)(w1:World):Prop where
 os:w1.os=w.os
 tape:w1.tape=w.tape
 output:w1.output=w.output
 size:w1.heap.size=w.heap.size
 block:∀k,k≠b->w1.heap[k]? = w.heap[k]?
theorem Xe.pk{B:Nat}{IoB:List Nat}{F0 F F1:Fz}{w w1:World}{b:Nat}(h:Xe B IoB F0 F)(hl:Live F1 w)(hp:Pk w b w1)(hb:Mn B IoB b)(ho:∀b o,F b o->(w1.cell? ⟨b,o,none⟩).isSome):Live F w1:=h.live hl (λk hk _=>hp.block k λe=>hk (e▸hb)) ho
structure ns(w:World)(b:Nat)(us:List Value)(w1:World):Prop extends Pk w b w1 where
 blk:Blk w1 b us
def Df(F:Fz)(w w1:World):Prop:=∀b o,F b o->w1.cell? ⟨b,o,none⟩=w.cell? ⟨b,o,none⟩
theorem Pk.same{w w1:World}{F:Fz}{b:Nat}(hp:Pk w b w1)(hF:∀o,¬ F b o):Df F w w1:=λb' o h=>cell_of_heap (hp.block b' (λe=>hF o (e▸h)))
section
variable {w w1:World}{F:Fz}{B:Nat}{b:Nat} (hp:Pk w b w1) (hF:Df F w w1)
include hp hF
theorem RC.poke{lo:Nat}{c:C}{v:Value}(h:RC F lo w c v):RC F lo w1 c v:=by
 have _:=hp;exact h.mono (λ_ _ h=>h) (aau _) hF
theorem RCs.poke{lo:Nat}{c:List C}{v:List Value}(h:RCs F lo w c v):RCs F lo w1 c v:=by
 have _:=hp;exact h.mono (λ_ _ h=>h) (aau _) hF
theorem Zd.poke{c:List PV}{v:List Value}(h:Zd F B w c v):Zd F B w1 c v:=by
 have _:=hp;exact h.mono (λ_ _ h=>h) (aau _) hF
theorem Ca.poke{lo:Nat}{ob:Option Nat}{c:C}{v:Value}(hob:ob≠some b)(h:Ca F lo w ob c v):Ca F lo w1 ob c v:=by
 obtain⟨hr,h⟩:=h;refine⟨hr.poke hp hF,?_⟩;rcases h with h|⟨t,xs,b',cap,cs,h1,h2,h3,h4,h5,h6⟩
 .exact .inl h
 .exact .inr ⟨t,xs,b',cap,cs,h1,h2,h3,h4.same (hp.block b' (λe=>hob (e▸h3))),h5,h6⟩
theorem ae.poke{lo:Nat}{ob:Option Nat}{c:C}{v:Value}(hob:ob≠some b)(h:ae F lo w ob c v):ae F lo w1 ob c v:=by
 rcases h with h|⟨t,xs,b',cap,cs,vs,h1,h2,h3,h4,h5,hh,h6,h7,h8,h9⟩
 .exact .inl h
 exact .inr ⟨t,xs,b',cap,cs,vs,h1,h2,h3,h4.same (hp.block b' (λe=>hob (e▸h3))),h5,hh,h6,h7,h8,λi j x c hx hc=>(h9 i j x c hx hc).poke hp hF⟩
theorem Eb.poke{ob:Option Nat}{kc:K×C}{v:Value}(hob:ob≠some b)(h:Eb F B w ob kc v):Eb F B w1 ob kc v:=by
 obtain⟨k,c⟩:=kc;cases k with
 |sh=>exact RC.poke hp hF h
 |fr=>exact RC.poke hp hF h
 |acc f=>exact Ca.poke hp hF hob h
 |own f=>exact h.elim
theorem VR.poke{o:Option Nat->Option Nat}{av:AV}{v:Value}(hob:∀i,o i≠some b)(h:VR F B w o av v):VR F B w1 o av v:=by
 cases av with
 |dead=>trivial
 |v k c=>
  cases k with
  |sh=>exact RC.poke hp hF h
  |fr=>exact RC.poke hp hF h
  |acc f=>exact Ca.poke hp hF (hob none) h
  |own f=>exact ae.poke hp hF (hob none) h
 |agg f cs=>obtain⟨vs,rfl,h⟩:=h;exact⟨vs,rfl,h.poke hp hF⟩
 |tup l=>obtain⟨vs,rfl,h⟩:=h;exact⟨vs,rfl,h.poke hp hF⟩
 |box cs=>
  obtain⟨b',vs,h1,h2,h3,h4,h5,h6⟩:=h;exact⟨b',vs,h1,h2,h3.same (hp.block b' (λe=>hob none (e▸h2))),h4,h5,λj kc u hk hu=>(h6 j kc u hk hu).poke hp hF (hob _)⟩
 |cond k a=>exact h.elim
 |view s i=>exact h.elim
 |baddr s i=>exact h.elim
 |faddr f cs=>exact h.elim
 |oaddr s i j=>exact h.elim
end
def BZ(x y:AV):Prop:=(∃cs cs',x=.box cs/\y=.box cs')\/∃t f xs f' xs',x=.v (.own f) (.lst t xs)/\y=.v (.own f') (.lst t xs')/\xs'.length=xs.length
theorem SR.poke{w w1:World}{F:Fz}{B:Nat}{b s:Nat}(hp:Pk w b w1)(hF:Df F w w1){tm:Nat->Value}{g g':Get}{ow ow':Nat->Option Nat->Option Nat}
  (hs:ow s none=some b) (hst:BZ (g s) (g' s))
  (hg:∀n,n≠s->g' n=g n) (ho:∀n,n≠s->ow' n=ow n) (hinj:∀s i s' i' b,ow s i=some b->ow s' i'=some b->s=s'/\i=i')
  (hbox:∀m cs,g m=.box cs->∃b',tm m=.pointer (some ⟨b',0,none⟩)/\ow m none=some b') {n:Nat} (hn:n≠s) :
  ∀ {av:AV},((∀(cs:List (K×C)) (j:Nat) (f:Bool) (c:C),g s=.box cs->cs[j]?≠some (K.acc f,c))\/(Nf av=false/\∀j,av≠.view s (some j)))->SR F B w tm g ow n av->SR F B w1 tm g' ow' n av
 |.dead,_,_=>trivial
 |.v k c,_,h=>by
  show VR F B w1 (ow' n) (.v k c) (tm n);rw[ho n hn];exact VR.poke hp hF (λi e=>hn (hinj _ _ _ _ _ e hs).1) h
 |.agg f cs,_,h=>by
  show VR F B w1 (ow' n) (.agg f cs) (tm n);rw[ho n hn];exact VR.poke hp hF (λi e=>hn (hinj _ _ _ _ _ e hs).1) h
 |.tup l,_,h=>by
  show VR F B w1 (ow' n) (.tup l) (tm n);rw[ho n hn];exact VR.poke hp hF (λi e=>hn (hinj _ _ _ _ _ e hs).1) h
 |.box cs,_,h=>by
  show VR F B w1 (ow' n) (.box cs) (tm n);rw[ho n hn];exact VR.poke hp hF (λi e=>hn (hinj _ _ _ _ _ e hs).1) h
 |.cond k a,hv,h=>by
  refine⟨λd b' x hm=>⟨(h.1 d b' x hm).1,?_⟩,h.2.1,λhb=>SR.poke hp hF hs hst hg ho hinj hbox hn (.inl (hv.resolve_right (λe=>by simp[Nf]at e))) (h.2.2.1 hb),h.2.2.2⟩;by_cases e:d=s
  .subst e;rcases hst with⟨_,cs',_,h'⟩|⟨_,_,_,_,_,_,h',_⟩<;>rw[h']<;>rfl
  .rw[hg d e];exact(h.1 d b' x hm).2
 |.view m none,_,h=>by
  refine⟨h.1,?_,h.2.2⟩;by_cases e:m=s
  .subst e;rcases hst with⟨_,cs',_,h'⟩|⟨_,_,_,_,_,_,h',_⟩<;>rw[h']<;>rfl
  .rw[hg m e];exact h.2.1
 |.view m (some j),hv,h=>by
  obtain⟨h0,cs,b',f,c,h1,h2,h3,h4⟩:=h;by_cases e:m=s
  .subst e;rcases hv with hv|hv
   .exact absurd h2 (hv cs j f c h1)
   .exact absurd rfl (hv.2 j)
  .obtain⟨b2,q1,q2⟩:=hbox m cs h1;rw[h3]at q1;have hi:b'=b2:=by simpa using q1
   subst hi;have hj:b'≠b:=λe'=>e (hinj _ _ _ _ _ (e'▸q2) hs).1;exact⟨h0,cs,b',f,c,by rw[hg m e];exact h1,h2,h3,by rw[cell_of_heap (hp.block b' hj)];exact h4⟩
 |.baddr m o,_,h=>by
  obtain⟨h0,cs,b',h1,h2,h3⟩:=h;by_cases e:m=s
  .subst e;rcases hst with⟨_,cs',_,h'⟩|⟨_,_,_,_,_,h',_⟩
   .exact⟨h0,cs',b',h',h2,h3⟩
   .rw[h1]at h';cases h'
  .exact⟨h0,cs,b',by rw[hg m e];exact h1,h2,h3⟩
 |.faddr f cs,_,h=>by
  obtain⟨b',o,vs,h1,h2,h3⟩:=h;exact⟨b',o,vs,h1,h2.poke hp hF,λj v hv=>⟨(h3 j v hv).1,by rw[hF _ _ (h3 j v hv).1];exact(h3 j v hv).2⟩⟩
 |.oaddr m i o,_,h=>by
  obtain⟨h0,t,xs,b',cap,f,h1,h2,h3,h4,h5⟩:=h;by_cases e:m=s
  .subst e;rcases hst with⟨_,cs',h',_⟩|⟨t',f',hk,f2,hl,h',hh,hlen⟩
   .rw[h1]at h';cases h'
   .rw[h1]at h';cases h';exact⟨h0,t,hl,b',cap,f2,hh,by rw[hlen];exact h2,h3,by rw[hlen];exact h4,h5⟩
  .exact⟨h0,t,xs,b',cap,f,by rw[hg m e];exact h1,h2,h3,h4,h5⟩
theorem SR.pokeFree{w w1:World}{F:Fz}{B:Nat}{b:Nat}(hp:Pk w b w1)(hF:Df F w w1){tm:Nat->Value}{g:Get}{ow:Nat->Option Nat->Option Nat}
  (hs:∀s i,ow s i≠some b) (hbox:∀m cs,g m=.box cs->∃b',tm m=.pointer (some ⟨b',0,none⟩)/\ow m none=some b') {n:Nat} :
  ∀ {av:AV},SR F B w tm g ow n av->SR F B w1 tm g ow n av
 |.dead,_=>trivial
 |.v k c,h=>VR.poke (av:=.v k c) hp hF (hs n) h
 |.agg f cs,h=>VR.poke (av:=.agg f cs) hp hF (hs n) h
 |.tup l,h=>VR.poke (av:=.tup l) hp hF (hs n) h
 |.box cs,h=>VR.poke (av:=.box cs) hp hF (hs n) h
 |.cond k a,h=>⟨h.1,h.2.1,λhb=>SR.pokeFree hp hF hs hbox (h.2.2.1 hb),h.2.2.2⟩
 |.view m none,h=>h
 |.view m (some j),h=>by
  obtain⟨h0,cs,b',f,c,h1,h2,h3,h4⟩:=h;obtain⟨b2,q1,q2⟩:=hbox m cs h1;rw[h3]at q1;have hh:b'=b2:=by simpa using q1
  subst hh;have hi:b'≠b:=λe'=>hs m none (e'▸q2);exact⟨h0,cs,b',f,c,h1,h2,h3,by rw[cell_of_heap (hp.block b' hi)];exact h4⟩
 |.baddr m o,h=>h
 |.faddr f cs,h=>by
  obtain⟨b',o,vs,h1,h2,h3⟩:=h;exact⟨b',o,vs,h1,h2.poke hp hF,λj v hv=>⟨(h3 j v hv).1,by rw[hF _ _ (h3 j v hv).1];exact(h3 j v hv).2⟩⟩
 |.oaddr m i o,h=>h
theorem SR.ext{w:World}{F F':Fz}{B:Nat}(hsub:∀b o,F b o->F' b o){tm:Nat->Value}{g:Get}{ow:Nat->Option Nat->Option Nat}
  (hnew:∀b o,F' b o->F b o\/∀s i,ow s i≠some b) {n:Nat}:∀ {av:AV},SR F B w tm g ow n av->SR F' B w tm g ow n av:=by
 have rc:∀ {lo:Nat}{c:C}{v:Value},RC F lo w c v->RC F' lo w c v:=λh=>h.mono hsub (aau _) (λ_ _ _=>rfl)
 have acc:∀ {lo:Nat}{i:Option Nat}{c:C}{v:Value},Ca F lo w (ow n i) c v->Ca F' lo w (ow n i) c v:=λ{lo i c v} h=>by
  obtain⟨h1,h2⟩:=h;refine⟨rc h1,?_⟩;rcases h2 with h2|⟨t,xs,b,cap,cs,e1,e2,e3,e4,e5,e6⟩
  .exact .inl h2
  .exact .inr ⟨t,xs,b,cap,cs,e1,e2,e3,e4,e5,λo ho hb=>(hnew b o hb).elim (e6 o ho) (λhh=>hh n i e3)⟩
 intro av
 induction av with
 |dead=>exact λ_=>trivial
 |v k c=>
  intro h;cases k with
  |sh=>exact rc h
  |fr=>exact rc h
  |acc f=>exact acc h
  |own f=>
   rcases h with h|⟨t,xs,b,cap,cs,vs,e1,e2,e3,e4,e5,hi,e6,e7,e8,e9⟩
   .exact .inl h
   exact .inr ⟨t,xs,b,cap,cs,vs,e1,e2,e3,e4,e5,hi,e6,λo hb=>(hnew b o hb).elim (e7 o) (λhh=>hh n none e3),e8,λi j x c hx hc=>rc (e9 i j x c hx hc)⟩
 |agg f cs=>rintro⟨vs,e,h⟩;exact⟨vs,e,h.mono hsub (aau _) (λ_ _ _=>rfl)⟩
 |tup l=>rintro⟨vs,e,h⟩;exact⟨vs,e,h.mono hsub (aau _) (λ_ _ _=>rfl)⟩
 |box cs=>
  rintro⟨b,vs,e1,e2,e3,e4,e5,e6⟩;refine⟨b,vs,e1,e2,e3,λo hb=>(hnew b o hb).elim (e4 o) (λhh=>hh n none e2),e5,λj kc u hk hu=>?_⟩;have:=e6 j kc u hk hu;obtain⟨k,c⟩:=kc;cases k with
  |sh=>exact rc this
  |fr=>exact rc this
  |acc f=>exact acc this
  |own f=>exact this
 |cond k a ih=>intro h;exact⟨h.1,h.2.1,λhb=>ih (h.2.2.1 hb),h.2.2.2⟩
 |view m o=>cases o<;>exact λh=>h
 |baddr m o=>exact λh=>h
 |faddr f cs=>rintro⟨b,o,vs,e1,e2,e3⟩;exact⟨b,o,vs,e1,e2.mono hsub (aau _) (λ_ _ _=>rfl),λj v hv=>⟨hsub _ _ (e3 j v hv).1,(e3 j v hv).2⟩⟩
 |oaddr m i o=>exact λh=>h
theorem ja.box{B:Nat}{IoB:List Nat}{F0 F:Fz}{e:Env}{tm:Nat->Value}{w:World}{ow:Nat->Option Nat->Option Nat}(hs:ja B IoB F0 e tm w F ow){m:Nat}{cs:List (K×C)}(h:da e m=.box cs) :
  ∃ b vs,tm m=.pointer (some ⟨b,0,none⟩)/\ow m none=some b/\Blk w b vs/\(∀o,¬ F b o)/\vs.length=cs.length /\
    ∀j kc u,cs[j]? = some kc->vs[j]? = some u->Eb F B w (ow m (some j)) kc u:=by
 have:=hs.sr m;rw[h]at this;exact this
theorem ja.read{B:Nat}{IoB:List Nat}{F0 F:Fz}{e:Env}{tm:Nat->Value}{w w1:World}{ow:Nat->Option Nat->Option Nat}(hs:ja B IoB F0 e tm w F ow){s b:Nat}{c:C}{q p:Int}{sl:Value}
  (he:da e s=.box [(.sh,c),(.fr,.int .i64 q)]) (hb:ow s none=some b) (hp:ns w b [sl,.int .i64 p] w1) (hsl:RC F 0 w c sl) :
  ja B IoB F0 (Ta e s (.box [(.sh,c),(.fr,.int .i64 p)])) tm w1 F ow:=by
 obtain⟨b',vs,q1,q2,q3,q4,q5,q6⟩:=hs.box he;rw[hb]at q2;cases q2;refine⟨hs.sub,hs.new,hs.sub.pk hs.live hp.toPk (hs.bd _ _ _ hb).2 λb o hbo=>?_,hs.inj,λn i b hn=>by rw[hp.size];exact hs.bd n i b hn,λn=>?_⟩
 .rw[hp.same q4 _ _ hbo];exact hs.live b o hbo
 .rw[Ka];by_cases hn:n=s
  .rw[if_pos hn,hn];refine⟨b,[sl,.int .i64 p],q1,hb,hp.blk,q4,rfl,λj kc u hk hu=>?_⟩
   match j,hk,hu with
   |0,hk,hu=>
    simp at hk hu;subst hk;subst hu;exact RC.poke hp.toPk (hp.same q4) hsl
   |1,hk,hu=>
    simp at hk hu;subst hk;subst hu;exact RC.int _ _
   |j+2,hk,hu=>simp at hk
  .rw[if_neg hn];have hi:∀m,m≠s->da (Ta e s (.box [(.sh,c),(.fr,.int .i64 p)])) m=da e m:=λm hm=>by rw[Ka,if_neg hm]
   refine SR.poke hp.toPk (hp.same q4) hb (.inl ⟨_,_,he,by rw[Ka,if_pos rfl]⟩) hi (λ_ _=>rfl) hs.inj (λm cs hm=>?_) hn (.inl ?_) (hs.sr n)
   .obtain⟨b2,hj,e1,e2,_⟩:=hs.box hm;exact⟨b2,e1,e2⟩
   .intro cs j f c' hh;rw[he]at hh;cases hh
    match j with
    |0=>simp
    |1=>simp
    |j+2=>simp
theorem ja.grow{B:Nat}{IoB:List Nat}{F0 F F':Fz}{e:Env}{tm:Nat->Value}{w w':World}{ow:Nat->Option Nat->Option Nat}(hs:ja B IoB F0 e tm w F ow)(hBw:B<=w.heap.size)(hg:Ua F w F' w')(hl':Live F' w') :
  ja B IoB F0 e tm w' F' ow:=by
 have h2:Live F w:=hs.live;refine⟨hs.sub.to λb o hb=>hg.sub _ _ (hs.sub _ _ hb),?_,hl',hs.inj,?_,λn=>(hs.sr n).grow hg h2⟩
 .intro b o hb;rcases hg.new b o hb with hb|hb
  .exact hs.new b o hb
  .exact .inr (.inl (aaB hBw hb))
 .intro s i b hb;exact⟨aaC (hs.bd s i b hb).1 hg.size,(hs.bd s i b hb).2⟩
theorem CZ{w w':World}{b:Nat}{us vs:List Value}(hb:Blk w b us)(hb':Blk w' b vs)(hl:us.length=vs.length):∃w2,ns w2 b vs w'/\w2.heap[b]? = w.heap[b]?:=by
 have _:=hl;obtain⟨e,he⟩:=hb;have hh:=hb'.lt;refine⟨{ w' with heap:=w'.heap.setIfInBounds b (.cells us.toArray e (0,0)) },⟨⟨rfl,rfl,rfl,by simp,λk hk=>?_⟩,hb'⟩,?_⟩
 .show w'.heap[k]? = (w'.heap.setIfInBounds b _)[k]?;rw[abv,if_neg (λe=>hk e.symm)]
 .show(w'.heap.setIfInBounds b _)[b]? = w.heap[b]?;rw[abv,if_pos rfl,if_pos hh,he]
theorem ja.after{B:Nat}{IoB:List Nat}{F0 F:Fz}{e e1:Env}{tm:Nat->Value}{w w':World}{ow:Nat->Option Nat->Option Nat}(hs:ja B IoB F0 e tm w F ow)(hBw:B<=w.heap.size)
  {av:AV}{io:Option (Nat×Int)}{v:Value} (ha:After F B w tm (da e) ow av io v w') {k:Key} (hk:Rb k=true) (hm:Uc e k io=some e1) :
  ∃ F' owd,ja B IoB F0 e1 tm w' F' ow/\(∀j,j<B->j ∉ IoB->w'.heap[j]? = w.heap[j]?)/\w'.os=w.os/\w'.tape=w.tape/\w'.output=w.output/\w.heap.size<=w'.heap.size/\(∀(k:Nat) (o:Obj),w.heap[k]? = some o->isC o=false->w'.heap[k]? = some o) /\
    (∀i b,owd i=some b->B<=b/\b<w'.heap.size/\∀s i',ow s i'≠some b)/\(∀i i' b,owd i=some b->owd i'=some b->i=i')/\AVR F' B w' tm (da e1) owd av v:=by
 obtain⟨F',owd,hl,hf,hv,hn,hw⟩:=ha
 have hu:∀i b,owd i=some b->B<=b/\b<w'.heap.size/\∀s i',ow s i'≠some b:=λi b hb=>
  ⟨aaB hBw (hf i b hb).1,(hf i b hb).2,λs i' h=>absurd (hs.bd s i' b h).1 (by have:=(hf i b hb).1;omega)⟩
 cases io with
 |none=>
  simp only[Uc,aal]at hm;subst hm;have hg:Ua F w F' w':=⟨hl.os,hl.tape,hl.output,hl.size,λj hj=>hl.block j hj (by simp),hl.sub,hl.new⟩;exact⟨F',owd,hs.grow hBw hg hl.live,λj hj _=>hg.block j (by omega),hl.os,hl.tape,hl.output,hl.size,λk o hk _=>by rw[hg.block k (aaI.1 hk).1];exact hk,hu,hv,hn⟩
 |some sp=>
  obtain⟨s,p⟩:=sp;obtain⟨hi,b,bs,q,sl,hb,he,hr,ih⟩:=hw s p rfl;have hq:=hs.bd s none b hb
  have ht:e1=Ta e s (.box [(.sh,.lst .byte bs),(.fr,.int .i64 p)]):=by
   simp only[Uc,he]at hm;split at hm
   .simp only[aal]at hm;exact hm.symm
   .rw[hk]at hm;simp only[cond_true,aal]at hm;exact hm.symm
  subst ht;obtain⟨b',vs,q1,q2,q3,q4,q5,q6⟩:=hs.box he;rw[hb]at q2;cases q2;obtain⟨w2,hp,it⟩:=CZ q3 hr q5;have hh:∀o,¬ F' b o:=λo ho=>(hl.new b o ho).elim (q4 o) (λh=>by omega)
  have hg:Ua F w F' w2:=by
   refine⟨hp.os.symm.trans hl.os,hp.tape.symm.trans hl.tape,hp.output.symm.trans hl.output,by rw[<-hp.size];exact hl.size,λj hj=>?_,hl.sub,hl.new⟩;by_cases hjb:j=b
   .rw[hjb,it]
   .rw[<-hp.block j hjb];exact hl.block j hj (by simp[hb];exact λe=>hjb e.symm)
  have hy:Live F' w2:=(hs.sub.to λb o h=>hl.sub _ _ (hs.sub _ _ h)).live hl.live (λk hk _=>(hp.block k λe=>hk (e▸hq.2)).symm) λb' o ho=>by
   rw[<-hp.same hh b' o ho];exact hl.live b' o ho
  have hx:=(hs.grow hBw hg hy).read he hb hp (ih.mono (λ_ _ h=>h) (aau _) (λb' o ho=>(hp.same hh b' o ho).symm));refine⟨F',owd,hx,λj hj hjio=>?_,hl.os,hl.tape,hl.output,hl.size,λk o hk hc=>?_,hu,hv,?_⟩
  .have hz:b≠j:=λe=>by
    subst e;exact hq.2.elim (λh=>by omega) hjio
   exact hl.block j (by omega) (by simp[hb];exact hz)
  .have hz:b≠k:=λe=>by
    rw[e]at q3;rw[q3.isC hk]at hc;cases hc
   rw[hl.block k (aaI.1 hk).1 (by simp[hb];exact hz)];exact hk
  .cases av with
   |view n i=>exact hi.elim
   |baddr n i=>exact hi.elim
   |faddr f cs=>exact hi.elim
   |oaddr n i j=>exact hi.elim
   |cond k a=>exact hi.elim
   |_=>exact hi
theorem DZ{B:Nat}{IoB:List Nat}{F0 F:Fz}{e e1:Env}{tm:Nat->Value}{w:World}{ow:Nat->Option Nat->Option Nat}(hs:ja B IoB F0 e tm w F ow){io:Option (Nat×Int)}{k:Key}(hk:Rb k=false)
  (hm:Uc e k io=some e1):ja B IoB F0 e1 tm w F ow/\∀n,da e1 n=da e n:=by
 cases io with
 |none=>simp only[Uc,aal]at hm;subst hm;exact⟨hs,λ_=>rfl⟩
 |some sp=>
  obtain⟨s,p⟩:=sp;simp only[Uc]at hm;split at hm
  .rename_i c q he;split at hm
   .simp[Rb]at hk
   .rw[hk]at hm;simp only[cond_false,aal]at hm;subst hm
    have hi:∀n,da (Ta e s (.box [(.sh,c),(.fr,.int .i64 q)])) n=da e n:=λn=>by
     rw[Ka];split
     .rename_i h;rw[h,he]
     .rfl
    have hh:da (Ta e s (.box [(.sh,c),(.fr,.int .i64 q)]))=da e:=funext hi;exact⟨⟨hs.sub,hs.new,hs.live,hs.inj,hs.bd,λn=>by rw[hh];exact hs.sr n⟩,hi⟩
  .cases hm
theorem SO(a:Act)(d:Nat):(∃v,a.tmps[d]? = some v/\a.tmps.getD d undef=v)\/(a.tmps[d]? = none/\a.tmps.getD d undef=undef):=by
 rw[abx];cases h:a.tmps[d]? with
 |none=>exact .inr ⟨rfl,rfl⟩
 |some v=>exact .inl ⟨v,rfl,rfl⟩
theorem EZ{F:Fz}{B:Nat}{w:World}{a:Act}{ge raw:Get}{ow:Nat->Option Nat->Option Nat}(hraw:cl F B w (λn=>a.tmps.getD n undef) ge raw ow)
  {ops:Array Oper}{o:Oper}{k:Key} (hg:guardOf raw (ops.toList.map (·.dst)) o.guard=some k) :
  SR.KeyT (λn=>a.tmps.getD n undef) k/\abb o (abw ops a.tmps)=Rb k/\∀d b x,(d,b,x)∈k->Ga (ge d)=false:=by
 unfold abb;cases hgd:o.guard with
 |none=>
  rw[hgd]at hg;simp only[guardOf,aal]at hg;subst hg;exact⟨trivial,rfl,λd b x hm=>by simp at hm⟩
 |some jb=>
  obtain⟨j,b⟩:=jb;rw[hgd]at hg;simp only[guardOf]at hg;split at hg
  .rename_i d hd
   have hh:(ops[j]?).bind (·.dst)=some d:=by
    rw[aaz]at hd;rw[<-abQ];cases hj:ops.toList[j]? with
    |none=>rw[hj]at hd;simp at hd
    |some oj=>rw[hj]at hd;simp at hd;simp[hd]
   have hy:abw ops a.tmps j=match a.tmps[d]? with|some (.bool b)=>some b|_=>none:=by
    unfold abw;rw[hh];rfl
   have hn:∀ {x:Bool},a.tmps.getD d undef=.bool x->abw ops a.tmps j=some x:=by
    intro x hx;rw[hy];rcases SO a d with⟨v,h1,h2⟩|⟨h1,h2⟩
    .rw[h1];rw[h2]at hx;rw[hx]
    .rw[h2]at hx;cases hx
   have ho:a.tmps.getD d undef=undef->abw ops a.tmps j=none:=by
    intro hx;rw[hy];rcases SO a d with⟨v,h1,h2⟩|⟨h1,h2⟩
    .rw[h1];rw[h2]at hx;rw[hx];rfl
    .rw[h1]
   have hl:=hraw d;split at hg
   .rename_i kk x hgx;simp only[aal]at hg;subst hg;rcases hl with hl|⟨hl,hi⟩
    .rw[hl]at hgx;cases hgx
    .rw[hgx]at hl;have hv:a.tmps.getD d undef=.bool x:=Aj (hl.avr (λ_ _ e=>by cases e));refine⟨⟨trivial,λ_=>hv,λh=>by simp[Rb]at h⟩,?_,λd' b' x' hm=>?_⟩
     .simp only[hn hv];cases b<;>cases x<;>rfl
     .simp only[List.mem_singleton,aap]at hm;obtain⟨rfl,_,_⟩:=hm;rw[hi,hgx];rfl
   .rename_i k' kk x hgx;simp only[aal]at hg;subst hg;rcases hl with hl|⟨hl,hi⟩
    .rw[hl]at hgx;cases hgx
    .rw[hgx]at hl;obtain⟨h1,h2,h3,h4⟩:=hl;have hv:Rb k'=true->a.tmps.getD d undef=.bool x:=λhk=>Aj ((h3 hk).avr (λ_ _ e=>by cases e));refine⟨⟨h2,hv,h4⟩,?_,λd' b' x' hm=>?_⟩
     .cases hk:Rb k' with
      |true=>
       simp only[hn (hv hk)];cases b<;>cases x<;>simp[Rb,hk]
      |false=>
       simp only[ho (h4 hk)];cases b<;>cases x<;>simp[Rb,hk]
     .simp only[aaO,aap]at hm;rcases hm with⟨rfl,_,_⟩|hm
      .rw[hi,hgx];rfl
      .exact (h1 d' b' x' hm).2
   .cases hg
  .cases hg
theorem Bj{d:Nat}:∀ {k:Key},Qr d k=false->∀ {n:Nat}{b x:Bool},(n,b,x)∈k->n≠d
 |[],_,_,_,_,hm=>by simp at hm
 |(m,b',x')::k,h,n,b,x,hm=>by
  simp only[Qr]at h;cases hb:aaq m d with
  |true=>rw[hb]at h;simp at h
  |false=>
   rw[hb]at h;simp only[aaO,aap]at hm;rcases hm with⟨rfl,_,_⟩|hm
   .intro e;rw[e,aaJ]at hb;exact absurd hb (by simp)
   .exact Bj h hm
theorem bD{k:Key}(hk:Rb k=true):∀ {obs:List Prop},(∀p∈Ah k obs,p)->∀p∈obs,p
 |[],_,p,hm=>by simp at hm
 |q::r,h,p,hm=>by
  cases k with
  |nil=>
   simp only[aaO]at hm;rcases hm with rfl|hm
   .exact h p (by simp[Ah])
   .exact bD hk (λp hp=>h p (by simp[Ah,hp])) p hm
  |cons t k=>
   simp only[aaO]at hm;rcases hm with rfl|hm
   .exact h (Rb (t::k)=true->p) (by simp[Ah]) hk
   .exact bD hk (λp hp=>h p (by simp only[Ah,aaO];exact .inr hp)) p hm
theorem Sim.raw{B:Nat}{IoB:List Nat}{F0 F:Fz}{e:Env}{a:Act}{w:World}{ow:Nat->Option Nat->Option Nat}(hx:ja B IoB F0 e (λn=>a.tmps.getD n undef) w F ow)
  {g:Get} (hg:∀n,g n=.dead\/g n=da e n):cl F B w (λn=>a.tmps.getD n undef) (da e) g ow:=λn=>by
 rcases hg n with h|h
 .exact .inl h
 .right;rw[h];exact⟨hx.sr n,rfl⟩
theorem FZ{wf:Env->Nat->AV->Option Env}(hwf:wf=Qg\/wf=setW){e e':Env}{d:Nat}{av:AV}(h:wf e d av=some e'):e'=put e d av:=by
 rcases hwf with rfl|rfl
 .simpa [Qg] using h.symm
 .unfold setW at h;unfold put;split at h
  .simpa using h.symm
  .cases h
section
variable {P:aaF}{tt:TT} (htt:dc P tt) {sp:SP} (hsp:∀f s,spk sp f=some s->Con P f s)
include htt hsp
theorem qs{N:NP}{B:Nat}{IoB:List Nat}{W0:World}{F0:Fz}{e e':Env}{a:Act}{w:World}(hs:Sim N B IoB W0 F0 e a w){g:Get}(hg:∀n,g n=.dead\/g n=da e n){ops:Array Oper}{o:Oper}
  {wf:Env->Nat->AV->Option Env} (hwf:wf=Qg\/wf=setW) {obs:List Prop} (hst:stepW tt sp (ops.toList.map (·.dst)) wf g e o=some (e',obs)) (ho:∀p∈obs,p) (hdN:∀d,o.dst=some d->N.ok d=true)
  {next:Act->World->Prop}{Q:Exit->Act->World->Prop} (hn:∀a' w',Sim N B IoB W0 F0 e' a' w'->next a' w') :
  if abb o (abw ops a.tmps) then o.wp P a w next Q else next (a.put o.dst undef) w:=by
 obtain⟨F,ow,hx⟩:=hs.rep;have ie:=Sim.raw hx hg;unfold stepW at hst;cases hgo:guardOf g (ops.toList.map (·.dst)) o.guard with
 |none=>rw[hgo]at hst;simp at hst
 |some k=>
  rw[hgo]at hst;obtain⟨hz,kk,hy⟩:=EZ ie hgo;simp only[]at hst;cases hsev:sev tt sp g k (λn=>strip k (g n)) o.type o.op with
  |none=>rw[hsev]at hst;simp at hst
  |some out=>
   obtain⟨av,km,io⟩:=out;cases hdst:o.dst with
   |none=>rw[hsev,hdst]at hst;simp at hst
   |some d=>
    rw[hsev,hdst]at hst;simp only[]at hst;cases hmv:Uc e k io with
    |none=>rw[hmv]at hst;simp at hst
    |some e1=>
     rw[hmv]at hst;cases hbk:(bears av&&!k.isEmpty) with
     |true=>rw[hbk]at hst;simp at hst
     |false=>
      rw[hbk]at hst;simp only[]at hst;cases hos:(Bh d (Pg k av)||(!k.isEmpty&&!Ga (da e1 d))) with
      |true=>rw[hos]at hst;simp at hst
      |false=>
       rw[hos]at hst;cases hwe:wf e1 d (Pg k av) with
       |none=>rw[hwe]at hst;simp at hst
       |some e2=>
        rw[hwe]at hst;simp only[aal,aap]at hst;obtain⟨rfl,rfl⟩:=hst;have hr:=FZ hwf hwe;subst hr;have hd:d<N.n:=NP.ok_lt (hdN d hdst);have hq:d<a.tmps.size:=by rw[hs.tmps.size];exact hd
        have hh:B<=w.heap.size:=aaB hs.base hs.kept.size;simp only[aba]at hos;obtain⟨it,ix⟩:=hos;have ki:∀v,(λn=>(a.put (some d) v).tmps.getD n undef)=λn=>if n=d then v else a.tmps.getD n undef:=λv=>funext (Ja a d v hq)
        rw[kk];cases hkb:Rb k with
        |true=>
         rw[if_pos rfl];refine AZ htt hsp hx.live hh ie hz hkb hx.inj (λs i b h=>(hx.bd s i b h).1) (λm f c hm=>?_) hsev (bD hkb ho) (λv w' ha=>?_)
         .have:=hx.sr m;rw[hm]at this;exact this
         .obtain⟨F',kn,hx1,hl,hf,jb,kj,ju,ih,ht,hw,hi⟩:=hx.after hh ha hkb hmv;rw[hdst];apply hn;refine⟨hs.defers,hs.tmps.put (hdN d hdst) _,hs.base,hs.f0,?_,F',λs=>if s=d then kn else ow s,?_⟩
          .refine⟨hf.trans hs.kept.os,jb.trans hs.kept.tape,kj.trans hs.kept.output,?_,λj hj hio=>?_,λk o hk hc=>ih k o (hs.kept.obj k o hk hc) hc⟩
           .have:=hs.kept.size;omega
           .rw[hl j hj hio];exact hs.kept.block j hj hio
          .rw[ki v];refine hx1.put (by omega) (Ua.refl F' w') hx1.live ht hw (λg' hg1' hg2'=>?_);cases k with
           |nil=>exact hi.sr it hg1'
           |cons t k=>
            have hp:Ga (da e1 d)=true:=by simpa using ix
            have hu:=hg2' hp;simp only[Pg,Bh,aba]at it;refine⟨λn b x hm=>⟨Bj it.1 hm,?_⟩,KeyT.other (tm:=λn=>a.tmps.getD n undef) (λn hn=>by simp[hn]) (λn b x hm=>Bj it.1 hm) hz,λ_=>hi.sr it.2 hg1',λh=>by rw[hkb]at h;exact absurd h (by simp)⟩;have he:=Bj it.1 hm;rw[hu n he];have:=hy n b x hm;cases io with
            |none=>simp only[Uc,aal]at hmv;subst hmv;exact this
            |some sp0=>
             obtain⟨s0,p0⟩:=sp0;simp only[Uc]at hmv;split at hmv
             .simp only[aal]at hmv;subst hmv;rw[Ka];split
              .rfl
              .exact this
             .cases hmv
        |false=>
         rw[if_neg (by simp)];obtain⟨hx1,hv⟩:=DZ hx hkb hmv;apply hn;refine⟨hs.defers,hs.tmps.put (hdN d hdst) _,hs.base,hs.f0,hs.kept,F,λs=>if s=d then(λ_=>none) else ow s,?_⟩;rw[ki undef];refine hx1.put hh (Ua.refl F w) hx.live (λi b h=>by simp at h) (λi i' b h=>by simp at h) (λg' hg1' hg2'=>?_);cases k with
         |nil=>simp[Rb]at hkb
         |cons t k=>
          have hp:Ga (da e1 d)=true:=by simpa using ix
          have hu:=hg2' hp;simp only[Pg,Bh,aba]at it;refine⟨λn b x hm=>⟨Bj it.1 hm,?_⟩,KeyT.other (tm:=λn=>a.tmps.getD n undef) (λn hn=>by simp[hn]) (λn b x hm=>Bj it.1 hm) hz,λh=>by rw[hkb]at h;exact absurd h (by simp),λ_=>by simp⟩;rw[hu n (Bj it.1 hm),hv n];exact hy n b x hm
end
section
variable {B:Nat}{IoB:List Nat}{F0 F:Fz}{e:Env}{tm:Nat->Value}{w:World}{ow:Nat->Option Nat->Option Nat}
theorem ja.congr(hs:ja B IoB F0 e tm w F ow){e':Env}(h:∀n,da e' n=da e n):ja B IoB F0 e' tm w F ow:=by
 have hf:da e'=da e:=funext h;exact⟨hs.sub,hs.new,hs.live,hs.inj,hs.bd,λn=>by rw[hf];exact hs.sr n⟩
theorem Fh(e:Env)(d:Nat)(a:AV)(n:Nat):da (put e d a) n=if n=d then a else match Ga (da e d) with|true=>da e n|false=>unview d (da e d) (da e n):=by
 unfold Go.Proofs.YteogppapbognjaaGreatDoor.put;cases Ga (da e d) with
 |true=>exact Ka e d a n
 |false=>simp only[];rw[Ka];split
         .rfl
         .exact mg _ (Wr _ _) e n
theorem ja.unviewAt(hs:ja B IoB F0 e tm w F ow)(s:Nat)(x:AV)(hx:∀g ow',SR F B w tm g ow' s x) :
  ja B IoB F0 (Ta (mc (unview s (da e s)) e) s x) tm w F (λn=>if n=s then λ_=>none else ow n):=by
 have hh:∀n,n≠s->da (Ta (mc (unview s (da e s)) e) s x) n=unview s (da e s) (da e n):=λn hn=>by
  rw[Ka,if_neg hn,mg _ (Wr _ _)]
 refine⟨hs.sub,hs.new,hs.live,?_,?_,?_⟩
 .intro s1 i1 s2 i2 b h1 h2;by_cases e1:s1=s
  .simp[e1]at h1
  .by_cases e2:s2=s
   .simp[e2]at h2
   .simp only[e1,e2,if_false]at h1 h2;exact hs.inj _ _ _ _ _ h1 h2
 .intro s1 i1 b h1;by_cases e1:s1=s
  .simp[e1]at h1
  .simp only[e1,if_false]at h1;exact hs.bd _ _ _ h1
 .intro n;by_cases e1:n=s
  .rw[Ka,if_pos e1,e1];exact hx _ _
  .rw[hh n e1];exact SR.unview e1 (λ_ _=>rfl) (λm hm hb=>by rw[hh m hm,Xr _ _ hb]) (λm hm=>by simp[hm]) (hs.sr s) (hs.sr n)
theorem ja.fillDead(hs:ja B IoB F0 e tm w F ow){s:Nat}(hd:Ga (da e s)=true){x:AV}(hx:SR F B w tm (da (Ta e s x)) ow s x) :
  ja B IoB F0 (Ta e s x) tm w F ow:=by
 refine⟨hs.sub,hs.new,hs.live,hs.inj,hs.bd,λn=>?_⟩;by_cases e1:n=s
 .rw[Ka,if_pos e1,e1];exact hx
 .rw[Ka,if_neg e1];exact SR.dead e1 hd (λ_ _=>rfl) (λm hm=>by rw[Ka,if_neg hm]) (λ_ _=>rfl) (hs.sr n)
theorem ja.putG{F':Fz}{w':World}{owd:Option Nat->Option Nat}{d:Nat}{av:AV}{v:Value}
  (hs:ja B IoB F0 e tm w F ow) (hBw:B<=w.heap.size) (hg:Ua F w F' w') (hl':Live F' w') (hf:∀i b,owd i=some b->b<w'.heap.size/\Mn B IoB b)
  (hd:∀i b,owd i=some b->∀s' i',s'≠d->ow s' i'≠some b)
  (hi:∀i i' b,owd i=some b->owd i'=some b->i=i')
  (hav : ∀g',(∀n,n≠d->bears (da e n)=true->g' n=da e n)->(Ga (da e d)=true->∀n,n≠d->g' n=da e n) ->
        SR F' B w' (λn=>if n=d then v else tm n) g' (λs=>if s=d then owd else ow s) d av) :
  ja B IoB F0 (Go.Proofs.YteogppapbognjaaGreatDoor.put e d av) (λn=>if n=d then v else tm n) w' F' (λs=>if s=d then owd else ow s):=by
 have h2:Live F w:=hs.live;refine⟨hs.sub.to λb o hb=>hg.sub _ _ (hs.sub _ _ hb),?_,hl',?_,?_,?_⟩
 .intro b o hb;rcases hg.new b o hb with hb|hb
  .exact hs.new b o hb
  .exact .inr (.inl (aaB hBw hb))
 .intro s i s' i' b hk hl;by_cases e1:s=d<;>by_cases e2:s'=d<;>simp only[e1,e2,if_true,if_false]at hk hl
  .exact⟨by rw[e1,e2],hi i i' b hk hl⟩
  .exact absurd hl (hd i b hk s' i' e2)
  .exact absurd hk (hd i' b hl s i e1)
  .exact hs.inj s i s' i' b hk hl
 .intro s i b hk;by_cases e1:s=d
  .simp only[e1,if_true]at hk;exact⟨(hf i b hk).1,(hf i b hk).2⟩
  .simp only[e1,if_false]at hk;have:=hs.bd s i b hk;exact⟨aaC this.1 hg.size,this.2⟩
 .have ht:∀n,n≠d->(λn=>if n=d then v else tm n) n=tm n:=λn hn=>by simp[hn]
  have ho:∀n,n≠d->(λs=>if s=d then owd else ow s) n=ow n:=λn hn=>by simp[hn]
  intro s;by_cases e1:s=d
  .rw[e1,Fh,if_pos rfl];refine hav _ (λn hn hb=>?_) (λhdd n hn=>?_)
   .rw[Fh,if_neg hn];split
    .rfl
    .exact Xr _ _ hb
   .rw[Fh,if_neg hn,hdd]
  .cases hdd:Ga (da e d) with
   |true=>
    have hh:∀n,n≠d->da (Go.Proofs.YteogppapbognjaaGreatDoor.put e d av) n=da e n:=λn hn=>by rw[Fh,if_neg hn,hdd]
    rw[hh s e1];exact SR.dead e1 hdd ht (λn hn=>hh n hn) ho ((hs.sr s).grow hg h2)
   |false=>
    have hj:∀n,n≠d->da (Go.Proofs.YteogppapbognjaaGreatDoor.put e d av) n=unview d (da e d) (da e n):=λn hn=>by rw[Fh,if_neg hn,hdd]
    rw[hj s e1];exact SR.unview e1 ht (λn hn hb=>by rw[hj n hn,Xr _ _ hb]) ho ((hs.sr d).grow hg h2) ((hs.sr s).grow hg h2)
theorem ws{x:AV}(hb:bears x=true){g:Get}{ow:Nat->Option Nat->Option Nat}{s:Nat}:SR F B w tm g ow s x=VR F B w (ow s) x (tm s):=by
 cases x with
 |v k c=>rfl
 |box cs=>rfl
 |_=>simp[bears]at hb
theorem ja.assign(hs:ja B IoB F0 e tm w F ow)(hBw:B<=w.heap.size){s d:Nat}(hsd:s≠d)(hb:bears (da e s)=true) :
  ∃ow',ja B IoB F0 (Ta (Go.Proofs.YteogppapbognjaaGreatDoor.put (mc (unview s (da e s)) e) d (da e s)) s (.view d none)) (λn=>if n=d then tm s else tm n) w F ow':=by
 have h1:=hs.unviewAt s .dead (λ_ _=>trivial)
 have h2:=h1.putG (d:=d) (av:=da e s) (v:=tm s) (owd:=ow s) hBw (Ua.refl F w) hs.live (λi b h=>hs.bd s i b h)
  (λi b h s' i' _ h'=>by
    by_cases e1:s'=s
    .simp[e1]at h'
    .simp only[e1,if_false]at h';exact e1 (hs.inj _ _ _ _ _ h' h).1)
  (λi i' b h h'=>(hs.inj _ _ _ _ _ h h').2)
  (λg' _ _=>by
    rw[ws hb];simp only[if_true];have:=hs.sr s;rw[ws hb]at this;exact this)
 have hi:∀n,n≠s->da (Go.Proofs.YteogppapbognjaaGreatDoor.put (mc (unview s (da e s)) e) d (da e s)) n=da (Go.Proofs.YteogppapbognjaaGreatDoor.put (Ta (mc (unview s (da e s)) e) s .dead) d (da e s)) n:=λn hn=>by
  rw[Fh,Fh,Ka _ s _ d,if_neg (abF hsd),Ka _ s _ n,if_neg hn]
 have hh:Ga (da (Go.Proofs.YteogppapbognjaaGreatDoor.put (Ta (mc (unview s (da e s)) e) s .dead) d (da e s)) s)=true:=by
  rw[Fh,if_neg hsd,Ka _ s _ s,if_pos rfl];split<;>rfl
 have h3:=h2.fillDead (x:=.view d none) hh ⟨by simp only[if_true,if_neg hsd],by rw[Ka,if_neg (abF hsd),Fh,if_pos rfl];exact hb,abF hsd⟩;refine⟨_,h3.congr λn=>?_⟩;rw[Ka,Ka];split
 .rfl
 .rename_i hn;exact hi n hn
theorem ja.drop(hs:ja B IoB F0 e tm w F ow)(s:Nat) :
  ja B IoB F0 (uj e s) tm w F (match da e s with|.v (.acc _) _=>λn=>if n=s then λ_=>none else ow n|_=>ow):=by
 unfold uj;cases hg:da e s with
 |v k c=>
  cases k with
  |acc f=>
   simp only[]
   have:=hs.unviewAt s (.v (frK f) c) (λg ow'=>by
    have h:=hs.sr s;rw[hg]at h;exact Ca.plain (h:VR F B w (ow s) (.v (.acc f) c) (tm s)))
   rw[hg]at this;exact this
  |_=>exact hs
 |_=>exact hs
end
section
variable {P:aaF}
theorem GZ{N:NP}{B:Nat}{IoB:List Nat}{W0:World}{F0:Fz}{e e':Env}{a:Act}{w:World}(hs:Sim N B IoB W0 F0 e a w){o:Oper}{s d:Nat}(hop:o.op=.assign (.tmp s))(hd:o.dst=some d)
  (hb:bears (da e s)=true) {obs:List Prop} (hst:yC e s d=some (e',obs)) (hdN:N.ok d=true)
  {next:Act->World->Prop}{Q:Exit->Act->World->Prop} (hn:∀a' w',Sim N B IoB W0 F0 e' a' w'->next a' w'):o.wp P a w next Q:=by
 unfold yC at hst;cases hsd:aaq s d with
 |true=>rw[hsd]at hst;simp at hst
 |false=>
  rw[hsd]at hst;simp only[aal,aap]at hst;obtain⟨rfl,_⟩:=hst;have hi:s≠d:=λe=>by rw[e,aaJ]at hsd;exact absurd hsd (by simp)
  obtain⟨F,ow,hx⟩:=hs.rep;have hh:B<=w.heap.size:=aaB hs.base hs.kept.size;obtain⟨hm,hl⟩:=hx.assign hh hi hb
  have hj:(execOp a.eval o).run P w=.ok (.value (a.tmps.getD s undef)) w:=by
   obtain⟨dst,op,ty,pos,aft,gd⟩:=o;simp only[]at hop;subst hop;rfl
  unfold abE;rw[hj,abe,hd];apply hn;refine⟨hs.defers,hs.tmps.put hdN _,hs.base,hs.f0,hs.kept,F,hm,?_⟩;have hk:(λn=>(a.put (some d) (a.tmps.getD s undef)).tmps.getD n undef)=λn=>if n=d then a.tmps.getD s undef else a.tmps.getD n undef:=funext (Ja a d _ (by rw[hs.tmps.size];exact NP.ok_lt hdN))
  rw[hk];exact hl
end
structure ye(F:Fz)(lo:Nat)(w:World)(t:Ty)(xs:List t.T)(us:List Value):Prop where
 len:us.length=xs.length*t.size
 at_:∀(i j:Nat) (x:t.T) (c:C),xs[i]? = some x->(cells t x)[j]? = some c->∃u,us[i*t.size+j]? = some u/\RC F lo w c u
theorem RC.one{F:Fz}{lo:Nat}{w:World}{c:C}{v:Value}(h:RC F lo w c v):v.oneCell'=true:=by
 cases h<;>rfl
theorem Vg{i j n s:Nat}(hi:i<n)(hj:j<s):i*s+j<n*s:=by
 have:(i+1)*s<=n*s:=aar _ hi;rw[aaT]at this;omega
theorem HZ(t:Ty)(x:t.T){j:Nat}(hj:j<t.size):∃c,(cells t x)[j]? = some c:=by
 have:j<(cells t x).length:=by rw[We];exact hj
 exact⟨_,aam this⟩
theorem ye.one{F:Fz}{lo:Nat}{w:World}{t:Ty}{xs:List t.T}{us:List Value}(h:ye F lo w t xs us):∀u∈us,u.oneCell'=true:=by
 intro u hu;obtain⟨k,hk⟩:=abm.1 hu;have hl:k<xs.length*t.size:=by rw[<-h.len];exact(aan.1 hk).1
 have hi:k / t.size<xs.length:=abV (by rw[aaZ];exact hl);have hj:k % t.size<t.size:=Nat.mod_lt _ (Yk t);obtain⟨c,hc⟩:=HZ t xs[k / t.size] hj;obtain⟨u',hm,hr⟩:=h.at_ _ _ _ c (aam hi) hc;have hh:k / t.size*t.size+k % t.size=k:=by rw[aaZ];exact Nat.div_add_mod k t.size
 rw[hh,hk]at hm;cases hm;exact hr.one
theorem ye.mono{F F':Fz}{lo lo':Nat}{w w':World}{t:Ty}{xs:List t.T}{us:List Value}(h:ye F lo w t xs us)(hF:∀b o,F b o->F' b o)(hlo:lo'<=lo)
  (hw:∀b o,F b o->w'.cell? ⟨b,o,none⟩=w.cell? ⟨b,o,none⟩):ye F' lo' w' t xs us:=⟨h.len,λi j x c hx hc=>let ⟨u,h1,h2⟩:=h.at_ i j x c hx hc;⟨u,h1,h2.mono hF hlo hw⟩⟩
theorem ye.append{F:Fz}{lo:Nat}{w:World}{t:Ty}{xs ys:List t.T}{us vs:List Value}(h:ye F lo w t xs us)(h':ye F lo w t ys vs):ye F lo w t (xs++ys) (us++vs):=by
 refine⟨by rw[aay,aay,h.len,h'.len,aaM],λi j x c hx hc=>?_⟩;have hj:j<t.size:=by rw[<-We t x];exact(aan.1 hc).1
 by_cases hi:i<xs.length
 .rw[aax hi]at hx;obtain⟨u,h1,h2⟩:=h.at_ i j x c hx hc;exact⟨u,by rw[aax (by rw[h.len];exact Vg hi hj)];exact h1,h2⟩
 .rw[aaA (by omega)]at hx;obtain⟨u,h1,h2⟩:=h'.at_ _ j x c hx hc;have hh:xs.length*t.size<=i*t.size:=aar _ (by omega);refine⟨u,?_,h2⟩;rw[aaA (by rw[h.len];omega),h.len];rw[Nat.sub_mul]at h1;rw[show i*t.size+j - xs.length*t.size=i*t.size - xs.length*t.size+j by omega];exact h1
theorem RC.row{F:Fz}{lo:Nat}{w:World}{t:Ty}{xs:List t.T}{b o n cap:Nat}(h:RC F lo w (.lst t xs) (.slice (some ⟨b,o,none⟩) n cap)) :
  n=xs.length/\lo<=b/\xs.length<=cap/\∃us:List Value,ye F lo w t xs us/\∀j u,us[j]? = some u->w.cell? ⟨b,o+j,none⟩=some u/\F b (o+j):=by
 cases h with
 |lst _ _ _ _ _ vs hb hcap hf hc hr=>
  refine⟨rfl,hb,hcap,(abh (xs.length*t.size)).map λk=>vs (k / t.size) (k % t.size),⟨by simp,λi j x c hx hcc=>?_⟩,λj u hu=>?_⟩
  .have hi:=(aan.1 hx).1;have hj:j<t.size:=by rw[<-We t x];exact(aan.1 hcc).1
   refine⟨vs i j,?_,hr i j x c hx hcc⟩;rw[aaz,abr (Vg hi hj)];simp only[abp,aal]
   rw[show(i*t.size+j) / t.size=i by rw[aaZ,Nat.mul_add_div (Yk t),Nat.div_eq_of_lt hj,abo],
    show(i*t.size+j) % t.size=j by rw[aaZ,Nat.mul_add_mod,Nat.mod_eq_of_lt hj]]
  .have hk:j<xs.length*t.size:=by
    have:=(aan.1 hu).1;simpa using this
   rw[aaz,abr hk]at hu;simp only[abp,aal]at hu;have hi:j / t.size<xs.length:=abV (by rw[aaZ];exact hk);have hj:j % t.size<t.size:=Nat.mod_lt _ (Yk t);have hh:j / t.size*t.size+j % t.size=j:=by rw[aaZ];exact Nat.div_add_mod j t.size
   have h1:=hc _ _ hi hj;have h2:=hf _ _ hi hj;rw[hh]at h1 h2;exact⟨by rw[h1,hu],h2⟩
theorem RC.ofRow{F:Fz}{lo:Nat}{w:World}{t:Ty}{xs:List t.T}{us:List Value}(h:ye F lo w t xs us){b o cap:Nat}(hb:lo<=b)(hcap:xs.length<=cap)
  (hc:∀j u,us[j]? = some u->w.cell? ⟨b,o+j,none⟩=some u/\F b (o+j)):RC F lo w (.lst t xs) (.slice (some ⟨b,o,none⟩) xs.length cap):=by
 have hx:∀i j,i<xs.length->j<t.size->∃u,us[i*t.size+j]? = some u:=λi j hi hj=>by
  have:i*t.size+j<us.length:=by rw[h.len];exact Vg hi hj
  exact⟨_,aam this⟩
 refine .lst t xs b o cap (λi j=>us.getD (i*t.size+j) undef) hb hcap (λi j hi hj=>?_) (λi j hi hj=>?_) (λi j x c hxx hcc=>?_)
 .obtain⟨u,hu⟩:=hx i j hi hj;exact(hc _ u hu).2
 .obtain⟨u,hu⟩:=hx i j hi hj;rw[aaw,hu];exact(hc _ u hu).1
 .obtain⟨u,hu,hr⟩:=h.at_ i j x c hxx hcc;rw[aaw,hu];exact hr
theorem RC.lst_cases{F:Fz}{lo:Nat}{w:World}{t:Ty}{xs:List t.T}{v:Value}(h:RC F lo w (.lst t xs) v) :
  (xs=[]/\v=.slice none 0 0)\/∃b o cap,v=.slice (some ⟨b,o,none⟩) xs.length cap:=by
 cases h with
 |nil=>exact .inl ⟨rfl,rfl⟩
 |lst _ _ b o cap=>exact .inr ⟨b,o,cap,rfl⟩
section
variable {B:Nat}{IoB:List Nat}{F0 F:Fz}{e:Env}{tm:Nat->Value}{w:World}{ow:Nat->Option Nat->Option Nat}
theorem ja.inplace(hs:ja B IoB F0 e tm w F ow){b:Nat}{us:List Value}{w1:World}(hp:ns w b us w1)(hF:Df F w w1)(hfree:∀s i,ow s i≠some b)(hB:Mn B IoB b){F':Fz}
  (hsub:∀b o,F b o->F' b o) (hnew:∀b' o,F' b' o->F b' o\/(b'=b/\o<us.length)):ja B IoB F0 e tm w1 F' ow:=by
 have hi:=hs.sub.to λb o h=>hsub _ _ (hs.sub _ _ h);refine⟨hi,λb' o h=>?_,hi.pk hs.live hp.toPk hB λb' o h=>?_,hs.inj,λs i b' h=>by rw[hp.size];exact hs.bd s i b' h,λs=>?_⟩
 .rcases hnew b' o h with h|⟨rfl,_⟩
  .exact hs.new _ _ h
  .exact .inr hB
 .rcases hnew b' o h with h|⟨rfl,h⟩
  .rw[hF _ _ h];exact hs.live _ _ h
  .rw[hp.blk.cell,aam h];rfl
 .have h1:=SR.pokeFree hp.toPk hF hfree (λm cs hm=>let ⟨b2,vs2,e1,e2,_⟩:=hs.box hm;⟨b2,e1,e2⟩) (hs.sr s);exact SR.ext hsub (λb' o h=>(hnew b' o h).imp_right (λhh=>λs i=>hh.1▸hfree s i)) h1
theorem Blk.poke{b:Nat}{cs:List Value}(hw:Blk w b cs)(cs':List Value):ns w b cs' (w.setRow b cs'.toArray):=by
 obtain⟨e,he⟩:=hw;refine⟨⟨rfl,rfl,rfl,by simp[World.setRow],λk hk=>?_⟩,e,setRow_heap w b _ _ e _ he⟩;simp only[World.setRow,Array.getElem?_modify,if_neg (abF hk)]
end
section
variable {P:aaF}{B:Nat}{IoB:List Nat}{F0 F:Fz}{e:Env}{tm:Nat->Value}{w:World}{ow:Nat->Option Nat->Option Nat}
theorem Ca.weaken{lo lo':Nat}(h:lo'<=lo){ob:Option Nat}{c:C}{v:Value}(ha:Ca F lo w ob c v):Ca F lo' w ob c v:=⟨ha.1.mono (λ_ _ h=>h) h (λ_ _ _=>rfl),ha.2⟩
theorem cD(B:Nat)(f f':Bool):lof B (f&&f')<=lof B f/\lof B (f&&f')<=lof B f':=by
 cases f<;>cases f'<;>simp[lof]
theorem IZ{t e':Nat}{dd:TD}(he:P.underlying t=some (.slice e'))(hd:Sb P e' dd){ty:Ty}(hsz:dd.size=ty.size)(hzl:dd.zero.length=ty.size)
  (hs:ja B IoB F0 e tm w F ow) (hBw:B<=w.heap.size) {f f':Bool}{xs ys:List ty.T}{v u:Value}{ob:Option Nat} (ha:Ca F (lof B f) w ob (.lst ty xs) v)
  (hob:∀b,ob=some b->(∀s i,ow s i≠some b)/\b<w.heap.size/\Mn B IoB b) (hy:RC F (lof B f') w (.lst ty ys) u) (hlim:lim (ba ty xs) (ba ty ys)) (rt:Nat) (d:Nat) :
  ∃r w' F' ow',(aaG #[t,t] rt #[v,u]).run P w=.ok r w'/\Kept B IoB w w'/\ja B IoB F0 (Go.Proofs.YteogppapbognjaaGreatDoor.put e d (.v (.acc (f&&f')) (.lst ty (xs++ys)))) (λn=>if n=d then r else tm n) w' F' ow':=by
 obtain⟨i,z,hi,kp,kn,hz,pt⟩:=hd.info;have kq:i.size=ty.size:=by rw[kp,hsz]
 have pv:z.cells.size=ty.size:=by
  have:=(wi (F:=F) (lo:=B) (w:=w) pt).length;rw[hzl]at this;simpa using this.symm
 have ki:=cD B f f'
 have kb:xs.length+ys.length<=1099511627776:=by
  have h:(xs.length:Int)+(ys.length:Int)<=1099511627776:=hlim;omega
 have lp:ys=[]->(aaG #[t,t] rt #[v,u]).run P w=.ok v w->∃r w' F' ow',(aaG #[t,t] rt #[v,u]).run P w=.ok r w'/\Kept B IoB w w' /\
   ja B IoB F0 (Go.Proofs.YteogppapbognjaaGreatDoor.put e d (.v (.acc (f&&f')) (.lst ty (xs++ys)))) (λn=>if n=d then r else tm n) w' F' ow':=by
  rintro rfl nt
  refine⟨v,w,F,λs=>if s=d then(λi=>match i with|none=>ob|some _=>none) else ow s,nt,Kept.refl _ _ _,
   hs.putG hBw (Ua.refl F w) hs.live (λi b h=>?_) (λi b h s' i' _=>?_) (λi i' b h h'=>?_) (λg' _ _=>?_)⟩
  .cases i with
   |none=>exact(hob b h).2
   |some i=>simp at h
  .cases i with
   |none=>exact(hob b h).1 s' i'
   |some i=>simp at h
  .cases i<;>cases i'<;>simp at h h'⊢
  .show Ca F (lof B (f&&f')) w _ _ _;simp only[if_true,List.append_nil];exact ha.weaken ki.1
 have km:∀(us:List Value) (cap:Nat),ye F (lof B (f&&f')) w ty (xs++ys) us->(xs++ys).length<=cap ->
   (aaG #[t,t] rt #[v,u]).run P w=.ok (.slice (some ⟨w.heap.size,0,none⟩) (xs++ys).length cap) (w.drew.alloc (.cells (us.toArray++abj z.cells (cap - (xs++ys).length)) e')) ->
   ∃r w' F' ow',(aaG #[t,t] rt #[v,u]).run P w=.ok r w'/\Kept B IoB w w' /\
   ja B IoB F0 (Go.Proofs.YteogppapbognjaaGreatDoor.put e d (.v (.acc (f&&f')) (.lst ty (xs++ys)))) (λn=>if n=d then r else tm n) w' F' ow':=by
  intro us cap mt ht nt;let cs:List Value:=us++(abj z.cells (cap - (xs++ys).length)).toList;have io:(us.toArray++abj z.cells (cap - (xs++ys).length))=cs.toArray:=by apply aaN;simp[cs]
  rw[io]at nt
  have hlen:cs.length=cap*ty.size:=by
   have h1:(abj z.cells (cap - (xs++ys).length)).toList.length=(cap - (xs++ys).length)*ty.size:=by
    rw[aaU,size_zeroCells,pv]
   simp only[cs,aay] at *;rw[mt.len,h1,<-aaM,aay]
   congr 1
   omega
  let w1:=w.drew.alloc (.cells cs.toArray e');have hl:Blk w1 w.heap.size cs:=Blk.new (w:=w.drew) cs e';let F':Fz:=λb o=>F b o\/(b=w.heap.size/\o<(xs++ys).length*ty.size)
  have hg:Ua F w F' w1:=by
   refine⟨rfl,rfl,rfl,by show w.heap.size<=(w.heap.push _).size;simp,λk hk=>?_,λ_ _ h=>.inl h,λb o h=>h.imp_right (λh=>by rw[h.1];exact aau _)⟩;exact js (w:=w.drew) _ hk
  have kz:(xs++ys).length*ty.size<=cs.length:=by rw[hlen];exact aar _ ht
  have kx:Live F' w1:=by
   refine hs.live.next hg ?_;rintro b o (h|⟨rfl,h⟩)
   .rw[hg.live hs.live _ _ h];exact hs.live _ _ h
   .rw[hl.cell,aam (aaC h kz)];rfl
  have ot:w.heap.size<w1.heap.size:=hl.lt
  refine⟨_,w1,F',λs=>if s=d then(λi=>match i with|none=>some w.heap.size|some _=>none) else ow s,nt,⟨hg.os,hg.tape,hg.output,hg.size,λk hk _=>hg.block k (by omega),λk o hk _=>by rw[hg.block k (aaI.1 hk).1];exact hk⟩,
   hs.putG hBw hg kx (λi b h=>?_) (λi b h s' i' _ h'=>?_) (λi i' b h h'=>?_) (λg' _ _=>?_)⟩
  .cases i with
   |none=>simp at h;subst h;exact⟨ot,.inl hBw⟩
   |some i=>simp at h
  .cases i with
   |none=>simp at h;subst h;have:=(hs.bd s' i' _ h').1;omega
   |some i=>simp at h
  .cases i<;>cases i'<;>simp at h h'⊢
  .show Ca F' (lof B (f&&f')) w1 _ _ _;simp only[if_true];have nl:ye F' (lof B (f&&f')) w1 ty (xs++ys) us:=mt.mono hg.sub (aau _) (hg.live hs.live);refine⟨RC.ofRow nl (aaB (WY _ _) hBw) ht (λj u hu=>?_),.inr ⟨ty,xs++ys,w.heap.size,cap,cs,rfl,rfl,rfl,hl,hlen,λo ho hF=>?_⟩⟩
   .have hj:=(aan.1 hu).1;refine⟨?_,.inr ⟨rfl,?_⟩⟩
    .rw[hl.cell,aaK];simp only[cs];rw[aax hj];exact hu
    .rw[mt.len]at hj;omega
   .rcases hF with hF|hF
    .have:=Live.lt hs.live hF;omega
    .omega
 rcases hy.lst_cases with⟨rfl,rfl⟩|⟨bu,ou,cu,rfl⟩
 ·
  refine lp rfl ?_;rcases ha.1.lst_cases with⟨rfl,rfl⟩|⟨b,o,cap,rfl⟩
  .simp[aaG,aas he,sizeOf,abl,hi,aaL,abc]
  .have ht:=(ha.1.row).2.2.1;simp[aaG,aas he,sizeOf,abl,hi,aaL,abc,ht,storeCells]
 .obtain⟨_,ke,it,us,nm,ix⟩:=hy.row;by_cases hys:ys=[]
  .refine lp hys ?_
   have ju:∀cap',(aby i.size 0 (.slice (some ⟨bu,ou,none⟩) 0 cap')).run P w=.ok #[] w:=λcap'=>by
    have:=abd (P:=P) w i.size 0 ⟨bu,ou,none⟩ 0 cap' [] (by simp) (by simp);simpa using this
   subst hys;rcases ha.1.lst_cases with⟨rfl,rfl⟩|⟨b,o,cap,rfl⟩
   .simp[aaG,aas he,sizeOf,abl,hi,aaL,ju]
   .have ht:=(ha.1.row).2.2.1;simp[aaG,aas he,sizeOf,abl,hi,aaL,ju,ht,storeCells]
  .have ps:0<ys.length:=List.length_pos_iff.2 hys;have pi:us.length=ys.length*i.size:=by rw[nm.len,kq]
   have oy:∀j u,us[j]? = some u->w.cell? ((⟨bu,ou,none⟩ : Addr).add j)=some u:=λj u hu=>by rw[addr_add];exact(ix j u hu).1
   have hq:∀n,n<=1099511627776->n*i.bytes<=140737488355328:=λn hn=>by
    have:n*i.bytes<=1099511627776*128:=Nat.mul_le_mul hn kn;omega
   have nq:ye F (lof B (f&&f')) w ty ys us:=nm.mono (λ_ _ h=>h) ki.2 (λ_ _ _=>rfl);rcases ha.2 with⟨t0,li,rfl⟩|⟨t0,py,b,cap,cs,li,hv,lx,hl,hw,kj⟩
   ·
    have pp:xs=[]:=by
     rcases ha.1.lst_cases with⟨h,_⟩|⟨b,o,cap,h⟩
     .exact h
     .cases h
    subst pp;have nt:=run_append_nil (P:=P) w t rt e' i z he hi hz ⟨bu,ou,none⟩ ys.length cu us pi oy ps (by omega) (by have:=hq ys.length (by simpa using kb);omega);refine km us _ (by simpa using nq) ?_ (by simpa using nt);simpa using grownCap_ge w ys.length 0 e'
   .cases li;subst hv;obtain⟨_,ky,pn,px,hr0,hr⟩:=ha.1.row;have mp:ye F (lof B (f&&f')) w ty xs px:=hr0.mono (λ_ _ h=>h) ki.1 (λ_ _ _=>rfl);by_cases hroom:xs.length+ys.length<=cap
    ·
     obtain⟨kk,hm,hh⟩:=hob b lx;obtain⟨eb,ie⟩:=hl
     have jb:xs.length*i.size+us.length<=cs.length:=by
      rw[hw,pi,kq,<-aaM];exact aar _ hroom
     have hf:=abd (P:=P) w i.size ys.length ⟨bu,ou,none⟩ ys.length cu us pi oy;have oj:=abD P b (xs.length*i.size) eb us 0 cs.toArray w ie (by simpa using jb) nm.one;simp only[abo]at oj;let cs':List Value:=cs.take (xs.length*ty.size)++us++cs.drop (xs.length*ty.size+us.length)
     have nt:(aaG #[t,t] rt #[.slice (some ⟨b,0,none⟩) xs.length cap,.slice (some ⟨bu,ou,none⟩) ys.length cu]).run P w =
       .ok (.slice (some ⟨b,0,none⟩) (xs++ys).length cap) (w.setRow b cs'.toArray):=by
      have oo:=oj;rw[kq]at oo hf;simp[aaG,aas he,sizeOf,abl,hi,kq,aaL,hroom,hf,Addr.add_lit,oo,cs']
     have hp:=Blk.poke ⟨eb,ie⟩ cs'
     have ih:cs'.length=cap*ty.size:=by
      rw[kq]at jb;simp only[cs',aay,aaP,abK];rw[<-hw];omega
     have ox:(cs.take (xs.length*ty.size)).length=xs.length*ty.size:=by
      rw[kq]at jb;simp only[aaP];omega
     have hold:∀o,o<xs.length*ty.size->cs'[o]? = cs[o]?:=λo ho=>by
      simp only[cs',abB];rw[aax (by rw[ox];exact ho),aaE];simp[ho]
     have hF:Df F w (w.setRow b cs'.toArray):=λb' o hb'=>by
      by_cases hbb:b'=b
      .subst hbb
       have ho:o<xs.length*ty.size:=by
        by_cases h:o<xs.length*ty.size
        .exact h
        .exact absurd hb' (kj o (by omega))
       rw[hp.blk.cell,Blk.cell ⟨eb,ie⟩,hold o ho]
      .exact cell_of_heap (hp.block b' hbb)
     let F':Fz:=λb' o=>F b' o\/(b'=b/\o<(xs++ys).length*ty.size);have kc:(xs++ys).length*ty.size<=cs'.length:=by rw[ih,aay];exact aar _ hroom
     have hx1:=hs.inplace hp hF kk hh (F':=F') (λ_ _ h=>.inl h) (λb' o h=>h.imp_right (λh=>⟨h.1,aaC h.2 kc⟩));have mt:ye F' (lof B (f&&f')) (w.setRow b cs'.toArray) ty (xs++ys) (px++us):=(mp.append nq).mono (λ_ _ h=>.inl h) (aau _) hF
     refine⟨_,_,F',λs=>if s=d then(λi=>match i with|none=>some b|some _=>none) else ow s,nt,
      ⟨hp.os,hp.tape,hp.output,by rw[hp.size];exact aau _,λk hk hio=>hp.block k (λe=>by subst e;exact hh.elim (λh=>by omega) hio),λk o hk hc=>by
        rw[hp.block k (λe=>by rw[e]at hk;rw[Blk.isC ⟨eb,ie⟩ hk]at hc;cases hc)];exact hk⟩,
      hx1.putG (by rw[hp.size];exact hBw) (Ua.refl _ _) hx1.live (λi b' h=>?_) (λi b' h s' i' _=>?_) (λi i' b' h h'=>?_) (λg' _ _=>?_)⟩
     .cases i with
      |none=>simp at h;subst h;exact⟨by rw[hp.size];exact hm,hh⟩
      |some i=>simp at h
     .cases i with
      |none=>simp at h;subst h;exact kk s' i'
      |some i=>simp at h
     .cases i<;>cases i'<;>simp at h h'⊢
     .show Ca F' (lof B (f&&f')) (w.setRow b cs'.toArray) _ _ _;simp only[if_true];refine⟨RC.ofRow mt (aaB ki.1 ky) (by rw[aay];exact hroom) (λj u hu=>?_),.inr ⟨ty,xs++ys,b,cap,cs',rfl,rfl,rfl,hp.blk,ih,λo ho hF=>?_⟩⟩
      .have hj:=(aan.1 hu).1;have kr:j<(xs++ys).length*ty.size:=by rw[<-mt.len];exact hj
       refine⟨?_,.inr ⟨rfl,by omega⟩⟩;rw[hp.blk.cell,aaK];by_cases hjx:j<xs.length*ty.size
       .rw[hold j hjx];rw[aax (by rw[hr0.len];exact hjx)]at hu;have:=(hr j u hu).1;rw[aaK,Blk.cell ⟨eb,ie⟩]at this;exact this
       .rw[aaA (by rw[hr0.len];omega),hr0.len]at hu;have ks:=(aan.1 hu).1;simp only[cs',abB];rw[aaA (by rw[ox];omega),ox,aax ks];exact hu
      .rcases hF with hF|hF
       .refine kj o ?_ hF;rw[aay,aaM]at ho;omega
       .omega
    ·
     have lb:px.length=xs.length*i.size:=by rw[hr0.len,kq]
     have nt:=run_append_grow (P:=P) w t rt e' i z he hi hz ⟨b,0,none⟩ xs.length cap px lb (λj v hv=>by rw[addr_add];exact(hr j v hv).1)
      ⟨bu,ou,none⟩ ys.length cu us pi oy (by omega) (by omega) (growslice_fits (by omega) (by have:=hq _ kb;omega))
     refine km (px++us) (grownCap w (xs.length+ys.length) cap e') (mp.append nq) ?_ ?_
     .rw[aay];exact grownCap_ge w _ cap e'
     .rw[nt,aay];simp
end
section
variable {B:Nat}{IoB:List Nat}{F0 F:Fz}{e:Env}{tm:Nat->Value}{w:World}{ow:Nat->Option Nat->Option Nat}
theorem JZ{f:Bool}{c:C}{v:Value}(h:RC F (lof B f) w c v):Eb F B w none (frK f,c) v:=by
 cases f<;>exact h
theorem LZ{s o:Nat}{k:K}{c:C}{a:AV}(h:bears a=true):unviewCell s o k c a=a:=by
 cases a with
 |v k c=>rfl
 |box cs=>rfl
 |_=>simp[bears]at h
theorem ja.unviewCell(hs:ja B IoB F0 e tm w F ow){s o:Nat}{cs:List (K×C)}{f:Bool}{c:C}(hg:da e s=.box cs)(hc:cs[o]? = some (.acc f,c)) :
  ja B IoB F0 (Ta (mc (Go.Proofs.YteogppapbognjaaGreatDoor.unviewCell s o (frK f) c) e) s (.box (cs.set o (frK f,c)))) tm w F (λn i=>if n=s/\i=some o then none else ow n i):=by
 have ho:∀n,n≠s->da (Ta (mc (Go.Proofs.YteogppapbognjaaGreatDoor.unviewCell s o (frK f) c) e) s (.box (cs.set o (frK f,c)))) n=Go.Proofs.YteogppapbognjaaGreatDoor.unviewCell s o (frK f) c (da e n):=λn hn=>by
  rw[Ka,if_neg hn,mg _ rfl]
 have hp:da (Ta (mc (Go.Proofs.YteogppapbognjaaGreatDoor.unviewCell s o (frK f) c) e) s (.box (cs.set o (frK f,c)))) s=.box (cs.set o (frK f,c)):=by rw[Ka,if_pos rfl]
 have hl:∀n,n≠s->bears (da e n)=true->da (Ta (mc (Go.Proofs.YteogppapbognjaaGreatDoor.unviewCell s o (frK f) c) e) s (.box (cs.set o (frK f,c)))) n=da e n:=λn hn hb=>by
  rw[ho n hn,LZ hb]
 obtain⟨b,vs,q1,q2,q3,q4,q5,q6⟩:=hs.box hg;have hr:o<cs.length:=(aan.1 hc).1;refine⟨hs.sub,hs.new,hs.live,?_,?_,?_⟩
 .intro s1 i1 s2 i2 b h1 h2;split at h1
  .cases h1
  .split at h2
   .cases h2
   .exact hs.inj _ _ _ _ _ h1 h2
 .intro s1 i1 b h1;split at h1
  .cases h1
  .exact hs.bd _ _ _ h1
 .intro n;by_cases e1:n=s
  .subst e1;rw[hp];refine⟨b,vs,q1,by simp[q2],q3,q4,by rw[abf];exact q5,λj kc u hk hu=>?_⟩;rw[abC]at hk;by_cases hj:o=j
   .subst hj;rw[if_pos rfl,if_pos hr]at hk;cases hk;have h:=q6 o _ u hc hu;simp only[and_self,if_true];exact JZ (h:Ca F (lof B f) w _ c u).1
   .rw[if_neg hj]at hk;have hq:¬ (True/\some j=some o):=by simpa using λh=>hj h.symm
    simp only[if_neg hq];exact q6 j kc u hk hu
  .have ht:(λn i=>if n=s/\i=some o then none else ow n i) n=ow n:=funext λi=>if_neg (λh=>e1 h.1);rw[ho n e1];have hw:=hs.sr n;cases hav:da e n with
   |dead=>trivial
   |cond k a=>trivial
   |v k' c'=>rw[hav]at hw;show VR F B w _ (.v k' c') (tm n);rw[ht];exact hw
   |agg f' hh=>rw[hav]at hw;show VR F B w _ (.agg f' hh) (tm n);rw[ht];exact hw
   |tup l=>rw[hav]at hw;show VR F B w _ (.tup l) (tm n);rw[ht];exact hw
   |box hh=>rw[hav]at hw;show VR F B w _ (.box hh) (tm n);rw[ht];exact hw
   |faddr f' hh=>rw[hav]at hw;exact hw
   |baddr m j=>
    rw[hav]at hw;obtain⟨h0,hh,b',h1,h2,h3⟩:=hw;by_cases hm:m=s
    .subst hm;exact⟨h0,_,b',hp,h2,h3⟩
    .exact⟨h0,hh,b',by rw[hl m hm (by rw[h1];rfl)];exact h1,h2,h3⟩
   |oaddr m i j=>
    rw[hav]at hw;obtain⟨h0,t,xs,b',cap,f',h1,h2,h3,h4,h5⟩:=hw;have hm:m≠s:=λh=>by rw[h,hg]at h1;cases h1
    exact⟨h0,t,xs,b',cap,f',by rw[hl m hm (by rw[h1];rfl)];exact h1,h2,h3,h4,h5⟩
   |view m j=>
    rw[hav]at hw;cases j with
    |none=>
     refine⟨hw.1,?_,hw.2.2⟩;by_cases hm:m=s
     .rw[hm,hp];rfl
     .rw[hl m hm hw.2.1];exact hw.2.1
    |some j=>
     obtain⟨h0,hh,b',f',c',h1,h2,h3,h4⟩:=hw;by_cases hm:m=s
     .subst hm;rw[hg]at h1;cases h1;rw[q1]at h3;have hi:b'=b:=by simpa using h3.symm
      subst hi;by_cases hj:j=o
      .subst hj;rw[hc]at h2;cases h2
       have hv:Go.Proofs.YteogppapbognjaaGreatDoor.unviewCell m j (frK f) c (.view m (some j))=.v (frK f) c:=by
        simp[Go.Proofs.YteogppapbognjaaGreatDoor.unviewCell,Rr,aaJ]
       rw[hv];rw[q3.cell]at h4;have h:=(q6 j _ _ hc h4:Ca F (lof B f) w _ c (tm n)).1;show VR F B w _ (.v (frK f) c) (tm n);cases f<;>exact h
      .have hv:Go.Proofs.YteogppapbognjaaGreatDoor.unviewCell m o (frK f) c (.view m (some j))=.view m (some j):=by
        simp[Go.Proofs.YteogppapbognjaaGreatDoor.unviewCell,Rr,Nf,Qf (abF hj)]
       rw[hv];exact⟨h0,_,b',f',c',hp,by rw[abC,if_neg (abF hj)];exact h2,q1,h4⟩
     .have hv:Go.Proofs.YteogppapbognjaaGreatDoor.unviewCell s o (frK f) c (.view m (some j))=.view m (some j):=by
       simp[Go.Proofs.YteogppapbognjaaGreatDoor.unviewCell,Rr,Nf,Qf (abF hm)]
      rw[hv];exact⟨h0,hh,b',f',c',by rw[hl m hm (by rw[h1];rfl)];exact h1,h2,h3,h4⟩
end
theorem dD(c:C):norm (norm c)=norm c:=by cases c<;>rfl
theorem Ca.norm{F:Fz}{lo:Nat}{w:World}{ob:Option Nat}{c:C}{v:Value}(h:Ca F lo w ob c v):Ca F lo w ob (norm c) v:=by
 refine⟨h.1.norm,?_⟩;rw[dD];exact h.2
theorem MZ{g:Get}{a:AV}{q:Bool×PV}(h:plain g a=some q):plain (λn=>strip [] (g n)) (strip [] a)=some q:=by
 have hR:∀ {q:Bool×PV},plainR g a=some q->plainR (λn=>strip [] (g n)) (strip [] a)=some q:=by
  intro q h;cases a with
  |view s o=>
   cases o with
   |none=>
    simp only[plainR,strip]at h⊢;cases hg:g s with
    |cond k a=>rw[hg]at h;simp at h
    |_=>rw[hg]at h;exact h
   |some o=>
    simp only[plainR,strip]at h⊢;cases hg:g s with
    |cond k a=>rw[hg]at h;simp at h
    |_=>rw[hg]at h;exact h
  |cond k a=>simp[plainR]at h
  |v k c=>cases k<;>exact h
  |agg f cs=>exact h
  |_=>simp[plainR]at h
 unfold plain at h⊢;cases hq:plainR g a with
 |none=>rw[hq]at h;simp at h
 |some q'=>rw[hq]at h;rw[hR hq];exact h
theorem eD{tt:TT}{g:Get}{t:Nat}{x:aav}:rdo tt (λn=>strip [] (g n)) t x=strip [] (rdo tt g t x):=by
 cases x with
 |tmp n=>rfl
 |const v=>simp only[rdo];cases zh tt t v<;>rfl
 |global n=>rfl
 |func n=>rfl
section
variable {P:aaF}{B:Nat}{IoB:List Nat}{F0 F:Fz}{e:Env}{w:World}{ow:Nat->Option Nat->Option Nat}{a:Act}
theorem ja.plain(hx:ja B IoB F0 e (λn=>a.tmps.getD n undef) w F ow){tt:TT}{t:Nat}{x:aav}{bo:Bool}{p:PV}(h:Go.Proofs.YteogppapbognjaaGreatDoor.plain (da e) (rdo tt (da e) t x)=some (bo,p)) :
  PlR F B w (da e) ow bo p (a.eval x):=by
 have hh:=zj hx.live (Sim.raw hx (λn=>.inr rfl)) (k:=[]) trivial rfl;have h':=MZ h;rw[<-eD]at h';exact ce hh h'
theorem ja.rdo(hx:ja B IoB F0 e (λn=>a.tmps.getD n undef) w F ow)(tt:TT)(t:Nat)(x:aav) :
  (∃n,x=.tmp n/\Go.Proofs.YteogppapbognjaaGreatDoor.rdo tt (da e) t x=da e n)\/(∃c,Go.Proofs.YteogppapbognjaaGreatDoor.rdo tt (da e) t x=.v .fr c/\RC F B w c (a.eval x))\/Go.Proofs.YteogppapbognjaaGreatDoor.rdo tt (da e) t x=.dead:=by
 cases x with
 |tmp n=>exact .inl ⟨n,rfl,rfl⟩
 |const v=>
  right;obtain⟨o,ho⟩:=bn (zj hx.live (Sim.raw hx (λn=>.inr rfl)) (k:=[]) trivial rfl) tt t (.const v);rw[eD]at ho;cases hc:zh tt t v with
  |none=>right;simp only[Go.Proofs.YteogppapbognjaaGreatDoor.rdo,hc]
  |some c=>
   left;have hr:Go.Proofs.YteogppapbognjaaGreatDoor.rdo tt (da e) t (.const v)=.v .fr c:=by simp only[Go.Proofs.YteogppapbognjaaGreatDoor.rdo,hc]
   rw[hr]at ho;exact⟨c,hr,ho⟩
 |global n=>right;right;rfl
 |func n=>right;right;rfl
theorem ja.accB(hx:ja B IoB F0 e (λn=>a.tmps.getD n undef) w F ow){s b:Nat}{i:Option Nat}(hb:ow s i=some b)(_h:i≠none\/∃f c,da e s=.v (.acc f) c):b<w.heap.size/\Mn B IoB b:=hx.bd s i b hb
theorem NZ(hx:ja B IoB F0 e (λn=>a.tmps.getD n undef) w F ow){tt:TT}{t:Nat}{x:aav}{f:Bool}{c:C}{e1:Env}
  (h:uC e (Go.Proofs.YteogppapbognjaaGreatDoor.rdo tt (da e) t x) (Ch x)=some (f,c,e1)) :
  ∃ow1 ob,ja B IoB F0 e1 (λn=>a.tmps.getD n undef) w F ow1/\Ca F (lof B f) w ob (norm c) (a.eval x)/\∀b,ob=some b->(∀s i,ow1 s i≠some b)/\b<w.heap.size/\Mn B IoB b:=by
 have ho:∀ {s:Nat}{f:Bool}{c:C},da e s=.v (.acc f) c->∃ow1 ob,ja B IoB F0 (uj e s) (λn=>a.tmps.getD n undef) w F ow1/\Ca F (lof B f) w ob (norm c) (a.tmps.getD s undef) /\
   ∀b,ob=some b->(∀s i,ow1 s i≠some b)/\b<w.heap.size/\Mn B IoB b:=by
  intro s f c hg;have hd:=hx.drop s;rw[hg]at hd;have hp:=hx.sr s;rw[hg]at hp;have hp:Ca F (lof B f) w (ow s none) c (a.tmps.getD s undef):=hp;refine⟨_,ow s none,hd,hp.norm,λb hb=>⟨λs' i' h'=>?_,hx.accB hb (.inr ⟨f,c,hg⟩)⟩⟩;simp only[]at h';split at h'
  .cases h'
  .rename_i hne;exact hne (hx.inj _ _ _ _ _ h' hb).1
 have hk:∀ {k:K}{ty:Ty}{e':Env},Go.Proofs.YteogppapbognjaaGreatDoor.rdo tt (da e) t x=.v k (.nl ty)->e'=e->∃ow1 ob,ja B IoB F0 e' (λn=>a.tmps.getD n undef) w F ow1/\Ca F (lof B true) w ob (.lst ty []) (a.eval x) /\
   ∀b,ob=some b->(∀s i,ow1 s i≠some b)/\b<w.heap.size/\Mn B IoB b:=by
  rintro k ty e' hr rfl
  have hv:a.eval x=.slice none 0 0:=by
   rcases hx.rdo tt t x with⟨n,rfl,hm⟩|⟨c',hl,hn⟩|hd
   .rw[hm]at hr;have hp:=hx.sr n;rw[hr]at hp;have hp:VR F B w (ow n) (.v k (.nl ty)) (a.tmps.getD n undef):=hp
    have hl:∃lo,RC F lo w (.nl ty) (a.tmps.getD n undef):=by
     cases k with
     |sh=>exact⟨_,hp⟩
     |fr=>exact⟨_,hp⟩
     |acc f=>exact⟨_,hp.1⟩
     |own f=>rcases hp with⟨t,h1,_⟩|⟨t,xs,b,cap,cs,vs,h1,_⟩<;>cases h1
    obtain⟨lo,hl⟩:=hl;generalize hvv:a.tmps.getD n undef=v at hl;cases hl;exact hvv
   .rw[hl]at hr;cases hr;generalize hvv:a.eval x=v at hn;cases hn;rfl
   .rw[hd]at hr;cases hr
  exact⟨ow,none,hx,by rw[hv];exact⟨.nil _,.inl ⟨ty,rfl,rfl⟩⟩,λb hb=>by cases hb⟩
 unfold uC at h;split at h
 .rename_i k ty hr;simp only[aal,aap]at h;obtain⟨rfl,rfl,rfl⟩:=h;exact hk hr rfl
 .rename_i f' c' _ hr;cases x with
  |tmp s=>
   simp only[Ch,aal,aap]at h;obtain⟨rfl,rfl,rfl⟩:=h;exact ho hr
  |_=>simp[Ch]at h
 .rename_i s hr;split at h
  .rename_i f' c' hg;simp only[aal,aap]at h;obtain⟨rfl,rfl,rfl⟩:=h;rcases hx.rdo tt t x with⟨n,rfl,hm⟩|⟨c',hl,hn⟩|hd
   .rw[hm]at hr;have hp:=hx.sr n;rw[hr]at hp;have hv:a.tmps.getD n undef=a.tmps.getD s undef:=hp.1;show ∃ow1 ob,_/\Ca F _ w ob _ (a.tmps.getD n undef)/\_;rw[hv,dD];exact ho hg
   .rw[hl]at hr;cases hr
   .rw[hd]at hr;cases hr
  .cases h
 .rename_i s o hr;split at h
  .rename_i cs hg;split at h
   .rename_i f' c' hc;simp only[aal,aap]at h;obtain⟨rfl,rfl,rfl⟩:=h;rcases hx.rdo tt t x with⟨n,rfl,hm⟩|⟨c',hl,hn⟩|hd
    .rw[hm]at hr;have hp:=hx.sr n;rw[hr]at hp;obtain⟨h0,hh,b',f2,c2,h1,h2,h3,h4⟩:=hp;rw[hg]at h1;cases h1;rw[hc]at h2;cases h2;obtain⟨b,vs,q1,q2,q3,q4,q5,q6⟩:=hx.box hg;have h3:a.tmps.getD s undef=.pointer (some ⟨b',0,none⟩):=h3;rw[q1]at h3;have hj:b=b':=by simpa using h3
     subst hj;have h4:w.cell? ⟨b,o,none⟩=some (a.tmps.getD n undef):=h4;rw[q3.cell]at h4;have hi:Ca F (lof B f') w (ow s (some o)) c' (a.tmps.getD n undef):=q6 o _ _ hc h4;refine⟨_,ow s (some o),hx.unviewCell hg hc,by rw[dD];exact hi.norm,λb hb=>⟨λs' i' h'=>?_,hx.accB hb (.inl (by simp))⟩⟩;split at h'
     .cases h'
     .rename_i hne;exact hne (hx.inj _ _ _ _ _ h' hb)
    .rw[hl]at hr;cases hr
    .rw[hd]at hr;cases hr
   .cases h
  .cases h
 .cases h
theorem PZ{tt:TT}(htt:dc P tt){N:NP}{W0:World}{e':Env}(hs:Sim N B IoB W0 F0 e a w){o:Oper}{x y:aav}{t u d:Nat}
  (hop:o.op=.call ⟨.builtin .append,#[x,y],#[t,u]⟩) (hd:o.dst=some d) {obs:List Prop} (hst:wC tt e d x y t u=some (e',obs)) (ho:∀p∈obs,p) (hdN:N.ok d=true)
  {next:Act->World->Prop}{Q:Exit->Act->World->Prop} (hn:∀a' w',Sim N B IoB W0 F0 e' a' w'->next a' w'):o.wp P a w next Q:=by
 obtain⟨F,ow,hx⟩:=hs.rep;have hh:B<=w.heap.size:=aaB hs.base hs.kept.size;unfold wC at hst;split at hst
 .rename_i f' ty' ys' hpl;split at hst
  .rename_i f ty xs e1 hab;split at hst
   .rename_i ys yy dd hcast hel;split at hst
    .rename_i hb;simp only[aal,aap]at hst;obtain⟨rfl,rfl⟩:=hst;simp only[aat]at hb;obtain⟨hj,hk,hl⟩:=hb;have hu:=aao hl;subst hu;obtain⟨el,he,_,_,hm,_⟩:=Zr htt hel;obtain⟨ow1,ob,hx1,hi,hq⟩:=NZ hx hab;have hy:=hx.plain hpl;have hw:RC F (lof B f') w (.lst ty ys) (a.eval y):=YC hcast hy;obtain⟨r,w',F',hz,hr,hp,hv⟩:=IZ (P:=P) he hm (aao hj) (aao hk) hx1 hh hi hq hw (ho _ (by simp)) o.type d
     have ht:(execOp a.eval o).run P w=.ok (.value r) w':=by
      obtain⟨dst,op,ty,pos,aft,gd⟩:=o;simp only[]at hop;subst hop;simp only[]at hr;simp[execOp,abG,invoke,abT,hr]
     unfold abE;rw[ht,abe,hd];apply hn;refine⟨hs.defers,hs.tmps.put hdN _,hs.base,hs.f0,hs.kept.trans hp,F',hz,?_⟩;rw[show(λn=>(a.put (some d) r).tmps.getD n undef)=λn=>if n=d then r else a.tmps.getD n undef from funext (Ja a d _ (by rw[hs.tmps.size];exact NP.ok_lt hdN))];exact hv
    .cases hst
   .cases hst
  .cases hst
 .cases hst
end
def Bb(cs:List Value)(p:Nat)(us:List Value):List Value:=cs.take p++us++cs.drop (p+us.length)
theorem dl{cs us:List Value}{p:Nat}(h:p+us.length<=cs.length):(Bb cs p us).length=cs.length:=by
 simp only[Bb,aay,aaP,abK];omega
theorem As{cs us:List Value}{p:Nat}(h:p+us.length<=cs.length)(k:Nat):(Bb cs p us)[k]? = if p<=k/\k<p+us.length then us[k - p]? else cs[k]?:=by
 have ht:(cs.take p).length=p:=by rw[aaP];omega
 simp only[Bb,abB];by_cases h1:k<p
 .rw[aax (by omega),aaE,if_pos h1,if_neg (by omega)]
 .rw[aaA (by omega),ht];by_cases h2:k<p+us.length
  .rw[aax (by omega),if_pos ⟨by omega,h2⟩]
  .rw[aaA (by omega),aaH,if_neg (by omega)]
   congr 1
   omega
theorem fD:∀(cs:List (K×C)) (o:Nat) (ds:List (K×C)),(putK cs o ds).length=cs.length
 |[],_,_=>rfl
 |_::r,0,d::ds=>by simp[putK,fD r 0 ds]
 |_::_,0,[]=>rfl
 |_::r,n+1,ds=>by simp[putK,fD r n ds]
theorem gD:∀(cs:List (K×C)) (o:Nat) (ds:List (K×C)),o+ds.length<=cs.length->∀j,(putK cs o ds)[j]? = if o<=j/\j<o+ds.length then ds[j - o]? else cs[j]?
 |[],o,ds,h,j=>by
  have h':o+ds.length<=0:=h;rw[if_neg (by omega)];rfl
 |c::r,0,d::ds,h,j=>by
  cases j with
  |zero=>simp[putK]
  |succ j=>
   have ih:=gD r 0 ds (by simp at h⊢;omega) j;simp only[putK,aaV,ih,aaR,true_and,aaK,abk,acd,abL]
 |c::r,0,[],_,j=>by simp[putK]
 |c::r,n+1,ds,h,j=>by
  cases j with
  |zero=>simp[putK]
  |succ j=>
   have ih:=gD r n ds (by simp at h⊢;omega) j;simp only[putK,aaV,ih,abM,abR]
   congr 2
   simp only[eq_iff_iff];omega
theorem iD:∀(cs:List C) (o:Nat) (ds:List C),o+ds.length<=cs.length->∀j,(setCells cs o ds)[j]? = if o<=j/\j<o+ds.length then ds[j - o]? else cs[j]?
 |[],o,ds,h,j=>by
  have h':o+ds.length<=0:=h;rw[if_neg (by omega)];rfl
 |c::r,0,d::ds,h,j=>by
  cases j with
  |zero=>simp[setCells]
  |succ j=>
   have ih:=iD r 0 ds (by simp at h⊢;omega) j;simp only[setCells,aaV,ih,aaR,true_and,aaK,abk,acd,abL]
 |c::r,0,[],_,j=>by simp[setCells]
 |c::r,n+1,ds,h,j=>by
  cases j with
  |zero=>simp[setCells]
  |succ j=>
   have ih:=iD r n ds (by simp at h⊢;omega) j;simp only[setCells,aaV,ih,abM,abR]
   congr 2
   simp only[eq_iff_iff];omega
theorem TO:∀(cs:List C) (j:Nat),(norms cs)[j]? = (cs[j]?).map norm
 |[],_=>rfl
 |_::_,0=>rfl
 |_::r,j+1=>by simpa [norms] using TO r j
section
variable {P:aaF}
theorem UO{w:World}{t:Nat}{d:TD}(hd:Sb P t d){b o:Nat}{cs:List Value}(hw:Blk w b cs){v:Value}(hl:v.cells.toList.length=d.size)(hfit:o+v.cells.toList.length<=cs.length)
  (h1:∀u∈v.cells.toList,u.oneCell'=true):(Instr.storeAt t (.pointer (some ⟨b,o,none⟩)) v).run P w=.ok () (w.setRow b (Bb cs o v.cells.toList).toArray):=by
 obtain⟨e,he⟩:=hw;have hh:=abD P b o e v.cells.toList 0 cs.toArray w he (by simpa using hfit) h1;have hsz:v.cells.size=d.size:=by simpa using hl
 simp only[abo]at hh;simp[Instr.storeAt,abu,storeVar,hd.size w,hsz,hh,Bb]
theorem VO{g:Get}{a:AV}{q:Bool×PV}(h:plainR g a=some q):plainR (λn=>strip [] (g n)) (strip [] a)=some q:=by
 cases a with
 |view s o=>
  cases o with
  |none=>
   simp only[plainR,strip]at h⊢;cases hg:g s with
   |cond k a=>rw[hg]at h;simp at h
   |_=>rw[hg]at h;exact h
  |some o=>
   simp only[plainR,strip]at h⊢;cases hg:g s with
   |cond k a=>rw[hg]at h;simp at h
   |_=>rw[hg]at h;exact h
 |cond k a=>simp[plainR]at h
 |v k c=>cases k<;>exact h
 |agg f cs=>exact h
 |_=>simp[plainR]at h
variable {B:Nat}{IoB:List Nat}{F0 F:Fz}{e:Env}{w:World}{ow:Nat->Option Nat->Option Nat}{a:Act}
theorem ja.plainR(hx:ja B IoB F0 e (λn=>a.tmps.getD n undef) w F ow){tt:TT}{t:Nat}{x:aav}{bo:Bool}{p:PV}(h:Go.Proofs.YteogppapbognjaaGreatDoor.plainR (da e) (Go.Proofs.YteogppapbognjaaGreatDoor.rdo tt (da e) t x)=some (bo,p)) :
  PlR F B w (da e) ow bo p (a.eval x):=by
 have hh:=zj hx.live (Sim.raw hx (λn=>.inr rfl)) (k:=[]) trivial rfl;have h':=VO h;rw[<-eD]at h';exact cn hh h'
theorem ja.slotAcc(hx:ja B IoB F0 e (λn=>a.tmps.getD n undef) w F ow){s:Nat}{f:Bool}{c:C}(hg:da e s=.v (.acc f) c):∃ow1 ob,ja B IoB F0 (uj e s) (λn=>a.tmps.getD n undef) w F ow1 /\
  Ca F (lof B f) w ob c (a.tmps.getD s undef)/\∀b,ob=some b->(∀s i,ow1 s i≠some b)/\b<w.heap.size/\Mn B IoB b:=by
 have hd:=hx.drop s;rw[hg]at hd;have hh:=hx.sr s;rw[hg]at hh;have hh:Ca F (lof B f) w (ow s none) c (a.tmps.getD s undef):=hh;refine⟨_,ow s none,hd,hh,λb hb=>⟨λs' i' h'=>?_,hx.accB hb (.inr ⟨f,c,hg⟩)⟩⟩;simp only[]at h';split at h'
 .cases h'
 .rename_i hne;exact hne (hx.inj _ _ _ _ _ h' hb).1
theorem Eb.one{ob:Option Nat}{kc:K×C}{v:Value}(h:Eb F B w ob kc v):v.oneCell'=true:=by
 obtain⟨k,c⟩:=kc;cases k with
 |sh=>exact RC.one h
 |fr=>exact RC.one h
 |acc f=>exact RC.one h.1
 |own f=>exact h.elim
theorem QZ(hx:ja B IoB F0 e (λn=>a.tmps.getD n undef) w F ow){tt:TT}{t:Nat}{x:aav}{ks:List (K×C)}{e1:Env}(h:Ur e (rdo tt (da e) t x) (Ch x)=some (ks,e1)) :
  ∃ (ow1:Nat->Option Nat->Option Nat) (tok:Nat->Option Nat),ja B IoB F0 e1 (λn=>a.tmps.getD n undef) w F ow1/\(a.eval x).cells.toList.length=ks.length /\
    (∀j kc u,ks[j]? = some kc->(a.eval x).cells.toList[j]? = some u->Eb F B w (tok j) kc u) /\
    (∀j b,tok j=some b->j=0/\(∀s i,ow1 s i≠some b)/\b<w.heap.size/\Mn B IoB b):=by
 unfold Ur at h;split at h
 .rename_i f c s hr hslot;simp only[aal,aap]at h;obtain⟨rfl,rfl⟩:=h;cases x with
  |tmp n=>
   simp only[Ch,aal]at hslot;subst hslot;have hg:da e n=.v (.acc f) c:=hr;obtain⟨ow1,ob,h1,h2,h3⟩:=hx.slotAcc hg
   have hh:(a.eval (.tmp n)).cells.toList=[a.tmps.getD n undef]:=by
    show(a.tmps.getD n undef).cells.toList=_;rcases h2.2 with⟨t,_,hv⟩|⟨t,xs,b',cap,cs,_,hv,_⟩<;>rw[hv]<;>rfl
   refine⟨ow1,λj=>match j with|0=>ob|_+1=>none,h1,by rw[hh];rfl,λj kc u hk hu=>?_,λj b hb=>?_⟩
   .rw[hh]at hu;cases j with
    |zero=>
     simp only[aaW,aal]at hk hu;subst hk;subst hu;exact h2
    |succ j=>simp at hk
   .cases j with
    |zero=>exact⟨rfl,h3 b hb⟩
    |succ j=>cases hb
  |_=>simp[Ch]at hslot
 .split at h
  .rename_i f ag cs hp;simp only[aal,aap]at h;obtain⟨rfl,rfl⟩:=h;have hi:=hx.plainR hp;have hc:=PVR.cells hi;refine⟨ow,λ_=>none,hx,by rw[abO,hc.length],λj kc u hk hu=>?_,λj b hb=>by cases hb⟩;rw[aaz]at hk;cases hcj:cs[j]? with
   |none=>rw[hcj]at hk;simp at hk
   |some c=>
    rw[hcj]at hk;simp at hk;subst hk;obtain⟨u',hj,hr⟩:=hc.get hcj;rw[hu]at hj;cases hj;exact EO hr
  .cases h
theorem SR.only{tm:Nat->Value}{g g':Get}{ow:Nat->Option Nat->Option Nat}{n:Nat}(hg:∀m,bears (g m)=true->g' m=g m):∀ {av:AV},Nf av=false->SR F B w tm g ow n av->SR F B w tm g' ow n av
 |.dead,_,_=>trivial
 |.v k c,_,h=>h
 |.agg f cs,_,h=>h
 |.tup l,_,h=>h
 |.box cs,_,h=>h
 |.cond k a,hc,_=>by simp[Nf]at hc
 |.view m none,_,h=>⟨h.1,by rw[hg m h.2.1];exact h.2.1,h.2.2⟩
 |.view m (some j),_,h=>by
  obtain⟨h0,cs,b',f,c,h1,h2,h3,h4⟩:=h;exact⟨h0,cs,b',f,c,by rw[hg m (by rw[h1];rfl)];exact h1,h2,h3,h4⟩
 |.baddr m o,_,h=>by
  obtain⟨h0,cs,b',h1,h2,h3⟩:=h;exact⟨h0,cs,b',by rw[hg m (by rw[h1];rfl)];exact h1,h2,h3⟩
 |.faddr f cs,_,h=>h
 |.oaddr m i o,_,h=>by
  obtain⟨h0,t,xs,b',cap,f,h1,h2,h3,h4,h5⟩:=h;exact⟨h0,t,xs,b',cap,f,by rw[hg m (by rw[h1];rfl)];exact h1,h2,h3,h4,h5⟩
theorem RZ{s:Nat}{a:AV}(h:bears a=true):ve s a=a:=by
 cases a with
 |v k c=>rfl
 |box cs=>rfl
 |_=>simp[bears]at h
theorem WO(s:Nat)(a:AV):(ve s a=.dead\/(ve s a=a/\Nf a=false))/\Nf (ve s a)=false/\∀j,ve s a≠.view s (some j):=by
 cases a with
 |view m j=>
  cases j with
  |none=>exact⟨.inr ⟨rfl,rfl⟩,rfl,λj=>by simp[ve]⟩
  |some j=>
   by_cases hm:s=m
   .subst hm;have:ve s (.view s (some j))=.dead:=by simp[ve,aaJ]
    rw[this];exact⟨.inl rfl,rfl,λj=>by simp⟩
   .have:ve s (.view m (some j))=.view m (some j):=by simp[ve,Qf hm]
    rw[this];exact⟨.inr ⟨rfl,rfl⟩,rfl,λj' h=>hm (by injection h with h1 h2;exact h1.symm)⟩
 |cond k a=>exact⟨.inl rfl,rfl,λj=>by simp[ve]⟩
 |_=>exact⟨.inr ⟨rfl,rfl⟩,rfl,λj=>by simp[ve]⟩
theorem ja.kill{tm:Nat->Value}(hs:ja B IoB F0 e tm w F ow)(s:Nat):ja B IoB F0 (mc (ve s) e) tm w F ow:=by
 refine⟨hs.sub,hs.new,hs.live,hs.inj,hs.bd,λn=>?_⟩;rw[mg _ rfl];rcases (WO s (da e n)).1 with h|⟨h,hc⟩
 .rw[h];trivial
 .rw[h];exact SR.only (λm hb=>by rw[mg _ rfl,RZ hb]) hc (hs.sr n)
theorem ja.writeBox{tm:Nat->Value}(hs:ja B IoB F0 e tm w F ow){s b o:Nat}{cs ks:List (K×C)}(hg:da e s=.box cs)(hb:ow s none=some b)(hfit:o+ks.length<=cs.length){us:List Value}(hl:us.length=ks.length)
  {tok:Nat->Option Nat} (hk:∀j kc u,ks[j]? = some kc->us[j]? = some u->Eb F B w (tok j) kc u) (htok:∀j b,tok j=some b->j=0/\(∀s i,ow s i≠some b)/\b<w.heap.size/\Mn B IoB b) :
  ∃vs ow',Blk w b vs/\vs.length=cs.length/\ja B IoB F0 (Ta (mc (ve s) e) s (.box (putK cs o ks))) tm (w.setRow b (Bb vs o us).toArray) F ow':=by
 obtain⟨b',vs,q1,q2,q3,q4,q5,q6⟩:=hs.box hg;rw[hb]at q2;cases q2;have hr:=hs.kill s;have hq:da (mc (ve s) e) s=.box cs:=by rw[mg _ rfl,hg];rfl
 have hp:=Blk.poke q3 (Bb vs o us);have hF:Df F w (w.setRow b (Bb vs o us).toArray):=hp.same q4;have ho:o+us.length<=vs.length:=by rw[hl,q5];exact hfit
 let ow':Nat->Option Nat->Option Nat:=λn i=>if n=s then(match i with|none=>ow s none|some j=>if o<=j/\j<o+ks.length then tok (j - o) else ow s (some j)) else ow n i
 have how:∀n,n≠s->ow' n=ow n:=λn hn=>funext λi=>if_neg hn;have hu:ow' s none=ow s none:=if_pos rfl;have hv:∀j,ow' s (some j)=if o<=j/\j<o+ks.length then tok (j - o) else ow s (some j):=λj=>if_pos rfl
 have hi:∀n i b1,ow' n i=some b1->ow n i=some b1\/(n=s/\i=some o/\tok 0=some b1):=by
  intro n i b1 h;by_cases hn:n=s
  .subst hn;cases i with
   |none=>rw[hu]at h;exact .inl h
   |some j=>
    rw[hv]at h;split at h
    .rename_i hj;have h0:=(htok _ _ h).1;rw[h0]at h;exact .inr ⟨rfl,by congr 1;omega,h⟩
    .exact .inl h
  .rw[how n hn]at h;exact .inl h
 refine⟨vs,ow',q3,q5,⟨hs.sub,hs.new,hs.sub.pk hs.live hp.toPk (hs.bd _ _ _ hb).2 λb' o' h=>by rw[hF _ _ h];exact hs.live _ _ h,?_,?_,?_⟩⟩
 .intro s1 i1 s2 i2 b1 h1 h2;rcases hi _ _ _ h1 with g1|⟨e1,e2,g1⟩<;>rcases hi _ _ _ h2 with g2|⟨e3,e4,g2⟩
  .exact hs.inj _ _ _ _ _ g1 g2
  .exact absurd g1 ((htok _ _ g2).2.1 _ _)
  .exact absurd g2 ((htok _ _ g1).2.1 _ _)
  .exact⟨by rw[e1,e3],by rw[e2,e4]⟩
 .intro s1 i1 b1 h1;rw[hp.size];rcases hi _ _ _ h1 with g1|⟨e1,e2,g1⟩
  .exact hs.bd _ _ _ g1
  .exact (htok _ _ g1).2.2
 .intro n;rw[Ka];by_cases hn:n=s
  .rw[if_pos hn,hn];refine⟨b,Bb vs o us,q1,by rw[hu];exact hb,hp.blk,q4,by rw[dl ho,fD,q5],λj kc u hkj huj=>?_⟩;rw[gD cs o ks hfit]at hkj;rw[As ho,hl]at huj;have ht:∀ {ob:Option Nat},Eb F B w ob kc u->ob≠some b->Eb F B (w.setRow b (Bb vs o us).toArray) ob kc u:=λh hne=>Eb.poke hp.toPk hF hne h;rw[hv];by_cases hj:o<=j/\j<o+ks.length
   .rw[if_pos hj]at hkj huj⊢;exact ht (hk _ _ _ hkj huj) (λh=>(htok _ _ h).2.1 s none hb)
   .rw[if_neg hj]at hkj huj⊢;exact ht (q6 _ _ _ hkj huj) (λh=>by have:=(hs.inj _ _ _ _ _ h hb).2;cases this)
  .rw[if_neg hn];have hh:=WO s (da e n);refine SR.poke hp.toPk hF hb (.inl ⟨cs,_,hq,by rw[Ka,if_pos rfl]⟩) (λm hm=>by rw[Ka,if_neg hm]) how hs.inj (λm cs' hm=>?_) hn (.inr ?_) (hr.sr n)
   .obtain⟨b2,hw,e1,e2,_⟩:=hr.box hm;exact⟨b2,e1,e2⟩
   .rw[mg _ rfl];exact hh.2
theorem SZ{ks:List (K×C)}:we ks=true->∀(j:Nat) (k:K) (c:C),ks[j]? = some (k,c)->k=.fr\/k=.acc true:=by
 induction ks with
 |nil=>intro _ j k c h;simp at h
 |cons kc r ih=>
  intro h j k c hj;obtain⟨k0,c0⟩:=kc;cases j with
  |zero=>
   simp only[aaW,aal,aap]at hj;obtain⟨rfl,rfl⟩:=hj;cases k0 with
   |sh=>simp[we]at h
   |fr=>exact .inl rfl
   |acc f=>simp[we]at h;exact .inr (by rw[h.1])
   |own f=>simp[we]at h
  |succ j=>
   refine ih ?_ j k c (by simpa using hj);cases k0 with
   |sh=>simp[we]at h
   |fr=>exact h
   |acc f=>simp[we]at h;exact h.2
   |own f=>simp[we]at h
theorem Eb.rc{ob:Option Nat}{ks:List (K×C)}{j:Nat}{kc:K×C}{v:Value}(hj:ks[j]? = some kc)(h:Eb F B w ob kc v):RC F (lof B (we ks)) w kc.2 v:=by
 obtain⟨k,c⟩:=kc
 have h0:RC F 0 w c v:=by
  cases k with
  |sh=>exact h
  |fr=>exact RC.lo0 h
  |acc f=>exact RC.lo0 h.1
  |own f=>exact h.elim
 cases hf:we ks with
 |false=>exact h0
 |true=>
  rcases SZ hf j k c hj with rfl|rfl
  .exact h
  .exact h.1
theorem ja.writeOwn{tm:Nat->Value}(hs:ja B IoB F0 e tm w F ow){s:Nat}{f:Bool}{y:Ty}{xs:List y.T}(hg:da e s=.v (.own f) (.lst y xs)){i:Int}(h0:0<=i)(h1:i<xs.length){o:Nat}{ks:List (K×C)}
  (hfit:o+ks.length<=y.size) {us:List Value} (hl:us.length=ks.length) {tok:Nat->Option Nat} (hk:∀j kc u,ks[j]? = some kc->us[j]? = some u->Eb F B w (tok j) kc u)
  (htok:∀j b,tok j=some b->∀s i,ow s i≠some b) {x:y.T} (hx:cells y x=norms (setCells (cells y (rd y xs i)) o (ks.map (·.2)))) :
  ∃ b cap vs,tm s=.slice (some ⟨b,0,none⟩) xs.length cap/\Blk w b vs/\i.toNat*y.size+o+us.length<=vs.length/\ow s none=some b /\
    ja B IoB F0 (Ta e s (.v (.own (f&&we ks)) (.lst y (xs.set i.toNat x)))) tm (w.setRow b (Bb vs (i.toNat*y.size+o) us).toArray) F ow:=by
 have hz:=hs.sr s;rw[hg]at hz;rcases hz with⟨t',e1,_⟩|⟨t',hf,b,cap,vs,vv,e1,e2,e3,e4,e5,hh,e6,e7,e8,e9⟩
 .cases e1;simp at h1;omega
 cases e1;have hi:i.toNat<xs.length:=by omega
 have hw:i.toNat*y.size+y.size<=vs.length:=by
  have h2:(i.toNat+1)*y.size<=cap*y.size:=aar _ (by omega);rw[aaT]at h2;omega
 have hr:i.toNat*y.size+o+us.length<=vs.length:=by omega
 have hp:=Blk.poke e4 (Bb vs (i.toNat*y.size+o) us);have hF:Df F w (w.setRow b (Bb vs (i.toNat*y.size+o) us).toArray):=hp.same e7;refine⟨b,cap,vs,e2,e4,hr,e3,⟨hs.sub,hs.new,hs.sub.pk hs.live hp.toPk (hs.bd _ _ _ e3).2 λb' o' h=>by rw[hF _ _ h];exact hs.live _ _ h,hs.inj,λs1 i1 b1 h=>by rw[hp.size];exact hs.bd _ _ _ h,λn=>?_⟩⟩;have hu:da (Ta e s (.v (.own (f&&we ks)) (.lst y (xs.set i.toNat x)))) s=.v (.own (f&&we ks)) (.lst y (xs.set i.toNat x)):=by rw[Ka,if_pos rfl]
 by_cases hn:n=s
 .rw[hn,hu];have ht:=cD B f (we ks)
  refine .inr ⟨y,xs.set i.toNat x,b,cap,Bb vs (i.toNat*y.size+o) us,λi' j=>(Bb vs (i.toNat*y.size+o) us).getD (i'*y.size+j) undef,rfl,by rw[abf];exact e2,e3,hp.blk,
   by rw[dl hr];exact e5,by rw[abf];exact hh,aaB ht.1 e6,e7,λi' j hv hj=>?_,λi' j x' c hx' hc=>?_⟩
  .rw[abf]at hv
   have:i'*y.size+j<(Bb vs (i.toNat*y.size+o) us).length:=by
    rw[dl hr,e5];exact aaC (Vg hv hj) (aar _ hh)
   show(Bb vs (i.toNat*y.size+o) us)[i'*y.size+j]? = some ((Bb vs (i.toNat*y.size+o) us).getD (i'*y.size+j) undef);rw[aaw,aam this];rfl
  .have hj:j<y.size:=by rw[<-We y x'];exact(aan.1 hc).1
   have hv:i'<xs.length:=by
    have:=(aan.1 hx').1;simpa using this
   show RC F _ _ c ((Bb vs (i.toNat*y.size+o) us).getD (i'*y.size+j) undef);rw[aaw,As hr];rw[abC]at hx';by_cases hii:i.toNat=i'
   .subst hii;rw[if_pos rfl,if_pos hi]at hx';cases hx';rw[hx,TO,iD _ _ _ (by rw[abO,We];exact hfit),abO]at hc;by_cases hjo:o<=j/\j<o+ks.length
    .rw[if_pos hjo,aaz]at hc;rw[if_pos (by rw[hl];omega),show i.toNat*y.size+j - (i.toNat*y.size+o)=j - o by omega];cases hkj:ks[j - o]? with
     |none=>rw[hkj]at hc;simp at hc
     |some kc=>
      rw[hkj]at hc;simp at hc;subst hc;have ha:j - o<us.length:=by omega
      rw[aam ha];have ho:=hk _ _ _ hkj (aam ha);have hq:=Eb.poke hp.toPk hF (λh=>htok _ _ h _ _ e3) ho;exact(RC.mono (λ_ _ h=>h) ht.2 (λ_ _ _=>rfl) (Eb.rc hkj hq)).norm
    .rw[if_neg hjo]at hc;rw[if_neg (by rw[hl];omega),e8 _ _ hi hj];cases hcj:(cells y (rd y xs i))[j]? with
     |none=>rw[hcj]at hc;simp at hc
     |some c'=>
      rw[hcj]at hc;simp at hc;subst hc;have h9:=e9 _ _ _ _ (HC h0 h1) hcj;exact((h9.poke hp.toPk hF).mono (λ_ _ h=>h) ht.1 (λ_ _ _=>rfl)).norm
   .rw[if_neg hii]at hx'
    have hy:¬ (i.toNat*y.size+o<=i'*y.size+j/\i'*y.size+j<i.toNat*y.size+o+us.length):=by
     rcases Nat.lt_or_gt_of_ne hii with h|h
     .have h2:(i.toNat+1)*y.size<=i'*y.size:=aar _ h;rw[aaT]at h2;omega
     .have h2:(i'+1)*y.size<=i.toNat*y.size:=aar _ h;rw[aaT]at h2;omega
    rw[if_neg hy,e8 _ _ hv hj];exact((e9 _ _ _ _ hx' hc).poke hp.toPk hF).mono (λ_ _ h=>h) ht.1 (λ_ _ _=>rfl)
 .rw[Ka,if_neg hn];refine SR.poke hp.toPk hF e3 (.inr ⟨y,f,xs,_,_,hg,hu,by rw[abf]⟩) (λm hm=>by rw[Ka,if_neg hm]) (λ_ _=>rfl) hs.inj (λm cs' hm=>?_) hn (.inl ?_) (hs.sr n)
  .obtain⟨b2,he,e1,e2,_⟩:=hs.box hm;exact⟨b2,e1,e2⟩
  .intro cs j f' c h;rw[hg]at h;cases h
end
section
variable {P:aaF}{tt:TT}{B:Nat}{IoB:List Nat}{F0 F:Fz}{e:Env}{w:World}{ow:Nat->Option Nat->Option Nat}{a:Act}
theorem jD{g:Get}{x:aav}{av:AV}(h:addrOf g x=av)(hd:av≠.dead):∃n,x=.tmp n/\(g n=av\/∃cs,g n=.box cs/\av=.view n none):=by
 cases x with
 |tmp n=>
  refine⟨n,rfl,?_⟩;simp only[addrOf]at h;split at h
  .rename_i cs hg;exact .inr ⟨cs,hg,h.symm⟩
  .exact .inl h
 |_=>exact absurd h.symm (by simpa [addrOf] using hd)
theorem ja.addr(hx:ja B IoB F0 e (λn=>a.tmps.getD n undef) w F ow){x:aav}{s o:Nat}{cs:List (K×C)}(hg:da e s=.box cs)(h:addrOf (da e) x=.baddr s o\/(o=0/\addrOf (da e) x=.view s none)) :
  ∃b,ow s none=some b/\a.eval x=.pointer (some ⟨b,o,none⟩):=by
 obtain⟨b,vs,q1,q2,_⟩:=hx.box hg;refine⟨b,q2,?_⟩;have q1:a.tmps.getD s undef=.pointer (some ⟨b,0,none⟩):=q1;rcases h with h|⟨rfl,h⟩
 .obtain⟨n,rfl,hn|⟨_,_,hn⟩⟩:=jD h (by simp)
  .have hj:=hx.sr n;rw[hn]at hj;obtain⟨_,hh,b',h1,h2,h3⟩:=hj;have h2:a.tmps.getD s undef=.pointer (some ⟨b',0,none⟩):=h2;rw[q1]at h2;have hi:b=b':=by simpa using h2
   rw[hi];exact h3
  .cases hn
 .obtain⟨n,rfl,hn|⟨hh,hn,hv⟩⟩:=jD h (by simp)
  .have hj:=hx.sr n;rw[hn]at hj;exact(hj.1:a.tmps.getD n undef=a.tmps.getD s undef).trans q1
  .cases hv;exact q1
theorem Sim.stored{N:NP}{W0:World}{e':Env}(hs:Sim N B IoB W0 F0 e a w){b:Nat}{cs:List Value}(hb:b<w.heap.size/\(B<=b\/b∈IoB)){ow':Nat->Option Nat->Option Nat}(hw:∃us,Blk w b us)
  (hx:ja B IoB F0 e' (λn=>a.tmps.getD n undef) (w.setRow b cs.toArray) F ow'):Sim N B IoB W0 F0 e' a (w.setRow b cs.toArray):=by
 obtain⟨us,hw⟩:=hw;have hp:=Blk.poke hw cs
 refine⟨hs.defers,hs.tmps,hs.base,hs.f0,hs.kept.trans ⟨hp.os,hp.tape,hp.output,by rw[hp.size];exact aau _,λk hk hio=>hp.block k (λe=>?_),λk o hk hc=>by
  rw[hp.block k (λe=>by rw[e]at hk;rw[hw.isC hk]at hc;cases hc)];exact hk⟩,F,ow',hx⟩
 subst e;exact hb.2.elim (λh=>by omega) hio
theorem TZ(htt:dc P tt){N:NP}{W0:World}{e':Env}(hs:Sim N B IoB W0 F0 e a w){o:Oper}{t:Nat}{x y:aav}(hop:o.op=.store t x y)(hd:o.dst=none){obs:List Prop}(hst:vC tt e t x y=some (e',obs))
  {next:Act->World->Prop}{Q:Exit->Act->World->Prop} (hn:∀a' w',Sim N B IoB W0 F0 e' a' w'->next a' w'):o.wp P a w next Q:=by
 obtain⟨F,ow,hx⟩:=hs.rep;unfold vC at hst;cases hlk:lk tt t with
 |none=>rw[hlk]at hst;simp at hst
 |some d=>
  rw[hlk]at hst;have ht:=htt.td _ _ hlk;simp only[]at hst;cases hsv:Ur e (rdo tt (da e) t y) (Ch y) with
  |none=>rw[hsv]at hst;simp at hst
  |some q=>
   obtain⟨ks,e1⟩:=q;rw[hsv]at hst;simp only[]at hst;obtain⟨ow1,tok,hx1,hl,hk,ie⟩:=QZ hx hsv;cases hsz:aaq ks.length d.size with
   |false=>rw[hsz]at hst;simp at hst
   |true=>
    rw[hsz]at hst;simp only[]at hst;have ha:(a.eval y).cells.toList.length=d.size:=hl.trans (aao hsz)
    have h1:∀u∈(a.eval y).cells.toList,u.oneCell'=true:=by
     intro u hu;obtain⟨j,hj⟩:=abm.1 hu;have hc:j<ks.length:=by rw[<-hl];exact(aan.1 hj).1
     exact(hk j _ u (aam hc) hj).one
    have hy:∀ {b p:Nat}{vs:List Value}{ki:Nat->Option Nat->Option Nat},a.eval x=.pointer (some ⟨b,p,none⟩)->Blk w b vs->p+(a.eval y).cells.toList.length<=vs.length->(b<w.heap.size/\(B<=b\/b∈IoB)) ->
      ja B IoB F0 e' (λn=>a.tmps.getD n undef) (w.setRow b (Bb vs p (a.eval y).cells.toList).toArray) F ki->o.wp P a w next Q:=by
     intro b p vs ki hp hw hz ho jb;have ih:=UO ht hw ha hz h1
     have io:(execOp a.eval o).run P w=.ok .skip (w.setRow b (Bb vs p (a.eval y).cells.toList).toArray):=by
      obtain⟨dst,op,ty,pos,aft,gd⟩:=o;simp only[]at hop;subst hop;rw[<-hp]at ih;simp[execOp,ih]
     unfold abE;rw[io,Oper.upon_skip,hd];exact hn _ _ (hs.stored ho ⟨_,hw⟩ jb)
    have hq:∀ {s b:Nat},ow1 s none=some b->b<w.heap.size/\(B<=b\/b∈IoB):=λh=>hx1.bd _ _ _ h
    have hr:∀ {s p:Nat},Vr e1 s p ks=some (e',obs)->(addrOf (da e1) x=.baddr s p\/(p=0/\addrOf (da e1) x=.view s none))->o.wp P a w next Q:=by
     intro s p it hi;unfold Vr at it;split at it
     .rename_i cs hg;split at it
      .rename_i hle;simp only[aal,aap]at it;obtain⟨rfl,_⟩:=it;obtain⟨b,hb,hf⟩:=hx1.addr hg hi;have hz:=aaD hle;obtain⟨vs,ki,hw,ju,jb⟩:=hx1.writeBox hg hb hz hl hk ie;exact hy hf hw (by rw[ju,hl];exact hz) (hq hb) jb
      .cases it
     .cases it
    split at hst
    .rename_i s p hi;exact hr hst (.inl hi)
    .rename_i s hi;exact hr hst (.inr ⟨rfl,hi⟩)
    .rename_i s i p hi;split at hst
     .rename_i f y' xs hg;split at hst
      .rename_i xx hle hpk;simp only[aal,aap]at hst;obtain⟨rfl,_⟩:=hst;obtain⟨n,rfl,he|⟨_,_,hv⟩⟩:=jD hi (by simp)
       .have ix:=hx1.sr n;rw[he]at ix;obtain⟨_,t2,kj,b,cap,f2,g1,g2,g3,g4,g5⟩:=ix;rw[hg]at g1;cases g1;have hz:=aaD hle;obtain⟨b',hh,vs,q1,q2,q3,q4,jb⟩:=hx1.writeOwn hg g3 g4 hz hl hk (λj b h=>(ie j b h).2.1) (pack_cells hpk);have g2:a.tmps.getD s undef=.slice (some ⟨b,0,none⟩) xs.length cap:=g2;rw[g2]at q1
        have hm:b'=b:=by
         have:=congrArg (λv:Value=>match v with|.slice (some ad) _ _=>ad.block|_=>0) q1;exact this.symm
        subst hm;exact hy g5 q2 q3 (hq q4) jb
       .cases hv
      .cases hst
     .cases hst
    .cases hst
theorem SR.regain{F:Fz}{B:Nat}{w:World}{tm:Nat->Value}{g g':Get}{ow:Nat->Option Nat->Option Nat}{s n:Nat}{f f':Bool}{t:Ty}{ys:List t.T}(hg:g s=.v (.own f) (.lst t []))(hg':g' s=.v (.own f') (.lst t ys))
  (ho:∀m,m≠s->g' m=g m):∀ {av:AV},SR F B w tm g ow n av->SR F B w tm g' ow n av
 |.dead,_=>trivial
 |.v _ _,h=>h
 |.agg _ _,h=>h
 |.tup _,h=>h
 |.box _,h=>h
 |.faddr _ _,h=>h
 |.cond k a,h=>⟨λd b x hm=>⟨(h.1 d b x hm).1,by
   by_cases hd:d=s
   .rw[hd,hg'];rfl
   .rw[ho d hd];exact(h.1 d b x hm).2⟩,h.2.1,λhb=>SR.regain hg hg' ho (h.2.2.1 hb),h.2.2.2⟩
 |.view m none,h=>⟨h.1,by
   by_cases hd:m=s
   .rw[hd,hg'];rfl
   .rw[ho m hd];exact h.2.1,h.2.2⟩
 |.view m (some j),h=>by
  obtain⟨h0,cs,b,f2,c,h1,h2⟩:=h;have hd:m≠s:=λe=>by rw[e,hg]at h1;cases h1
  exact⟨h0,cs,b,f2,c,by rw[ho m hd];exact h1,h2⟩
 |.baddr m o,h=>by
  obtain⟨h0,cs,b,h1,h2⟩:=h;have hd:m≠s:=λe=>by rw[e,hg]at h1;cases h1
  exact⟨h0,cs,b,by rw[ho m hd];exact h1,h2⟩
 |.oaddr m i o,h=>by
  obtain⟨h0,t2,xs,b,cap,f2,h1,h2,h3,h4,h5⟩:=h
  have hd:m≠s:=λe=>by
   rw[e,hg]at h1;cases h1;simp at h4;omega
  exact⟨h0,t2,xs,b,cap,f2,by rw[ho m hd];exact h1,h2,h3,h4,h5⟩
theorem UZ(htt:dc P tt){N:NP}{W0:World}{e':Env}(hs:Sim N B IoB W0 F0 e a w){o:Oper}{x y:aav}{t u d:Nat}
  (hop:o.op=.call ⟨.builtin .copy,#[x,y],#[t,u]⟩) (hd:o.dst=some d) {obs:List Prop} (hst:xC tt e d x y t u=some (e',obs)) (hdN:N.ok d=true)
  {next:Act->World->Prop}{Q:Exit->Act->World->Prop} (hn:∀a' w',Sim N B IoB W0 F0 e' a' w'->next a' w'):o.wp P a w next Q:=by
 obtain⟨F,ow,hx⟩:=hs.rep;have hk:B<=w.heap.size:=aaB hs.base hs.kept.size;unfold xC at hst;split at hst
 .rename_i f' ty' ys' s hpl hr;split at hst
  .rename_i f ty xs hg;split at hst
   .rename_i ys sz hcast hel;split at hst
    .rename_i hb;simp only[aal,aap]at hst;obtain⟨rfl,rfl⟩:=hst;have hsz:=aao hb;subst hsz;obtain⟨el,he,ht⟩:=JC htt hel;have hy:RC F (lof B f') w (.lst ty ys) (a.eval y):=YC hcast (hx.plain hpl)
     have li:a.eval x=a.tmps.getD s undef:=by
      rcases hx.rdo tt t x with⟨n,rfl,kj⟩|⟨c',ki,kk⟩|hd
      .rw[kj]at hr;have ks:=hx.sr n;rw[hr]at ks;exact ks.1
      .rw[ki]at hr;cases hr
      .rw[hd]at hr;cases hr
     have ks:=hx.sr s;rw[hg]at ks;rcases ks with⟨t',e1,e2⟩|⟨t',lx,b,cap,vs,vv,e1,e2,e3,e4,e5,hh,e6,e7,e8,e9⟩
     .cases e1;have e2:a.tmps.getD s undef=.slice none 0 0:=e2
      have kc:(aaL (a.eval y)).run P w=.ok ys.length w:=by
       rcases hy.lst_cases with⟨lo,hv⟩|⟨bu,ou,cu,hv⟩
       .rw[hv,lo];simp[aaL]
       .rw[hv];simp[aaL]
      have hw:(aby ty.size 0 (a.eval y)).run P w=.ok #[] w:=by
       rcases hy.lst_cases with⟨lo,hv⟩|⟨bu,ou,cu,hv⟩
       .rw[hv];simp[abc]
       .rw[hv];exact abd (P:=P) w ty.size 0 ⟨bu,ou,none⟩ _ cu [] (by simp) (λj v hv=>by simp at hv)
      have kn:(abA #[t,u] o.type #[a.eval x,a.eval y]).run P w=.ok (goInt 0) w:=by
       rw[li,e2];simp only[abA];simp[aas he,kc,ht w,hw]
      have kp:(execOp a.eval o).run P w=.ok (.value (goInt 0)) w:=by
       obtain⟨dst,op,ty,pos,aft,gd⟩:=o;simp only[]at hop;subst hop;simp only[]at kn;simp[execOp,abG,invoke,abT,kn]
      have ih:da (Ta e s (.v (.own (f&&f')) (.lst ty (ys.take ([]:List ty.T).length++([]:List ty.T).drop ys.length)))) s=.v (.own (f&&f')) (.lst ty (ys.take ([]:List ty.T).length++([]:List ty.T).drop ys.length)):=by rw[Ka,if_pos rfl]
      have hx1:ja B IoB F0 (Ta e s (.v (.own (f&&f')) (.lst ty (ys.take ([]:List ty.T).length++([]:List ty.T).drop ys.length)))) (λn=>a.tmps.getD n undef) w F ow:=by
       refine⟨hx.sub,hx.new,hx.live,hx.inj,hx.bd,λn=>?_⟩;by_cases hnn:n=s
       .rw[hnn,ih];exact .inl ⟨ty,by simp,e2⟩
       .rw[Ka,if_neg hnn];exact SR.regain hg ih (λm hm=>by rw[Ka,if_neg hm]) (hx.sr n)
      unfold abE;rw[kp,abe,hd];apply hn;refine⟨hs.defers,hs.tmps.put hdN _,hs.base,hs.f0,hs.kept,F,λs=>if s=d then(λ_=>none) else ow s,?_⟩;rw[show(λn=>(a.put (some d) (goInt 0)).tmps.getD n undef)=λn=>if n=d then goInt 0 else a.tmps.getD n undef from funext (Ja a d _ (by rw[hs.tmps.size];exact NP.ok_lt hdN))];refine hx1.put hk (Ua.refl _ _) hx1.live (λi b h=>by simp at h) (λi i' b h=>by simp at h) (λg' _ _=>?_);have it:((Nat.min ys.length ([]:List ty.T).length:Nat):Int)=0:=by simp
      rw[it];show RC F B w (.int .i64 0) (if d=d then goInt 0 else _);rw[if_pos rfl];exact RC.int _ _
     cases e1;have e2:a.tmps.getD s undef=.slice (some ⟨b,0,none⟩) xs.length cap:=e2;have hf:=cD B f f';let m:Nat:=Nat.min ys.length xs.length
     have ju:∃us:List Value,us.length=m*ty.size/\(∀u∈us,u.oneCell'=true)/\(aby ty.size m (a.eval y)).run P w=.ok us.toArray w /\
       (aaL (a.eval y)).run P w=.ok ys.length w /\
       ∀(i j:Nat) (z:ty.T) (c:C),i<m->ys[i]? = some z->(cells ty z)[j]? = some c->∃u,us[i*ty.size+j]? = some u/\RC F (lof B f') w c u:=by
      rcases hy.lst_cases with⟨lo,hv⟩|⟨bu,ou,cu,hv⟩
      .subst lo;rw[hv];refine⟨[],by simp[m],by simp,by simp[abc],by simp[aaL],λi j z c hi hz=>by simp at hz⟩
      .rw[hv]at hy⊢;obtain⟨_,_,_,us,km,ho⟩:=hy.row;have hm:m*ty.size<=us.length:=by rw[km.len];exact aar _ (Nat.min_le_left _ _)
       have kx:(us.take (m*ty.size)).length=m*ty.size:=by rw[aaP];omega
       refine⟨us.take (m*ty.size),kx,λu hu=>km.one u (List.mem_of_mem_take hu),?_,by simp[aaL],λi j z c hi hz hc=>?_⟩
       .exact abd (P:=P) w ty.size m ⟨bu,ou,none⟩ _ cu _ kx (λj v hv=>by
         rw[aaE]at hv;split at hv
         .rw[addr_add];exact(ho j v hv).1
         .cases hv)
       .have hj:j<ty.size:=by rw[<-We ty z];exact(aan.1 hc).1
        obtain⟨u,hu,hr⟩:=km.at_ i j z c hz hc;exact⟨u,by rw[aaE,if_pos (Vg hi hj)];exact hu,hr⟩
     obtain⟨us,kb,ky,kz,kc,ke⟩:=ju;have ix:m<=xs.length:=Nat.min_le_right _ _
     have ha:0+us.length<=vs.length:=by
      rw[kb,e5,aaK];exact aar _ (by omega)
     obtain⟨eb,hq⟩:=e4;have hst:=abD P b 0 eb us 0 vs.toArray w hq (by simpa using ha) ky;have kq:(List.take (0+0) vs.toArray.toList++us++List.drop (0+0+us.length) vs.toArray.toList).toArray=(Bb vs 0 us).toArray:=by simp[Bb]
     rw[kq]at hst
     have kn:(abA #[t,u] o.type #[a.eval x,a.eval y]).run P w=.ok (goInt m) (w.setRow b (Bb vs 0 us).toArray):=by
      rw[li,e2];simp only[abA];simp[aas he,kc,ht w,kz,hst,m]
     have kp:(execOp a.eval o).run P w=.ok (.value (goInt m)) (w.setRow b (Bb vs 0 us).toArray):=by
      obtain⟨dst,op,ty,pos,aft,gd⟩:=o;simp only[]at hop;subst hop;simp only[]at kn;simp[execOp,abG,invoke,abT,kn]
     have hp:=Blk.poke ⟨eb,hq⟩ (Bb vs 0 us);have hF:Df F w (w.setRow b (Bb vs 0 us).toArray):=hp.same e7;have ih:da (Ta e s (.v (.own (f&&f')) (.lst ty (ys.take xs.length++xs.drop ys.length)))) s=.v (.own (f&&f')) (.lst ty (ys.take xs.length++xs.drop ys.length)):=by rw[Ka,if_pos rfl]
     have hlen:(ys.take xs.length++xs.drop ys.length).length=xs.length:=by
      simp only[aay,aaP,abK];omega
     have hx1:ja B IoB F0 (Ta e s (.v (.own (f&&f')) (.lst ty (ys.take xs.length++xs.drop ys.length)))) (λn=>a.tmps.getD n undef) (w.setRow b (Bb vs 0 us).toArray) F ow:=by
      refine⟨hx.sub,hx.new,hx.sub.pk hx.live hp.toPk (hx.bd _ _ _ e3).2 λb' o' h=>by rw[hF _ _ h];exact hx.live _ _ h,hx.inj,λs1 i1 b1 h=>by rw[hp.size];exact hx.bd _ _ _ h,λn=>?_⟩;by_cases hnn:n=s
      .rw[hnn,ih]
       refine .inr ⟨ty,_,b,cap,Bb vs 0 us,λi' j=>(Bb vs 0 us).getD (i'*ty.size+j) undef,rfl,by rw[hlen];exact e2,e3,hp.blk,
        by rw[dl ha];exact e5,by rw[hlen];exact hh,aaB hf.1 e6,e7,λi' j io hj=>?_,λi' j x' c hx' hc=>?_⟩
       .rw[hlen]at io
        have:i'*ty.size+j<(Bb vs 0 us).length:=by
         rw[dl ha,e5];exact aaC (Vg io hj) (aar _ hh)
        show(Bb vs 0 us)[i'*ty.size+j]? = some ((Bb vs 0 us).getD (i'*ty.size+j) undef);rw[aaw,aam this];rfl
       .have hj:j<ty.size:=by rw[<-We ty x'];exact(aan.1 hc).1
        have io:i'<xs.length:=by
         have:=(aan.1 hx').1;rw[hlen]at this;exact this
        show RC F _ _ c ((Bb vs 0 us).getD (i'*ty.size+j) undef);rw[aaw,As ha];have kx:(ys.take xs.length).length=m:=by simp only[aaP,m];exact Nat.min_comm _ _
        by_cases him:i'<m
        .rw[aax (by omega),aaE,if_pos io]at hx';obtain⟨u,hu,hr⟩:=ke i' j x' c him hx' hc;rw[if_pos ⟨aaR _,by rw[kb,aaK];exact Vg him hj⟩,acd,hu];exact(hr.poke hp.toPk hF).mono (λ_ _ h=>h) hf.2 (λ_ _ _=>rfl)
        .have ie:m=ys.length:=by
          have:m=ys.length\/m=xs.length:=by simp only[m];rcases Nat.le_total ys.length xs.length with h|h
                                            .exact .inl (Nat.min_eq_left h)
                                            .exact .inr (Nat.min_eq_right h)
          omega
         rw[aaA (by omega),kx,aaH,show ys.length+(i' - m)=i' by omega]at hx'
         have jb:¬ (0<=i'*ty.size+j/\i'*ty.size+j<0+us.length):=by
          rw[kb];have:m*ty.size<=i'*ty.size:=aar _ (by omega);omega
         rw[if_neg jb,e8 _ _ io hj];exact((e9 _ _ _ _ hx' hc).poke hp.toPk hF).mono (λ_ _ h=>h) hf.1 (λ_ _ _=>rfl)
      .rw[Ka,if_neg hnn];refine SR.poke hp.toPk hF e3 (.inr ⟨ty,f,xs,_,_,hg,ih,hlen⟩) (λm hm=>by rw[Ka,if_neg hm]) (λ_ _=>rfl) hx.inj (λm cs' hm=>?_) hnn (.inl ?_) (hx.sr n)
       .obtain⟨b2,lp,q1,q2,_⟩:=hx.box hm;exact⟨b2,q1,q2⟩
       .intro cs j f' c h;rw[hg]at h;cases h
     have hl:=hx.bd _ _ _ e3;have kr:=hs.stored hl ⟨_,eb,hq⟩ hx1;unfold abE;rw[kp,abe,hd];apply hn;refine⟨kr.defers,kr.tmps.put hdN _,kr.base,kr.f0,kr.kept,F,λs=>if s=d then(λ_=>none) else ow s,?_⟩;rw[show(λn=>(a.put (some d) (goInt m)).tmps.getD n undef)=λn=>if n=d then goInt m else a.tmps.getD n undef from funext (Ja a d _ (by rw[hs.tmps.size];exact NP.ok_lt hdN))];refine hx1.put (by rw[hp.size];exact hk) (Ua.refl _ _) hx1.live (λi b h=>by simp at h) (λi i' b h=>by simp at h) (λg' _ _=>?_);show RC F B _ _ _;simp only[if_true];exact RC.int _ _
    .cases hst
   .cases hst
  .cases hst
 .cases hst
variable {sp:SP}
theorem qn(htt:dc P tt)(hsp:∀f s,spk sp f=some s->Con P f s){N:NP}{W0:World}{e':Env}(hs:Sim N B IoB W0 F0 e a w){ops:Array Oper}{o:Oper}{obs:List Prop}
  (hst:stepF tt sp (ops.toList.map (·.dst)) e o=some (e',obs)) (ho:∀p∈obs,p) (hdN:∀d,o.dst=some d->N.ok d=true) {next:Act->World->Prop}{Q:Exit->Act->World->Prop} (hn:∀a' w',Sim N B IoB W0 F0 e' a' w'->next a' w') :
  if abb o (abw ops a.tmps) then o.wp P a w next Q else next (a.put o.dst undef) w:=by
 have hw:o.guard=none->abb o (abw ops a.tmps)=true:=λh=>by unfold abb;rw[h]
 unfold stepF at hst;split at hst
 .rename_i s d hop hd hg;rw[if_pos (hw hg)];split at hst
  .rename_i hb;exact GZ hs hop hd hb hst (hdN d hd) hn
  .have:=qs htt hsp hs (g:=da e) (λn=>.inr rfl) (.inl rfl) hst ho hdN (Q:=Q) hn;rw[if_pos (hw hg)]at this;exact this
 .rename_i t x y hop hd hg;rw[if_pos (hw hg)];exact TZ htt hs hop hd hst hn
 .rename_i args ts d hop hd hg;rw[if_pos (hw hg)];split at hst
  .rename_i x y t u ha ht;have hh:args=#[x,y]:=by apply aaN;simpa using ha
   have hi:ts=#[t,u]:=by apply aaN;simpa using ht
   subst hh;subst hi;exact PZ htt hs hop hd hst ho (hdN d hd) hn
  .cases hst
 .rename_i args ts d hop hd hg;rw[if_pos (hw hg)];split at hst
  .rename_i x y t u ha ht;have hh:args=#[x,y]:=by apply aaN;simpa using ha
   have hi:ts=#[t,u]:=by apply aaN;simpa using ht
   subst hh;subst hi;exact UZ htt hs hop hd hst (hdN d hd) hn
  .cases hst
 .exact qs htt hsp hs (g:=da e) (λn=>.inr rfl) (.inl rfl) hst ho hdN hn
end
theorem rn{a:AV}{obs:List Prop}{out:Out}(h:mk1 a obs=some out):out.io=none:=by
 cases h;rfl
theorem VZ{tt:TT}{raw:Get}{k:Key}{oty:Nat}{c a b:aav}{out:Out}(h:Pr tt raw k oty c a b=some out):out.io=none:=by
 unfold Pr at h
 repeat' split at h
 all_goals first
  |exact rn h
  |(cases h;done)
theorem WZ{g:Get}{sz:Nat}{n:Int}{a:AV}{out:Out}(h:Ym g sz n a=some out):out.io=none:=by
 unfold Ym at h
 repeat' split at h
 all_goals first
  |exact rn h
  |(cases h;done)
theorem XZ{tt:TT}{t:Nat}{m:Int}{hh:Option Int}{v:Bool×PV}{out:Out}(h:Xk tt t m hh v=some out):out.io=none:=by
 unfold Xk at h
 repeat' split at h
 .unfold Kr at h
  repeat' split at h
  all_goals first
   |exact rn h
   |(cases h;done)
 .unfold Mr at h
  repeat' split at h
  all_goals first
   |exact rn h
   |(cases h;done)
 .cases h
theorem tn{p:PT}{ps:List PT}{x:Option (Bool×p.T)}{y:Option (Bool×Option Nat×Ab ps)}{bo:Bool}{s:Option Nat}{z:Ab (p::ps)}(h:kg x y=some (bo,s,z)) :
  ∃bo' xs,y=some (bo',s,xs):=by
 unfold kg at h;split at h
 .rename_i b1 x1 b2 s1 xs1;simp only[aal,aap]at h;obtain⟨_,rfl,_⟩:=h;exact⟨_,_,rfl⟩
 .cases h
theorem YZ{g:Get}{a:AV}{s:Nat}{x:List Int×Int}(h:Vm g a=some (s,x)):Ga (g s)=false:=by
 unfold Vm at h;split at h
 .rename_i s';split at h
  .rename_i b p hg;simp only[aal,aap]at h;obtain⟨rfl,_⟩:=h;rw[hg];rfl
  .cases h
 .cases h
theorem fl{g:Get}:∀ {ps:List PT}{l:List AV}{bo:Bool}{s:Nat}{x:Ab ps},Wb g ps l=some (bo,some s,x)->Dh ps=true/\Ga (g s)=false
 |[],[],bo,s,x,h=>by simp[Wb]at h
 |[],_::_,bo,s,x,h=>by simp[Wb]at h
 |p::ps,[],bo,s,x,h=>by cases p<;>simp[Wb]at h
 |p::ps,a::r,bo,s,x,h=>by
  cases p with
  |rdr=>
   refine⟨rfl,?_⟩;simp only[Wb]at h;split at h
   .rename_i s1 x1 bo1 xs1 hr hd;simp only[aal,aap]at h;obtain⟨_,rfl,_⟩:=h;exact YZ hr
   .cases h
  |int k=>simp only[Wb]at h;obtain⟨_,_,h'⟩:=tn h;show Dh ps=true/\_;exact fl h'
  |bool=>simp only[Wb]at h;obtain⟨_,_,h'⟩:=tn h;show Dh ps=true/\_;exact fl h'
  |str=>simp only[Wb]at h;obtain⟨_,_,h'⟩:=tn h;show Dh ps=true/\_;exact fl h'
  |lst t=>simp only[Wb]at h;obtain⟨_,_,h'⟩:=tn h;show Dh ps=true/\_;exact fl h'
  |st t=>simp only[Wb]at h;obtain⟨_,_,h'⟩:=tn h;show Dh ps=true/\_;exact fl h'
theorem ZZ{tt:TT}{sp:SP}{raw g:Get}{k:Key}{oty:Nat}{o:Op}{out:Out}(h:sev tt sp raw k g oty o=some out) :
  out.io=none\/∃f args ts s n p,o=.call ⟨.value (.func f),args,ts⟩/\spk sp f=some s/\Dh s.pts=true/\out.io=some (n,p)/\Ga (g n)=false:=by
 unfold sev at h;split at h
 all_goals try (repeat' split at h)
 all_goals first
  |exact .inl (rn h)
  |exact .inl (VZ h)
  |exact .inl (WZ h)
  |exact .inl (XZ h)
  |(cases h;done)
  |skip
 rename_i f args ts _ s hs _ _;unfold Nr at h;split at h
 .rename_i bo r xs hd;split at h
  .simp only[aal]at h;subst h;exact .inl rfl
  .rename_i r' hio _;simp only[aal]at h;subst h;have:=fl hd;exact .inr ⟨f,args,ts,s,_,_,rfl,hs,this.1,rfl,this.2⟩
  .cases h
 .cases h
theorem Cs{n:Nat}:∀ {l:List Nat},Pf n l=true↔n∈l
 |[]=>by simp[Pf]
 |m::r=>by
  simp only[Pf,aaO];cases hb:aaq n m with
  |true=>simp[aao hb]
  |false=>
   have hne:n≠m:=λe=>by rw[e,aaJ]at hb;cases hb
   simp only[hne,false_or];exact Cs
theorem j0(rs:List Nat)(e:Env)(n:Nat):only rs e n=.dead\/only rs e n=da e n:=by
 unfold only;cases Pf n rs with
 |true=>exact .inr rfl
 |false=>exact .inl rfl
theorem G0{rs:List Nat}{e e2:Env}(h:∀n,n∈rs->da e2 n=da e n):only rs e2=only rs e:=by
 funext n
 unfold only;cases hm:Pf n rs with
 |true=>exact h n (Cs.1 hm)
 |false=>rfl
theorem H0{k:Key}{a:AV}(h:Ga (strip k a)=false):Ga a=false:=by
 cases a<;>first|rfl|(simp[strip,Ga]at h)
theorem gl{e e1:Env}{k:Key}{io:Option (Nat×Int)}(h:Uc e k io=some e1):∀n,(∀p,io≠some (n,p))->da e1 n=da e n:=by
 intro n hn;cases io with
 |none=>simp only[Uc,aal]at h;rw[h]
 |some q=>
  obtain⟨s,p⟩:=q;have hs:n≠s:=λe=>hn p (by rw[e]);simp only[Uc]at h;split at h
  .split at h
   all_goals (simp only[aal]at h;subst h;rw[Ka,if_neg hs])
  .cases h
theorem O0{e e1 e2:Env}{k:Key}{io:Option (Nat×Int)}(h:Uc e k io=some e1)(heq:∀s p,io=some (s,p)->da e2 s=da e s) :
  ∃e3,Uc e2 k io=some e3/\(∀n p,io=some (n,p)->da e3 n=da e1 n):=by
 cases io with
 |none=>exact⟨e2,rfl,λn p h=>by cases h⟩
 |some q=>
  obtain⟨s,p⟩:=q;have hs:=heq s p rfl;simp only[Uc]at h⊢;rw[hs];split at h
  .rename_i b q' hg;split at h
   all_goals (
    simp only[aal]at h;subst h;refine⟨_,rfl,λn p' hnp=>?_⟩;simp only[aal,aap]at hnp;obtain⟨rfl,_⟩:=hnp;rw[Ka,Ka,if_pos rfl,if_pos rfl])
  .cases h
theorem P0{tt:TT}{sp:SP}{all:List Oper}{ds:List (Option Nat)}{e e' e2:Env}{o:Oper}{obs:List Prop}
  (h:stepW tt sp ds setW (only (Cf all ds o) e) e o=some (e',obs)) (heq:∀n,n∈Cf all ds o\/n∈writes sp all ds o->da e2 n=da e n) :
  (∀n,n ∉ writes sp all ds o->da e' n=da e n) /\
  ∃e2',stepW tt sp ds setW (only (Cf all ds o) e2) e2 o=some (e2',obs)/\(∀n,n∈writes sp all ds o->da e2' n=da e' n)/\(∀n,n ∉ writes sp all ds o->da e2' n=da e2 n):=by
 have hq:only (Cf all ds o) e2=only (Cf all ds o) e:=G0 (λn hn=>heq n (.inl hn));unfold stepW at h⊢;rw[hq];cases hgo:guardOf (only (Cf all ds o) e) ds o.guard with
 |none=>rw[hgo]at h;simp at h
 |some k=>
  rw[hgo]at h;simp only[]at h⊢;cases hsev:sev tt sp (only (Cf all ds o) e) k (λn=>strip k (only (Cf all ds o) e n)) o.type o.op with
  |none=>rw[hsev]at h;simp at h
  |some out=>
   obtain⟨av,hv,io⟩:=out;cases hdst:o.dst with
   |none=>rw[hsev,hdst]at h;simp at h
   |some d=>
    rw[hsev,hdst]at h;simp only[]at h⊢
    have hj:d∈writes sp all ds o:=by
     unfold writes
     repeat' split
     all_goals simp[hdst]
    have hk:∀s p,io=some (s,p)->s∈writes sp all ds o:=by
     intro s p ht;rcases ZZ hsev with hn|⟨f,args,ts,hw,n,p',hr,hu,hs,hn,hi⟩
     .have:io=none:=hn;rw[this]at ht;cases ht
     .have hn:io=some (n,p'):=hn;rw[hn]at ht;simp only[aal,aap]at ht;obtain⟨rfl,_⟩:=ht
      have hm:Pf n (Cf all ds o)=true:=by
       have:=H0 hi;unfold only at this;cases hm:Pf n (Cf all ds o) with
       |true=>rfl
       |false=>rw[hm]at this;simp[Ga]at this
      unfold writes;rw[hr];simp only[hu,hs];exact abn _ (Cs.1 hm)
    cases hmv:Uc e k io with
    |none=>rw[hmv]at h;simp at h
    |some e1=>
     obtain⟨e3,hl,h3⟩:=O0 (e2:=e2) hmv (λs p ht=>heq s (.inr (hk s p ht)));rw[hmv]at h;rw[hl];cases hbk:(bears av&&!k.isEmpty) with
     |true=>rw[hbk]at h;simp at h
     |false=>
      rw[hbk]at h;simp only[]at h⊢
      have hh:da e3 d=da e1 d:=by
       by_cases hd:∃p,io=some (d,p)
       .obtain⟨p,hp⟩:=hd;exact h3 d p hp
       .rw[gl hl d (λp hp=>hd ⟨p,hp⟩),gl hmv d (λp hp=>hd ⟨p,hp⟩)];exact heq d (.inr hj)
      rw[hh];cases hos:(Bh d (Pg k av)||(!k.isEmpty&&!Ga (da e1 d))) with
      |true=>rw[hos]at h;simp at h
      |false=>
       rw[hos]at h;simp only[setW]at h⊢;rw[hh];cases hdd:Ga (da e1 d) with
       |false=>rw[hdd]at h;simp at h
       |true=>
        rw[hdd]at h;simp only[aal,aap]at h;obtain⟨rfl,rfl⟩:=h;refine⟨λn hn=>?_,_,rfl,λn hn=>?_,λn hn=>?_⟩
        .have ho:n≠d:=λe=>hn (e▸hj);rw[Ka,if_neg ho];exact gl hmv n (λp hp=>hn (hk n p hp))
        .rw[Ka,Ka];split
         .rfl
         .by_cases hp:∃p,io=some (n,p)
          .obtain⟨p,hp⟩:=hp;exact h3 n p hp
          .rw[gl hl n (λp h=>hp ⟨p,h⟩),gl hmv n (λp h=>hp ⟨p,h⟩)];exact heq n (.inr hn)
        .have ho:n≠d:=λe=>hn (e▸hj);rw[Ka,if_neg ho];exact gl hl n (λp hp=>hn (hk n p hp))
theorem T0{e e1:Env}{k:Key}{io:Option (Nat×Int)}(h:Uc e k io=some e1)(n:Nat):Ve (da e1 n)=Ve (da e n):=by
 cases io with
 |none=>simp only[Uc,aal]at h;rw[h]
 |some q=>
  obtain⟨s,p⟩:=q;simp only[Uc]at h;split at h
  .rename_i b q' hg;split at h
   all_goals (
    simp only[aal]at h;subst h;rw[Ka];split
    .rename_i hn;rw[hn,hg];rfl
    .rfl)
  .cases h
theorem kD{s:Nat}:∀ {l:List (Option Nat)},lg s l=true↔some s∈l
 |[]=>by simp[lg]
 |none::r=>by simp only[lg,aaO];rw[kD];simp
 |some d::r=>by
  simp only[lg,aaO];cases hb:aaq s d with
  |true=>simp[aao hb]
  |false=>
   have hne:s≠d:=λe=>by rw[e,aaJ]at hb;cases hb
   simp only[aal,hne,false_or];exact kD
theorem lD{sp:SP}{all:List Oper}{ds:List (Option Nat)}{o:Oper}{s d:Nat}(h:handed sp all ds o=some (s,d)):o.op=.move (.tmp s)/\o.dst=some d/\o.guard=none/\lg s ds=false:=by
 unfold handed at h;split at h
 .rename_i s' d' h1 h2 h3;split at h
  .rename_i h4 h5;simp only[aal,aap]at h;obtain⟨rfl,rfl⟩:=h;exact⟨h1,h2,h3,h4⟩
  .cases h
 .cases h
theorem U0{tt:TT}{sp:SP}{all:List Oper}{ds:List (Option Nat)}{e e':Env}{o:Oper}{obs:List Prop}(h:stepS tt sp all ds e o=some (e',obs)){n:Nat}(hn:o.dst≠some n) :
  Ve (da e' n)=Ve (da e n):=by
 unfold stepS at h;split at h
 .rename_i s d hh;obtain⟨_,hd,_,_⟩:=lD hh;split at h
  .rename_i e2 hb hs;simp only[aal,aap]at h;obtain⟨rfl,_⟩:=h;unfold setW at hs;split at hs
   .simp only[aal]at hs;subst hs;rw[Ka,if_neg (λe=>hn (by rw[hd,e]))]
   .cases hs
  .cases h
 .unfold stepW at h;split at h
  .cases h
  .split at h
   .rename_i av obs0 io d _ hd;split at h
    .rename_i e1 hmv hbk;split at h
     .rename_i e2 hos hw;simp only[aal,aap]at h;obtain⟨rfl,_⟩:=h;unfold setW at hw;split at hw
      .simp only[aal]at hw;subst hw;rw[Ka,if_neg (λe=>hn (by rw[hd,e])),T0 hmv]
      .cases hw
     .cases h
    .cases h
   .cases h
theorem mD{tt:TT}{sp:SP}{all:List Oper}{ds:List (Option Nat)}{e e' e2:Env}{o:Oper}{obs:List Prop}
  (h:stepS tt sp all ds e o=some (e',obs)) (heq:∀n,n∈reads sp all ds o\/n∈writes sp all ds o->da e2 n=da e n) (hbx:∀n,lg n ds=false->Ve (da e2 n)=Ve (da e n)) :
  (∀n,n ∉ writes sp all ds o->da e' n=da e n) /\
  ∃e2',stepS tt sp all ds e2 o=some (e2',obs)/\(∀n,n∈writes sp all ds o->da e2' n=da e' n)/\(∀n,n ∉ writes sp all ds o->da e2' n=da e2 n):=by
 unfold stepS at h⊢;unfold reads at heq;cases hh:handed sp all ds o with
 |none=>
  rw[hh]at h heq;exact P0 h heq
 |some q=>
  obtain⟨s,d⟩:=q;rw[hh]at h;obtain⟨hk,hd,hj,hl⟩:=lD hh;simp only[]at h⊢
  have hw:writes sp all ds o=[d]:=by
   unfold writes;rw[hk,hd];rfl
  have hi:da e2 d=da e d:=heq d (.inr (by rw[hw];simp));rw[hbx s hl];split at h
  .rename_i e3 hb hs;simp only[aal,aap]at h;obtain⟨rfl,rfl⟩:=h;unfold setW at hs⊢;rw[hi];split at hs
   .rename_i hdd;simp only[aal]at hs;subst hs;rw[hb];refine⟨λn hn=>?_,_,rfl,λn hn=>?_,λn hn=>?_⟩
    .rw[hw]at hn;simp at hn;rw[Ka,if_neg hn]
    .rw[hw]at hn;simp at hn;subst hn;rw[Ka,Ka,if_pos rfl,if_pos rfl]
    .rw[hw]at hn;simp at hn;rw[Ka,if_neg hn]
   .cases hs
  .cases h
theorem V0{tt:TT}{sp:SP}{all:List Oper}{ds:List (Option Nat)}{e e':Env}{o:Oper}{obs:List Prop}(h:stepS tt sp all ds e o=some (e',obs)) :
  ∃g,(∀n,g n=.dead\/g n=da e n)/\stepW tt sp ds setW g e o=some (e',obs):=by
 unfold stepS at h;cases hh:handed sp all ds o with
 |none=>rw[hh]at h;exact⟨_,j0 _ _,h⟩
 |some q=>
  obtain⟨s,d⟩:=q;rw[hh]at h;obtain⟨hl,hd,hk,hm⟩:=lD hh;simp only[]at h;refine⟨da e,λ_=>.inr rfl,?_⟩;split at h
  .rename_i e3 hb hs;simp only[aal,aap]at h;obtain⟨rfl,rfl⟩:=h;simp only[aat,Bool.not_eq_true']at hb;unfold stepW;rw[hk,hd,hl]
   have hi:∃cs,da e s=.box cs:=by
    cases hg:da e s<;>rw[hg]at hb<;>simp[Ve]at hb;exact⟨_,rfl⟩
   obtain⟨cs,hj⟩:=hi;simp only[guardOf,sev,Xm,hj,strip,mk1,Uc,bears,Bool.false_and,Pg,Bh,hb.2,List.isEmpty_nil,Bool.not_true,Bool.or_self,hs,Ah]
  .cases h
theorem XO{tt:TT}{sp:SP}{ds:List (Option Nat)}{all:List Oper}:∀ {l:List Oper}{e e':Env}{obs:List Prop},Zm tt sp ds all l e=some (e',obs) ->
  ∃E:Nat->Env,E 0=e/\E l.length=e'/\∀i o,l[i]? = some o->∃p,stepS tt sp all ds (E i) o=some (E (i+1),p)/\∀q∈p,q∈obs
 |[],e,e',obs,h=>by
  simp only[Zm,aal,aap]at h;exact⟨λ_=>e,rfl,h.1,λi o ho=>by simp at ho⟩
 |o::r,e,e',obs,h=>by
  simp only[Zm]at h;split at h
  .rename_i e1 p hst;split at h
   .rename_i e2 q hr;simp only[aal,aap]at h;obtain⟨rfl,rfl⟩:=h;obtain⟨E,h0,h1,h2⟩:=XO hr;refine⟨λi=>match i with|0=>e|i+1=>E i,rfl,h1,λi o' ho=>?_⟩;cases i with
    |zero=>
     simp only[aaW,aal]at ho;subst ho;refine⟨p,?_,λq hq=>abW _ hq⟩;show stepS _ _ _ _ _ _=some (E 0,p);rw[h0];exact hst
    |succ i=>
     obtain⟨p',hh,hi⟩:=h2 i o' (by simpa using ho);exact⟨p',hh,λq hq=>abn _ (hi q hq)⟩
   .cases h
  .cases h
theorem nD{tt:TT}{sp:SP}{ds:List (Option Nat)}:∀ {l:List Oper}{e e':Env}{obs:List Prop},runF tt sp ds l e=some (e',obs) ->
  ∃E:Nat->Env,E 0=e/\E l.length=e'/\∀i o,l[i]? = some o->∃p,stepF tt sp ds (E i) o=some (E (i+1),p)/\∀q∈p,q∈obs
 |[],e,e',obs,h=>by
  simp only[runF,aal,aap]at h;exact⟨λ_=>e,rfl,h.1,λi o ho=>by simp at ho⟩
 |o::r,e,e',obs,h=>by
  simp only[runF]at h;split at h
  .rename_i e1 p hst;split at h
   .rename_i e2 q hr;simp only[aal,aap]at h;obtain⟨rfl,rfl⟩:=h;obtain⟨E,h0,h1,h2⟩:=nD hr;refine⟨λi=>match i with|0=>e|i+1=>E i,rfl,h1,λi o' ho=>?_⟩;cases i with
    |zero=>
     simp only[aaW,aal]at ho;subst ho;refine⟨p,?_,λq hq=>abW _ hq⟩;show stepF _ _ _ _ _=some (E 0,p);rw[h0];exact hst
    |succ i=>
     obtain⟨p',hh,hi⟩:=h2 i o' (by simpa using ho);exact⟨p',hh,λq hq=>abn _ (hi q hq)⟩
   .cases h
  .cases h
end Go.Proofs.YteogppapbognjaaGreatDoor
