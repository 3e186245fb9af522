/-
  A region whose operations come in any order that its edges allow. A region, run: in any order that it may take. Regions, and the rules of the code around them. No statement is proved here.
-/
import Derived.Test.YteogppapbognjaaGreatDoorA1
import Derived.Laws.StructEq
import Derived.Test.YteogppapbognjaaGreatDoorProg
import Derived.Shelf.SlSortFuncK.WholeK
import Derived.Shelf.GgSortFunc.Tiny
import Derived.Tactics2
namespace Go.Proofs.YteogppapbognjaaGreatDoor
open Go
open _root_.Option.some renaming injEq→aal
open _root_.Bool renaming and_eq_true→aam,or_eq_true→aaF,not_eq_true'→aaM,false_eq_true→acd,or_eq_false_iff→acH,and_true→acM
open _root_.Nat renaming eq_of_beq_eq_true→aan,beq→aau,zero_add→aaw,le_refl→aaz,le_trans→aaL,lor→aaV,beq_refl→aaW,lt_of_lt_of_le→abg,sub_zero→abC,shiftLeft→abE,le_of_ble_eq_true→abH,strongRecOn→abK,ble→abT,mul_one→aca,lt_succ_self→ack,sub_self→acl,add_zero→acn,zero_le→acu,min_self→acR,testBit→acW
open _root_.List renaming getD_eq_getElem?_getD→aao,getElem?_eq_getElem→aap,mem_cons→aaA,getElem?_cons_succ→aaH,getElem?_cons_zero→aaJ,getElem?_eq_some_iff→aaO,mem_map→aaP,mem_append→aaX,mem_singleton_self→aaZ,mem_iff_getElem?→abb,getElem?_set_ne→abc,getElem?_replicate→abf,length_append→abh,count_pos_iff→abi,mem_filter→abj,pairwise_cons→abk,mem_cons_self→abl,take_of_length_le→abm,getElem?_set_self→abn,getElem?_eq_none→abo,drop_zero→abr,replicate→abu,mem_of_getElem?→abv,map_cons→aby,getElem?_append_left→abz,getElem?_drop→abD,length_cons→abF,length_singleton→abI,length_set→abO,mem_cons_of_mem→abP,take_take→abV,getElem?_append_right→ace,ext_getElem?→acg,getElem?_map→ach,getElem_mem→acm,range'→act,mem_append_right→acx,take_zero→acy,mem_append_left→acD,getElem?_modify→acE,range→acG,set_cons_succ→acP,findIdx?_cons→acU,getElem?_take→acV
open _root_.Array renaming getD_eq_getD_getElem?→aaq,getElem?_toList→aar,getElem?_eq_getElem→aas,getElem?_eq_some_iff→aaB,toList_setIfInBounds→aaK,length_toList→aaN,toList_replicate→aaS,getElem?_eq_none_iff→abw,getElem?_setIfInBounds_self_of_lt→abx,replicate→abA,size_setIfInBounds→abB,ext'→abM,getElem?_setIfInBounds→abX,toList_modify→acN
open Go.Result renaming andThen_ok→aat
open Go renaming Program→aav,run_underlying→aaE,ResultVar→aaG,wpOps_cons→aaQ,part→abd,Operand→abJ,isAgg→abU,yielded→abZ,wp_region_any→acf,results→acj,MapEntry→acq,wp_mono→acA,typeInfo→acI
open Go.Proofs.YteogppapbognjaaGreatDoor renaming clean→aax,runF→aaY,plainR→abp,settle→abq,transfer→acs,stepF→acB,mask→acC,isC→acJ
open Go.Region renaming binds→aay,ready→aaI,wanted→aaU
open Go.Sem renaming run_bind→aaC,run_pure→aba,run→abt
open _root_.Prod.mk renaming injEq→aaD
open Go.Proofs.Tryz renaming prog→aaR
open _root_.Option renaming map_eq_some_iff→aaT,map_some→acZ
open Go.Instr renaming checkKey→abe,entryStore→abG,loadAt→abL,next→abN,sureAddr→abS,mapEntry→abY,findAsking→aco,lookup→acp,entry→acv,range→acw,sameBits→acz,findNow→acK,fieldAt→acL,makeInterface→acO,keyThatStays→acT
open _root_.List.cons renaming injEq→abQ
open Go.Lib renaming swapperK→abR
open Go.Proofs.YteogppapbognjaaGreatDoor.NP renaming ok_lt→abW
open Go.Proofs.YteogppapbognjaaGreatDoor.RC renaming lo0→acb
open Go.Sort renaming ahead→aci
open Go.Proofs.YteogppapbognjaaGreatDoor.Kept renaming refl→acr
open _root_.PUnit renaming unit→acF
open Go.Exit renaming inBlock→acQ
open Go.Value renaming int→acS
open Go.Question renaming mapNext→acX
open Go.Act renaming eval→acY
open _root_.ForInStep renaming yield→ada
open Go.Extern.ReflectliteSwapper renaming swap→adb
def Cj(acc:List Nat):List Edge->Nat
 |[]=>0
 |e::r=>match aay .any e with
  |true=>(2 ^ e.on ||| acc.getD e.on 0) ||| Cj acc r
  |false=>Cj acc r
def yi:List Oper->List Nat->List Nat
 |[],acc=>acc
 |o::r,acc=>yi r (acc++[Cj acc o.after.toList])
def Es(i:Nat):List Edge->Bool
 |[]=>true
 |e::r=>(!Region.binds .any e||Nat.blt e.on i)&&Es i r
def un:List Oper->Nat->Bool
 |[],_=>true
 |o::r,i=>Es i o.after.toList&&un r (i+1)
def il:List Nat->List Nat->Bool
 |[],_=>true
 |n::r,l=>!Pf n l&&il r l
def Fs(m:Nat):Nat->Bool
 |0=>true
 |i+1=>acW m i&&Fs m i
def vn(sp:SP)(all:List Oper)(ds:List (Option Nat)):List Oper->List (List Nat×List Nat)
 |[]=>[]
 |o::r=>(reads sp all ds o,writes sp all ds o)::vn sp all ds r
def Gs(m:Nat)(q:List Nat×List Nat):List (List Nat×List Nat)->Nat->Bool
 |[],_=>true
 |p::r,i=>(acW m i||(il p.2 q.1&&(il p.2 q.2&&il p.1 q.2)))&&Gs m q r (i+1)
def Hs(ms:List Nat):List (List Nat×List Nat)->List (List Nat×List Nat)->Nat->Bool
 |_,[],_=>true
 |done,q::r,j=>Gs (ms.getD j 0) q done 0&&Hs ms (done++[q]) r (j+1)
def Is(ms:List Nat)(j:Nat):Nat->Bool
 |0=>true
 |n+1=>Fs (ms.getD j 0) j&&Is ms (j+1) n
def Rf(b:Bool)(sp:SP)(l:List Oper):Bool:=un l 0&&(Hs (yi l []) [] (vn sp l (l.map (·.dst)) (Ad b l)) 0&&Is (yi l []) (Ad b l).length (l.length - (Ad b l).length))
def wn(tt:TT)(sp:SP)(keep:List Nat)(ops:List Oper)(draw:Bool)(e:Env):Option (Env×List Prop):=
 match draw with
 |true=>match Zm tt sp (ops.map (·.dst)) ops (Ad (Rf true sp ops) ops) (clean e) with
  |some (e1,p)=>match runF tt sp (ops.map (·.dst)) (wj (Rf true sp ops) ops) e1 with
   |some (e2,q)=>some (mask (clean (settle keep keep e2)) keep,p++q)
   |none=>none
  |none=>none
 |false=>match runF tt sp (ops.map (·.dst)) ops (clean e) with
  |some (e2,q)=>some (mask (clean (settle keep keep e2)) keep,q)
  |none=>none
theorem Js{n:Nat}:∀ {l r:List Nat},il l r=true->n∈l->n ∉ r
 |[],r,_,hn=>by simp at hn
 |m::l,r,h,hn=>by
  simp only[il,aam,aaM]at h;rcases aaA.1 hn with rfl|hn
  .intro hr;rw[Cs.2 hr]at h;simp at h
  .exact Js h.2 hn
theorem YO{m:Nat}:∀ {i:Nat},Fs m i=true->∀j,j<i->m.testBit j=true
 |0,_,j,hj=>by omega
 |i+1,h,j,hj=>by
  simp only[Fs,aam]at h;by_cases e:j=i
  .rw[e];exact h.1
  .exact YO h.2 j (by omega)
theorem ZO{sp:SP}{all:List Oper}{ds:List (Option Nat)}:∀ {l:List Oper}{i:Nat}{o:Oper},l[i]? = some o->(vn sp all ds l)[i]? = some (reads sp all ds o,writes sp all ds o)
 |[],i,o,h=>by simp at h
 |o'::r,0,o,h=>by simp at h;subst h;rfl
 |o'::r,i+1,o,h=>by simpa [vn] using ZO (by simpa using h)
theorem aP{m:Nat}{q:List Nat×List Nat}:∀ {l:List (List Nat×List Nat)}{i:Nat},Gs m q l i=true->∀k p,l[k]? = some p ->
  m.testBit (i+k)=true\/((∀n,n∈p.2->n ∉ q.1)/\(∀n,n∈p.2->n ∉ q.2)/\(∀n,n∈p.1->n ∉ q.2))
 |[],i,_,k,p,hk=>by simp at hk
 |p0::r,i,h,k,p,hk=>by
  simp only[Gs,aam,aaF]at h;cases k with
  |zero=>
   simp at hk;subst hk;exact h.1.imp id (λh=>⟨λn=>Js h.1,λn=>Js h.2.1,λn=>Js h.2.2⟩)
  |succ k=>
   have:=aP h.2 k p (by simpa using hk);rw[show i+1+k=i+(k+1) by omega]at this;exact this
theorem bP{ms:List Nat}:∀ {l done:List (List Nat×List Nat)}{j:Nat},Hs ms done l j=true->done.length=j->∀k q i p,l[k]? = some q->(done++l)[i]? = some p->i<j+k ->
  (ms.getD (j+k) 0).testBit i=true\/((∀n,n∈p.2->n ∉ q.1)/\(∀n,n∈p.2->n ∉ q.2)/\(∀n,n∈p.1->n ∉ q.2))
 |[],done,j,_,_,k,q,i,p,hk,_,_=>by simp at hk
 |q0::r,done,j,h,hd,k,q,i,p,hk,hi,hlt=>by
  simp only[Hs,aam]at h;cases k with
  |zero=>
   simp at hk;subst hk;rw[abz (by omega)]at hi;have:=aP h.1 i p hi;rw[aaw]at this;exact this
  |succ k=>
   have:=bP h.2 (by simp[hd]) k q i p (by simpa using hk) (by simpa using hi) (by omega);rw[show j+1+k=j+(k+1) by omega]at this;exact this
theorem oD{ms:List Nat}:∀ {n j:Nat},Is ms j n=true->∀k,k<n->∀i,i<j+k->(ms.getD (j+k) 0).testBit i=true
 |0,j,_,k,hk,i,hi=>by omega
 |n+1,j,h,k,hk,i,hi=>by
  simp only[Is,aam]at h;cases k with
  |zero=>exact YO h.1 i (by omega)
  |succ k=>
   have:=oD h.2 k (by omega) i (by omega);rw[show j+1+k=j+(k+1) by omega]at this;exact this
theorem cP{i:Nat}:∀ {l:List Edge},Es i l=true->∀e∈l,aay .any e=true->e.on<i
 |[],_,e,he,_=>by simp at he
 |e0::r,h,e,he,hb=>by
  simp only[Es,aam,aaF,aaM]at h;rcases aaA.1 he with rfl|he
  .rcases h.1 with h1|h1
   .rw[hb]at h1;cases h1
   .exact abg (ack _) (abH h1)
  .exact cP h.2 e he hb
theorem pD:∀ {l:List Oper}{i:Nat},un l i=true->∀k o,l[k]? = some o->∀e∈o.after,aay .any e=true->e.on<i+k
 |[],i,_,k,o,hk,_,_,_=>by simp at hk
 |o0::r,i,h,k,o,hk,e,he,hb=>by
  simp only[un,aam]at h;cases k with
  |zero=>simp at hk;subst hk;exact cP h.1 e (by simpa using he) hb
  |succ k=>
   have:=pD h.2 k o (by simpa using hk) e he hb;omega
def Closed(ops:Array Oper)(L:Nat->Bool):Prop:=∀i o,ops[i]? = some o->L i=true->∀e∈o.after,aay .any e=true->L e.on=true
theorem dP{L:Nat->Bool}{acc:List Nat}(hacc:∀i,L i=true->∀j,(acc.getD i 0).testBit j=true->L j=true) :
  ∀ {l:List Edge},(∀e∈l,aay .any e=true->L e.on=true)->∀j,(Cj acc l).testBit j=true->L j=true
 |[],_,j,h=>by simp[Cj]at h
 |e::r,hl,j,h=>by
  simp only[Cj]at h;have ih:=dP hacc (l:=r) (λe he=>hl e (by simp[he]));cases hb:aay .any e with
  |false=>rw[hb]at h;exact ih j h
  |true=>
   rw[hb]at h;have hh:=hl e (by simp) hb;simp only[Nat.testBit_or,aaF]at h;rcases h with(h|h)|h
   .rw[Nat.testBit_two_pow]at h;have:e.on=j:=by simpa using h
    rw[<-this];exact hh
   .exact hacc _ hh j h
   .exact ih j h
theorem eP{ops:Array Oper}{L:Nat->Bool}(hL:Closed ops L):∀ {l:List Oper}{acc:List Nat},(∀k o,l[k]? = some o->ops[acc.length+k]? = some o) ->
  (∀i,(∀o,ops[i]? = some o->∀e∈o.after,aay .any e=true->L e.on=true)->∀j,(acc.getD i 0).testBit j=true->L j=true) ->
  ∀i,(∀o,ops[i]? = some o->∀e∈o.after,aay .any e=true->L e.on=true)->∀j,((yi l acc).getD i 0).testBit j=true->L j=true
 |[],acc,_,h=>h
 |o::r,acc,hl,h=>by
  have ho:=hl 0 o rfl;have hh:∀i,L i=true->∀j,(acc.getD i 0).testBit j=true->L j=true:=λi hi=>h i (λo' ho'=>hL i o' ho' hi);refine eP hL (l:=r) (acc:=acc++[Cj acc o.after.toList]) (λk o' hk=>?_) (λi hi j hj=>?_)
  .have:=hl (k+1) o' (by simpa using hk);rw[abh,abI,show acc.length+1+k=acc.length+(k+1) by omega];exact this
  .rw[aao]at hj;by_cases hlt:i<acc.length
   .rw[abz hlt,<-aao]at hj;exact h i hi j hj
   .by_cases he:i=acc.length
    .subst he;rw[ace (aaz _),acl]at hj;exact dP hh (λe he' hb=>hi o ho e (by simpa using he') hb) j hj
    .rw[abo (by simp;omega)]at hj;simp at hj
def part(E:Nat->Env)(W:Nat->List Nat)(L:Nat->Bool):Nat->Nat->AV
 |0,n=>da (E 0) n
 |k+1,n=>if L k=true/\n∈W k then da (E (k+1)) n else part E W L k n
section
variable {E:Nat->Env}{W:Nat->List Nat}{L:Nat->Bool}
theorem fP{n:Nat}{b:Bool}:∀ {h:Nat},(∀k,k<=h->Ve (da (E k) n)=b)->Ve (part E W L h n)=b
 |0,hb=>hb 0 (aaz _)
 |h+1,hb=>by
  simp only[part];split
  .exact hb (h+1) (aaz _)
  .exact fP (λk hk=>hb k (by omega))
theorem Ks{h:Nat}(hloc:∀k,k<h->∀n,n ∉ W k->da (E (k+1)) n=da (E k) n){n:Nat}:∀ {k:Nat},k<=h->(∀j,j<k->n∈W j->L j=true)->part E W L k n=da (E k) n
 |0,_,_=>rfl
 |k+1,hk,hL=>by
  simp only[part];by_cases hn:n∈W k
  .rw[if_pos ⟨hL k (by omega) hn,hn⟩]
  .rw[if_neg (λh=>hn h.2),hloc k (by omega) n hn];exact Ks hloc (by omega) (λj hj=>hL j (by omega))
theorem Ls{n k:Nat}:∀ {h:Nat},k<=h->(∀j,k<=j->j<h->n∈W j->L j=false)->part E W L h n=part E W L k n
 |0,hk,_=>by rw[show k=0 by omega]
 |h+1,hk,hL=>by
  by_cases e:k=h+1
  .rw[e]
  .simp only[part];rw[if_neg (λhh=>by have:=hL h (by omega) (by omega) hh.2;rw[this]at hh;exact absurd hh.1 (by simp))];exact Ls (by omega) (λj h1 h2=>hL j h1 (by omega))
theorem gP{L':Nat->Bool}{n:Nat}:∀ {h:Nat},(∀j,j<h->n∈W j->L' j=L j)->part E W L' h n=part E W L h n
 |0,_=>rfl
 |h+1,hL=>by
  simp only[part];rw[gP (h:=h) (λj hj=>hL j (by omega))];by_cases hn:n∈W h
  .rw[hL h (by omega) hn]
  .rw[if_neg (λh=>hn h.2),if_neg (λh=>hn h.2)]
end
theorem qD{b:Bool}:∀ {l:List Oper}{i:Nat},i<(Ad b l).length->(Ad b l)[i]? = l[i]?
 |[],i,h=>by simp[Ad]at h
 |o::r,i,h=>by
  simp only[Ad]at h⊢;cases hs:strict b o with
  |true=>rw[hs]at h;simp at h
  |false=>
   rw[hs]at h;cases i with
   |zero=>rfl
   |succ i=>simpa using qD (by simpa using h)
theorem iP{b:Bool}:∀ {l:List Oper}{i:Nat},(wj b l)[i]? = l[(Ad b l).length+i]?
 |[],i=>rfl
 |o::r,i=>by
  simp only[Ad,wj];cases hs:strict b o with
  |true=>simp
  |false=>
   simp only[abF];rw[show(Ad b r).length+1+i=(Ad b r).length+i+1 by omega,aaH];exact iP
theorem rD(b:Bool):∀(l:List Oper),(Ad b l).length+(wj b l).length=l.length
 |[]=>rfl
 |o::r=>by
  simp only[Ad,wj];cases hs:strict b o with
  |true=>simp
  |false=>
   have:=rD b r;simp only[abF];omega
section
variable {P:aav}{tt:TT}{sp:SP}{B:Nat}{IoB:List Nat}{F0:Fz}{N:NP}{W0:World}
theorem Sim.congr{e e':Env}{a:Act}{w:World}(hs:Sim N B IoB W0 F0 e a w)(h:∀n,da e' n=da e n):Sim N B IoB W0 F0 e' a w:=by
 obtain⟨F,ow,hx⟩:=hs.rep;exact⟨hs.defers,hs.tmps,hs.base,hs.f0,hs.kept,F,ow,hx.congr h⟩
def Mid(ops:Array Oper)(h:Nat)(E:Nat->Env)(W:Nat->List Nat)(L:Nat->Bool)(ec:Env):Prop:=((∀j,h<=j->j<ops.size->L j=false)/\∀n,da ec n=part E W L h n) \/
   ∃k,h<k/\k<=ops.size/\(∀j,j<k->L j=true)/\(∀j,k<=j->j<ops.size->L j=false)/\∀n,da ec n=da (E k) n
theorem jP{l:List Bool}{i:Nat}(h:l[i]? = some false):(l.set i true).count false+1=l.count false:=by
 induction l generalizing i with
 |nil=>simp at h
 |cons b r ih=>
  cases i with
  |zero=>
   simp at h;subst h;simp
  |succ i=>
   have:=ih (by simpa using h);simp only[acP,List.count_cons];omega
def zi(sp:SP)(ops:Array Oper)(k:Nat):List Nat:=
 match ops[k]? with
 |some o=>writes sp ops.toList (ops.toList.map (·.dst)) o
 |none=>[]
theorem jl{sp:SP}{ops:Array Oper}{k:Nat}{o:Oper}(h:ops[k]? = some o):zi sp ops k=writes sp ops.toList (ops.toList.map (·.dst)) o:=by
 unfold zi;rw[h]
theorem kP{sp:SP}{ops:Array Oper}{k:Nat}(h:ops[k]? = none):zi sp ops k=[]:=by
 unfold zi;rw[h]
theorem X0{b:Bool}(htt:dc P tt)(hsp:∀f s,spk sp f=some s->Con P f s){ops:Array Oper}{h:Nat}{E:Nat->Env}(hdst:∀(i:Nat) (o:Oper),ops[i]? = some o->∀d,o.dst=some d->N.ok d=true)(hh:h=(Ad b ops.toList).length)
  (hhead:∀(i:Nat) (o:Oper),i<h->ops[i]? = some o->∃p,stepS tt sp ops.toList (ops.toList.map (·.dst)) (E i) o=some (E (i+1),p)/\∀q∈p,q)
  (htail:∀(i:Nat) (o:Oper),h<=i->ops[i]? = some o->∃p,stepF tt sp (ops.toList.map (·.dst)) (E i) o=some (E (i+1),p)/\∀q∈p,q) (hok:Rf b sp ops.toList=true)
  {Q:Exit->Act->World->Prop} (hQ:∀a w,Sim N B IoB W0 F0 (E ops.size) a w->Q .normal a w) :
  ∀ (fuel:Nat) (listed:Array Bool) (ec:Env) (a:Act) (w:World),listed.size=ops.size->listed.toList.count false=fuel->Closed ops (λi=>listed.getD i false) ->
    Mid ops h E (zi sp ops) (λi=>listed.getD i false) ec->Sim N B IoB W0 F0 ec a w->wpAny P .any ops Q fuel listed a w:=by
 simp only[Rf,aam]at hok;obtain⟨ha,kn,ob⟩:=hok
 have hlen:h<=ops.size:=by
  have h1:=rD b ops.toList;have h2:ops.toList.length=ops.size:=aaN;omega
 have kk:∀i,ops.toList[i]? = ops[i]?:=λi=>aar;intro fuel
 induction fuel with
 |zero=>
  intro listed ec a w hsz ix io lb hs
  have hv:∀i,i<ops.size->listed.getD i false=true:=by
   intro i hi
   have nl:false ∉ listed.toList:=λhm=>by
    have:=abi.2 hm;omega
   have kq:i<listed.toList.length:=by rw[aaN];omega
   have lx:=acm kq;cases hb:listed.toList[i] with
   |false=>rw[hb]at lx;exact absurd lx nl
   |true=>
    rw[aaq,<-aar,aap kq,hb];rfl
  refine⟨?_,?_⟩
  .cases hr:aaI .any ops listed with
   |nil=>rfl
   |cons j r=>
    have hj:j∈aaI .any ops listed:=by rw[hr];simp
    obtain⟨h0,o,ho,_⟩:=mem_ready.1 hj;have lp:j<ops.size:=(aaB.1 ho).1;have:=hv j lp;rw[aaq]at this h0;rw[aas (by omega)]at this h0;simp at this h0;rw[this]at h0;cases h0
  .apply hQ;refine hs.congr λn=>?_;rcases lb with⟨h1,h2⟩|⟨k,h1,h2,h3,h4,h5⟩
   .have kp:h=ops.size:=by
     by_cases e:h=ops.size
     .exact e
     .have h3:=h1 h (aaz _) (by omega);have h4:=hv h (by omega);simp only[h4]at h3;cases h3
    rw[h2 n,<-kp];refine(Ks (h:=h) (λk hk n hn=>?_) (aaz _) (λj hj _=>hv j (by omega))).symm;cases ho:ops[k]? with
    |none=>rw[abw]at ho;omega
    |some o=>
     obtain⟨p,hp,_⟩:=hhead k o hk ho;rw[jl ho]at hn;exact(mD hp (e2:=E k) (λ_ _=>rfl) (λ_ _=>rfl)).1 n hn
   .have kc:k=ops.size:=by
     by_cases e:k=ops.size
     .exact e
     .have h6:=h4 k (aaz _) (by omega);have h7:=hv k (by omega);simp only[h7]at h6;cases h6
    rw[h5 n,kc]
 |succ fuel ih=>
  intro listed ec a w hsz ix io lb hs
  have lo:∀k,k<h->∀n,n ∉ zi sp ops k->da (E (k+1)) n=da (E k) n:=by
   intro k hk n hn;cases ho:ops[k]? with
   |none=>rw[abw]at ho;omega
   |some o=>
    obtain⟨p,hp,_⟩:=hhead k o hk ho;rw[jl ho]at hn;exact(mD hp (e2:=E k) (λ_ _=>rfl) (λ_ _=>rfl)).1 n hn
  have hy:∀i,(∀o,ops[i]? = some o->∀e∈o.after,aay .any e=true->listed.getD e.on false=true)->∀j,((yi ops.toList []).getD i 0).testBit j=true->listed.getD j false=true:=λi hi j hj=>eP (L:=λi=>listed.getD i false) io (l:=ops.toList) (acc:=[]) (λk o hk=>by rw[List.length_nil,aaw,<-kk];exact hk)
    (λi _ j hj=>by simp at hj) i hi j hj
  have hz:∀i,listed.getD i false=true->∀j,((yi ops.toList []).getD i 0).testBit j=true->listed.getD j false=true:=λi hi=>hy i (λo ho=>io i o ho hi);refine⟨λhr=>?_,λi hi=>?_⟩
  ·
   exfalso
   have hv:∀i,i<ops.size->listed.getD i false=true:=by
    intro i
    induction i using abK with
    |ind i ihi=>
     intro hi;cases hb:listed.getD i false with
     |true=>rfl
     |false=>
      have lx:i∈aaI .any ops listed:=by
       refine mem_ready.2 ⟨?_,ops[i],aas hi,λe he hc=>?_⟩
       .rw[aaq,aas (by omega)]at hb⊢;simpa using hb
       .have:=pD ha i ops[i] (by rw[kk];exact aas hi) e he hc;exact ihi e.on (by omega) (by omega)
      rw[hr]at lx;simp at lx
   have os:0<listed.toList.count false:=by omega
   have hm:=abi.1 os;obtain⟨i,hi⟩:=abb.1 hm;have lp:=(aaO.1 hi).1;rw[aaN]at lp;have:=hv i (by omega);rw[aaq,<-aar,hi]at this;cases this
  .obtain⟨kr,o,ho,ju⟩:=mem_ready.1 hi;have ky:i<ops.size:=(aaB.1 ho).1
   have hu:listed.getD i false=false:=by
    rw[aaq,aas (by omega)]at kr⊢;simpa using kr
   have li:listed.toList[i]? = some false:=by
    rw[aar,aas (by omega)];rw[aaq,aas (by omega)]at hu;simpa using hu
   have ou:∀j,(listed.setIfInBounds i true).getD j false=if j=i then true else listed.getD j false:=by
    intro j;by_cases e:j=i
    .subst e;rw[if_pos rfl,aaq,abx (by omega)];rfl
    .rw[if_neg e,getD_set_ne false (Ne.symm e)]
   have it:Closed ops (λi'=>(listed.setIfInBounds i true).getD i' false):=by
    intro j o' nm hj e he hc;simp only[ou]at hj⊢;split
    .rfl
    .split at hj
     .rename_i e';subst e';rw[ho]at nm;cases nm;exact ju e he hc
     .exact io j o' nm hj e he hc
   have ie:(listed.setIfInBounds i true).toList.count false=fuel:=by
    rw[aaK];have:=jP li;omega
   have hf:∀j,((yi ops.toList []).getD i 0).testBit j=true->listed.getD j false=true:=hy i (λo' nm=>by rw[ho]at nm;cases nm;exact ju)
   have km:∀hq,(∀a' w',Sim N B IoB W0 F0 hq a' w'->wpAny P .any ops Q fuel (listed.setIfInBounds i true) a' w') ->
     (∀next:Act->World->Prop,(∀a' w',Sim N B IoB W0 F0 hq a' w'->next a' w')->if aaU o (abZ ops a.tmps) then o.wp P a w next Q else next (a.put o.dst undef) w) ->
     wpOp P ops Q i (wpAny P .any ops Q fuel (listed.setIfInBounds i true)) a w:=by
    intro hq h1 h2;have h3:=h2 _ h1;unfold wpOp;rw[ho];simp only[];by_cases hw:aaU o (abZ ops a.tmps)=true
    .rw[if_pos hw]at h3⊢;exact .inl h3
    .rw[if_neg hw]at h3⊢;exact h3
   by_cases hih:i<h
   ·
    rcases lb with⟨m1,m2⟩|⟨k,m1,m2,m3,m4,m5⟩
    .have kj:∀(j:Nat) (oj:Oper),j<h->ops[j]? = some oj->(vn sp ops.toList (ops.toList.map (·.dst)) (Ad b ops.toList))[j]? = some (reads sp ops.toList (ops.toList.map (·.dst)) oj,writes sp ops.toList (ops.toList.map (·.dst)) oj):=λj oj hj nq=>ZO (by rw[qD (by omega),kk];exact nq)
     have oo:∀(j:Nat) (oj:Oper) (k:Nat) (ok:Oper),j<k->k<h->ops[j]? = some oj->ops[k]? = some ok->((yi ops.toList []).getD k 0).testBit j=true \/
       ((∀n,n∈writes sp ops.toList (ops.toList.map (·.dst)) oj->n ∉ reads sp ops.toList (ops.toList.map (·.dst)) ok)/\(∀n,n∈writes sp ops.toList (ops.toList.map (·.dst)) oj->n ∉ writes sp ops.toList (ops.toList.map (·.dst)) ok) /\
         (∀n,n∈reads sp ops.toList (ops.toList.map (·.dst)) oj->n ∉ writes sp ops.toList (ops.toList.map (·.dst)) ok)):=by
      intro j oj k ok kb hk nq hok;have:=bP kn rfl k _ j _ (kj k ok hk hok) (by simpa using kj j oj (by omega) nq) (by omega);rw[aaw]at this;exact this
     obtain⟨p,ow,hp⟩:=hhead i o hih ho
     have ke:∀n,(n∈reads sp ops.toList (ops.toList.map (·.dst)) o\/n∈writes sp ops.toList (ops.toList.map (·.dst)) o)->∀j,i<j->j<h ->
       n∈zi sp ops j->listed.getD j false=false:=by
      intro n hn j kx kz mt;cases nq:ops[j]? with
      |none=>rw[kP nq]at mt;simp at mt
      |some oj=>
       rw[jl nq]at mt;rcases oo i o j oj kx kz ho nq with hb|⟨d1,d2,d3⟩
       .cases hL:listed.getD j false with
        |false=>rfl
        |true=>rw[hz j hL i hb]at hu;cases hu
       .rcases hn with hn|hn
        .exact absurd mt (d3 n hn)
        .exact absurd mt (d2 n hn)
     have jb:∀n,n∈reads sp ops.toList (ops.toList.map (·.dst)) o\/n∈writes sp ops.toList (ops.toList.map (·.dst)) o->da ec n=da (E i) n:=by
      intro n hn;rw[m2 n]
      rw[Ls (h:=h) (k:=i) (by omega) (λj h1 h2 mt=>by
       by_cases e:j=i
       .rw[e];exact hu
       .exact ke n hn j (by omega) h2 mt)]
      refine Ks lo (by omega) (λj hj mt=>?_);cases nq:ops[j]? with
      |none=>rw[kP nq]at mt;simp at mt
      |some oj=>
       rw[jl nq]at mt;rcases oo j oj i o hj hih nq ho with hb|⟨d1,d2,d3⟩
       .exact hf j hb
       .rcases hn with hn|hn
        .exact absurd hn (d1 n mt)
        .exact absurd hn (d2 n mt)
     have hg:∀n,lg n (ops.toList.map (·.dst))=false->Ve (da ec n)=Ve (da (E i) n):=by
      intro n hn
      have hE:∀k,k<=h->Ve (da (E k) n)=Ve (da (E 0) n):=by
       intro k
       induction k with
       |zero=>exact λ_=>rfl
       |succ k ihk=>
        intro hk;cases hok':ops[k]? with
        |none=>rw[abw]at hok';omega
        |some ok'=>
         obtain⟨p',nt,_⟩:=hhead k ok' (by omega) hok';rw[U0 nt (n:=n) ?_,ihk (by omega)];intro e;have:lg n (ops.toList.map (·.dst))=true:=kD.2 (aaP.2 ⟨ok',abv ((kk k).trans hok'),e⟩);rw[hn]at this;cases this
      rw[m2 n,fP (h:=h) hE,hE i (by omega)]
     obtain⟨_,hl,ox,w1,w2⟩:=mD ow jb hg;obtain⟨g',ki,oy⟩:=V0 ox;refine km hl (λa' w' hs'=>ih _ hl a' w' (by rw[abB];exact hsz) ie it (.inl ⟨λj h1 h2=>?_,λn=>?_⟩) hs') (λnext hn=>qs htt hsp hs ki (.inr rfl) oy hp (λd hd=>hdst i o ho d hd) hn)
     .show(listed.setIfInBounds i true).getD j false=false;rw[ou,if_neg (by omega)];exact m1 j h1 h2
     .by_cases hnw:n∈writes sp ops.toList (ops.toList.map (·.dst)) o
      .rw[w1 n hnw]
       rw[Ls (h:=h) (k:=i+1) (by omega) (λj h1 h2 mt=>by
        show(listed.setIfInBounds i true).getD j false=false;rw[ou,if_neg (by omega)];exact ke n (.inr hnw) j (by omega) h2 mt)]
       simp only[part];rw[if_pos];refine⟨?_,?_⟩
       .rw[ou,if_pos rfl]
       .rw[jl ho];exact hnw
      .rw[w2 n hnw,m2 n];refine(gP (λj hj mt=>?_)).symm;show(listed.setIfInBounds i true).getD j false=_;rw[ou,if_neg];rintro rfl;rw[jl ho]at mt;exact hnw mt
    .have:=m3 i (by omega);simp only[hu]at this;cases this
   ·
    have ot:∀j,j<i->listed.getD j false=true:=by
     intro j hj;apply hf;have:=oD ob (i - h) (by rw[<-hh,aaN];omega) j (by rw[<-hh];omega);rw[<-hh,show h+(i - h)=i by omega]at this;exact this
    obtain⟨p,ow,hp⟩:=htail i o (by omega) ho
    have ht:∀n,da (E i) n=da ec n:=by
     intro n;rcases lb with⟨m1,m2⟩|⟨k,m1,m2,m3,m4,m5⟩
     .have ks:i=h:=by
       by_cases e:i=h
       .exact e
       .have h1:=m1 h (aaz _) (by omega);have h2:=ot h (by omega);simp only[h2]at h1;cases h1
      rw[m2 n,ks];exact(Ks lo (aaz _) (λj hj _=>ot j (by omega))).symm
     .have ks:i=k:=by
       rcases Nat.lt_trichotomy i k with e|e|e
       .have h1:=m3 i e;simp only[hu]at h1;cases h1
       .exact e
       .have h1:=m4 k (aaz _) (by omega);have h2:=ot k e;simp only[h2]at h1;cases h1
      rw[m5 n,ks]
    have mp:∀j,i<j->j<ops.size->listed.getD j false=false:=by
     intro j kx hj;cases hL:listed.getD j false with
     |false=>rfl
     |true=>
      have hb:=oD ob (j - h) (by rw[<-hh,aaN];omega) i (by rw[<-hh];omega);rw[<-hh,show h+(j - h)=j by omega]at hb;have:=hz j hL i hb;rw[hu]at this;cases this
    refine km (E (i+1)) (λa' w' hs'=>ih _ (E (i+1)) a' w' (by rw[abB];exact hsz) ie it (.inr ⟨i+1,by omega,by omega,λj hj=>?_,λj h1 h2=>?_,λn=>rfl⟩) hs')
     (λnext hn=>qn htt hsp (hs.congr ht) ow hp (λd hd=>hdst i o ho d hd) hn)
    .show(listed.setIfInBounds i true).getD j false=true;rw[ou];split
     .rfl
     .exact ot j (by omega)
    .show(listed.setIfInBounds i true).getD j false=false;rw[ou,if_neg (by omega)];exact mp j (by omega) h2
end
def fc:AV->Bool
 |.v _ _=>true
 |.agg _ _=>true
 |.box _=>true
 |.dead=>true
 |_=>false
section
variable {B:Nat}{IoB:List Nat}{F0 F:Fz}{e:Env}{tm:Nat->Value}{w:World}{ow:Nat->Option Nat->Option Nat}
theorem Ze{av:AV}(h:fc av=true){g:Get}{n:Nat}:SR F B w tm g ow n av=VR F B w (ow n) av (tm n):=by
 cases av with
 |v k c=>rfl
 |agg f cs=>rfl
 |box cs=>rfl
 |dead=>rfl
 |_=>simp[fc]at h
theorem ja.flat(hs:ja B IoB F0 e tm w F ow){e':Env}(h:∀n,fc (da e' n)=true/\VR F B w (ow n) (da e' n) (tm n)):ja B IoB F0 e' tm w F ow:=⟨hs.sub,hs.new,hs.live,hs.inj,hs.bd,λn=>by rw[Ze (h n).1];exact(h n).2⟩
theorem ja.raw(hx:ja B IoB F0 e tm w F ow):cl F B w tm (da e) (da e) ow:=λn=>.inr ⟨hx.sr n,rfl⟩
theorem Y0{g:Get}{s:Nat}{o:Option Nat}{b:Bool}{p:PV}(h:plainR g (.view s o)=some (b,p)):p.agg=false:=by
 cases o with
 |none=>
  simp only[plainR]at h;split at h
  .cases h;rfl
  .cases h;rfl
  .cases h
 |some o=>
  simp only[plainR]at h;split at h
  .split at h
   .cases h;rfl
   .cases h
  .cases h
theorem ja.clean(hs:ja B IoB F0 e tm w F ow):ja B IoB F0 (aax e) tm w F ow/\∀n,fc (da (aax e) n)=true:=by
 have hi:∀n,da (aax e) n=wO (da e) (da e n):=λn=>mg _ rfl e n
 have key:∀n,fc (da (aax e) n)=true/\VR F B w (ow n) (da (aax e) n) (tm n):=by
  intro n;rw[hi n];have hl:=hs.sr n;cases hav:da e n with
  |dead=>exact⟨rfl,trivial⟩
  |v k c=>rw[hav]at hl;exact⟨rfl,hl⟩
  |agg f cs=>rw[hav]at hl;exact⟨rfl,hl⟩
  |box cs=>rw[hav]at hl;exact⟨rfl,hl⟩
  |tup l=>exact⟨rfl,trivial⟩
  |cond k a=>exact⟨rfl,trivial⟩
  |baddr m o=>exact⟨rfl,trivial⟩
  |faddr f cs=>exact⟨rfl,trivial⟩
  |oaddr m i o=>exact⟨rfl,trivial⟩
  |view m o=>
   rw[hav]at hl;show fc (match abp (da e) (.view m o) with|some (false,⟨f,_,[c]⟩)=>AV.v (frK f) c|_=>AV.dead)=true/\VR F B w (ow n) (match abp (da e) (.view m o) with|some (false,⟨f,_,[c]⟩)=>AV.v (frK f) c|_=>AV.dead) (tm n);split
   .rename_i f ag c hp;refine⟨rfl,?_⟩;have hh:=Y0 hp;simp only at hh;subst hh;have hj:=zj hs.live hs.raw (k:=[]) trivial rfl;have hk:=EC hj (o:=ow n) (hl.avr (λ_ _ h=>by cases h)) (λf c h=>by cases h) (VO hp);exact eZ hk
   .exact⟨rfl,trivial⟩
 exact⟨hs.flat key,λn=>(key n).1⟩
theorem lP(e:Env)(n:Nat):∀keep,da (mask e keep) n=.dead\/da (mask e keep) n=da e n
 |[]=>.inl rfl
 |k::ks=>by
  simp only[mask,da];cases hb:aau k n with
  |true=>right;rw[aan hb]
  |false=>exact lP e n ks
theorem ja.mask(hs:ja B IoB F0 e tm w F ow)(hf:∀n,fc (da e n)=true)(keep:List Nat):ja B IoB F0 (acC e keep) tm w F ow:=by
 refine hs.flat λn=>?_;rcases lP e n keep with h|h
 .rw[h];exact⟨rfl,trivial⟩
 .rw[h];have hh:=hs.sr n;rw[Ze (hf n)]at hh;exact⟨hf n,hh⟩
end
section
variable {P:aav}{tt:TT}{sp:SP}{B:Nat}{IoB:List Nat}{F0:Fz}{N:NP}{W0:World}
theorem Sim.clean{e:Env}{a:Act}{w:World}(hs:Sim N B IoB W0 F0 e a w):Sim N B IoB W0 F0 (clean e) a w:=by
 obtain⟨F,ow,hx⟩:=hs.rep;exact⟨hs.defers,hs.tmps,hs.base,hs.f0,hs.kept,F,ow,hx.clean.1⟩
theorem Sim.cleanMask{e:Env}{a:Act}{w:World}(hs:Sim N B IoB W0 F0 e a w)(keep:List Nat):Sim N B IoB W0 F0 (mask (aax e) keep) a w:=by
 obtain⟨F,ow,hx⟩:=hs.rep;exact⟨hs.defers,hs.tmps,hs.base,hs.f0,hs.kept,F,ow,hx.clean.1.mask hx.clean.2 keep⟩
theorem ja.transfer{F:Fz}{e:Env}{tm:Nat->Value}{w:World}{ow:Nat->Option Nat->Option Nat}(hs:ja B IoB F0 e tm w F ow)(hBw:B<=w.heap.size){m d:Nat}(hv:da e d=.view m none)(hmd:m≠d) :
  ∃ow',ja B IoB F0 (acs e m d) tm w F ow':=by
 have hh:=hs.sr d;rw[hv]at hh;have hb:bears (da e m)=true:=hh.2.1;have hi:tm d=tm m:=hh.1;have h1:=hs.unviewAt m .dead (λ_ _=>trivial)
 have h2:=h1.putG (d:=d) (av:=da e m) (v:=tm m) (owd:=ow m) hBw (Ua.refl F w) hs.live (λi b h=>hs.bd m i b h)
  (λi b h s' i' _ h'=>by
    by_cases e1:s'=m
    .simp[e1]at h'
    .simp only[e1,if_false]at h';exact e1 (hs.inj _ _ _ _ _ h' h).1)
  (λi i' b h h'=>(hs.inj _ _ _ _ _ h h').2)
  (λg' _ _=>by
    rw[ws hb];simp only[if_true];have:=hs.sr m;rw[ws hb]at this;exact this)
 have _:=hmd
 have ht:(λn=>if n=d then tm m else tm n)=tm:=funext λn=>by
  by_cases h:n=d
  .rw[if_pos h,h,hi]
  .rw[if_neg h]
 rw[ht]at h2;exact⟨_,h2⟩
theorem Sim.settle{keep:List Nat}{a:Act}{w:World}:∀ {l:List Nat}{e:Env},Sim N B IoB W0 F0 e a w->Sim N B IoB W0 F0 (abq keep l e) a w
 |[],_,hs=>hs
 |d::r,e,hs=>by
  simp only[abq];split
  .rename_i m hg;split
   .rename_i hb;obtain⟨F,ow,hx⟩:=hs.rep;obtain⟨hi,hh⟩:=hx.transfer (aaL hs.base hs.kept.size) hg (λe=>by rw[e,aaW]at hb;cases hb);exact Sim.settle ⟨hs.defers,hs.tmps,hs.base,hs.f0,hs.kept,F,hi,hh⟩
   .exact Sim.settle hs
  .exact Sim.settle hs
theorem Sim.drew{e:Env}{a:Act}{w:World}(hs:Sim N B IoB W0 F0 e a w)(m:Nat):Sim N B IoB W0 F0 e a { w with drawn:=m }:=by
 obtain⟨F,ow,hx⟩:=hs.rep;refine⟨hs.defers,hs.tmps,hs.base,hs.f0,⟨hs.kept.os,hs.kept.tape,hs.kept.output,hs.kept.size,hs.kept.block,hs.kept.obj⟩,F,ow,⟨hx.sub,hx.new,⟨hx.live.out,hx.live.tab⟩,hx.inj,hx.bd,λn=>?_⟩⟩;have h:=hx.sr n;exact SR.grow (F:=F) (w:=w) (w':={ w with drawn:=m }) ⟨rfl,rfl,rfl,aaz _,λ_ _=>rfl,λ_ _ h=>h,λ_ _ h=>.inl h⟩ hx.live h
def Sf(N:NP):List Oper->Bool
 |[]=>true
 |o::r=>(match o.dst with|some d=>N.ok d|none=>true)&&Sf N r
theorem Dj:∀ {l:List Oper},Sf N l=true->∀(i:Nat) (o:Oper),l[i]? = some o->∀d,o.dst=some d->N.ok d=true
 |[],_,i,o,h,_,_=>by simp at h
 |o0::r,h,i,o,hi,d,hd=>by
  simp only[Sf,aam]at h;cases i with
  |zero=>
   simp at hi;subst hi;rw[hd]at h;exact h.1
  |succ i=>exact Dj h.2 i o (by simpa using hi) d hd
theorem Z0(htt:dc P tt)(hsp:∀f s,spk sp f=some s->Con P f s){ops:Array Oper}(hdst:Sf N ops.toList=true){E:Nat->Env}
  (hst:∀(i:Nat) (o:Oper),ops[i]? = some o->∃p,stepF tt sp (ops.toList.map (·.dst)) (E i) o=some (E (i+1),p)/\∀q∈p,q)
  {Q:Exit->Act->World->Prop} (hQ:∀a w,Sim N B IoB W0 F0 (E ops.size) a w->Q .normal a w) :
  ∀(n i:Nat) (a:Act) (w:World),i+n=ops.size->Sim N B IoB W0 F0 (E i) a w->wpOps P ops Q (act i n) a w:=by
 intro n
 induction n with
 |zero=>
  intro i a w hi hs;rw[acn]at hi;subst hi;exact hQ a w hs
 |succ n ih=>
  intro i a w hi hs;have hh:i<ops.size:=by omega
  rw[List.range'_succ,aaQ];obtain⟨p,hp,hq⟩:=hst i ops[i] (aas hh)
  have h:=qn htt hsp hs hp hq (λd hd=>Dj hdst i ops[i] (by rw[aar];exact aas hh) d hd) (Q:=Q) (next:=wpOps P ops Q (act (i+1) n))
   (λa' w' hs'=>ih (i+1) a' w' (by omega) hs')
  unfold wpOp;rw[aas hh];simp only[];by_cases hw:aaU ops[i] (abZ ops a.tmps)=true
  .rw[if_pos hw]at h⊢;exact .inl h
  .rw[if_neg hw]at h⊢;exact h
def Ms(sp:SP)(N:NP)(ops:List Oper)(draw:Bool):Bool:=Sf N ops&&match draw with
 |true=>Rf true sp ops||Rf false sp ops
 |false=>true
theorem mP(htt:dc P tt)(hsp:∀f s,spk sp f=some s->Con P f s)(hm:P.follows .mixedOrders=true){id:Nat}{ops:Array Oper}{draw:Bool}(hok:Ms sp N ops.toList draw=true){keep:List Nat}{e e':Env}{obs:List Prop}
  (hr:wn tt sp keep ops.toList draw e=some (e',obs)) (ho:∀p∈obs,p) {Q:Exit->Act->World->Prop} (hQ:∀a w,Sim N B IoB W0 F0 e' a w->Q .normal a w) {a:Act}{w:World} (hs:Sim N B IoB W0 F0 e a w) :
  (Code.region id ops draw).wp P Q a w:=by
 simp only[Ms,aam]at hok;obtain⟨hn,hdr⟩:=hok;have hsz:ops.toList.length=ops.size:=aaN;have ht:∀i,ops.toList[i]? = ops[i]?:=λi=>aar;cases draw with
 |false=>
  simp only[wn]at hr;split at hr
  .rename_i e2 q hf;simp only[aal,aaD]at hr;obtain⟨rfl,rfl⟩:=hr;obtain⟨E,h0,h1,h2⟩:=nD hf;refine wp_region ?_;rw[List.range_eq_range'];refine Z0 htt hsp hn (E:=E) (λi o hu=>?_) (λa w hs=>?_) ops.size 0 a w (by omega) (by rw[h0];exact hs.clean)
   .obtain⟨p,hp,hq⟩:=h2 i o (by rw[ht];exact hu);exact⟨p,hp,λq hq'=>ho q (hq q hq')⟩
   .rw[<-hsz,h1]at hs;exact hQ a w (hs.settle.cleanMask keep)
  .cases hr
 |true=>
  simp only[wn]at hr;have hdr:(Rf true sp ops.toList||Rf false sp ops.toList)=true:=hdr
  have hdr:Rf (Rf true sp ops.toList) sp ops.toList=true:=by
   cases hb:Rf true sp ops.toList with
   |true=>exact hb
   |false=>
    rw[hb]at hdr;simpa using hdr
  generalize Rf true sp ops.toList=b at hr hdr;split at hr
  .rename_i e1 p1 hS;split at hr
   .rename_i e2 q2 hF;simp only[aal,aaD]at hr;obtain⟨rfl,rfl⟩:=hr;obtain⟨E1,a0,a1,a2⟩:=XO hS;obtain⟨E2,b0,b1,b2⟩:=nD hF;have hlen:=rD b ops.toList;let h:=(Ad b ops.toList).length;let E:Nat->Env:=λi=>if i<h then E1 i else E2 (i - h)
    have hj:∀i,i<=h->E i=E1 i:=λi hi=>by
     by_cases e:i<h
     .exact if_pos e
     .have:i=h:=by omega
      subst this;show(if h<h then E1 h else E2 (h - h))=E1 h;rw[if_neg (by omega),acl,b0,a1]
    have hl:∀i,h<=i->E i=E2 (i - h):=λi hi=>if_neg (by omega);have hh:E 0=aax e:=by rw[hj 0 (acu _),a0]
    refine acf hm ?_
    refine X0 htt hsp (h:=h) (E:=E) (Dj (l:=ops.toList) hn |> λf i o hi=>f i o (by rw[ht];exact hi)) rfl (λi o hi hu=>?_) (λi o hi hu=>?_) hdr (λa w hs=>?_) ops.size _ (E 0) a _
     (by simp) (by simp) ?_ ?_ (by rw[hh];exact hs.clean.drew _)
    .obtain⟨p,hp,hq⟩:=a2 i o (by rw[qD hi,ht];exact hu);refine⟨p,?_,λq hq'=>ho q (acD _ (hq q hq'))⟩;rw[hj i (by omega),hj (i+1) (by omega)];exact hp
    .obtain⟨p,hp,hq⟩:=b2 (i - h) o (by rw[iP,ht,show(Ad b ops.toList).length+(i - h)=i by omega];exact hu);refine⟨p,?_,λq hq'=>ho q (acx _ (hq q hq'))⟩;rw[hl i hi,hl (i+1) (by omega),show i+1 - h=i - h+1 by omega];exact hp
    .have hE:E ops.size=e2:=by rw[hl _ (by omega),show ops.size - h=(wj b ops.toList).length by omega,b1]
     rw[hE]at hs;exact hQ a w (hs.settle.cleanMask keep)
    .intro i o hu hL
     exfalso
     simp only[aaq]at hL;by_cases hi:i<ops.size
     .simp[hi]at hL
     .simp[hi]at hL
    .refine .inl ⟨λj h1 h2=>?_,λn=>?_⟩
     .simp[h2]
     .have:∀k,k<=h->part E (zi sp ops) (λi=>(abA ops.size false).getD i false) k n=da (E 0) n:=by
       intro k hk;refine Ls (acu _) (λj h1 h2 _=>?_);have:j<ops.size:=by omega
       simp[this]
      exact(this h (aaz _)).symm
   .cases hr
  .cases hr
end
structure Fr where
 B:Nat
 IoB:List Nat
 W0:World
 F0:Fz
structure Good(P:aav)(tt:TT)(sp:SP):Prop where
 htt:dc P tt
 hsp:∀f s,spk sp f=some s->Con P f s
 hm:P.follows .mixedOrders=true
def C1(n r:Env->Prop)(x:Nat->Env->Prop):Exit->Env->Prop
 |.normal,e=>n e
 |.ret,e=>r e
 |.exit i,e=>x i e
 |_,_=>False
def Ht(P:aav)(N:NP)(fr:Fr)(c:Code)(e:Env)(n r:Env->Prop)(x:Nat->Env->Prop):Prop:=
 ∀a w,Sim N fr.B fr.IoB fr.W0 fr.F0 e a w->c.wp P (λex a w=>∃e',Sim N fr.B fr.IoB fr.W0 fr.F0 e' a w/\C1 n r x ex e') a w
def ga:List Prop->Prop
 |[]=>True
 |p::r=>p/\ga r
theorem ga.all:∀ {l:List Prop},ga l->∀p∈l,p
 |[],_,p,h=>by simp at h
 |q::r,h,p,hp=>by
  rcases aaA.1 hp with rfl|hp
  .exact h.1
  .exact ga.all h.2 p hp
def regC(tt:TT)(sp:SP)(N:NP)(keep:List Nat)(c:Code)(e:Env):Option (Env×List Prop):=
 match c with
 |.region _ ops draw=>match Ms sp N ops.toList draw with
  |true=>wn tt sp keep ops.toList draw e
  |false=>none
 |_=>none
section
variable {P:aav}{tt:TT}{sp:SP}{N:NP}{fr:Fr}{c:Code}{e:Env}{n r:Env->Prop}{x:Nat->Env->Prop}
theorem Ht.reg(G:Good P tt sp){keep:List Nat}{e':Env}{obs:List Prop}(hc:regC tt sp N keep c e=some (e',obs))(ho:ga obs)(h:n e'):Ht P N fr c e n r x:=by
 intro a w hs;unfold regC at hc;split at hc
 .split at hc
  .rename_i hok;exact mP G.htt G.hsp G.hm hok hc ho.all (λa w hs=>⟨e',hs,h⟩) hs
  .cases hc
 .cases hc
theorem Ht.seq{c1 c2:Code}(hc:c=.seq c1 c2)(h:Ht P N fr c1 e (λe'=>Ht P N fr c2 e' n r x) r x):Ht P N fr c e n r x:=by
 subst hc;intro a w hs;refine wp_seq (acA (h a w hs) ?_);rintro ex a w ⟨e',hh,hp⟩;cases ex with
 |normal=>exact hp a w hh
 |_=>exact⟨e',hh,hp⟩
def readB(e:Env):abJ->Option Bool
 |.tmp t=>match da e t with
  |.v _ (.bool b)=>some b
  |_=>none
 |.const (.bool b)=>some b
 |_=>none
theorem Ht.cond{o:abJ}{c1 c2:Code}(hc:c=.cond o c1 c2){b:Bool}(hb:readB e o=some b)(h1:b=true->Ht P N fr c1 e n r x)(h2:b=false->Ht P N fr c2 e n r x):Ht P N fr c e n r x:=by
 subst hc;intro a w hs
 have hv:a.eval o=.bool b:=by
  unfold readB at hb;split at hb
  .rename_i t;split at hb
   .rename_i k b' hg;simp only[aal]at hb;subst hb;obtain⟨F,ow,hx⟩:=hs.rep;have hh:=hx.sr t;rw[hg]at hh;exact Aj (hh.avr (λ_ _ h=>by cases h))
   .cases hb
  .simp only[aal]at hb;subst hb;rfl
  .cases hb
 exact wp_cond_split hv (λh=>h1 h a w hs) (λh=>h2 h a w hs)
def Ns(id:Nat)(n:Env->Prop)(x:Nat->Env->Prop)(i:Nat):Env->Prop:=
 match aau i id with
 |true=>n
 |false=>x i
theorem Ht.block{id:Nat}{c1:Code}(hc:c=.block id c1)(h:Ht P N fr c1 e n r (Ns id n x)):Ht P N fr c e n r x:=by
 subst hc;intro a w hs;refine wp_block (acA (h a w hs) ?_);rintro ex a w ⟨e',hh,hp⟩;cases ex with
 |exit i=>
  simp only[acQ];have hp:Ns id n x i e':=hp;unfold Ns at hp;by_cases hi:i=id
  .subst hi;rw[aaW]at hp;rw[if_pos rfl];exact⟨e',hh,hp⟩
  .rw[Qf hi]at hp;rw[if_neg hi];exact⟨e',hh,hp⟩
 |_=>exact⟨e',hh,hp⟩
theorem Ht.skip(hc:c=.skip)(h:n e):Ht P N fr c e n r x:=by
 subst hc;exact λa w hs=>wp_skip ⟨e,hs,h⟩
theorem Ht.exit{i:Nat}(hc:c=.exit i)(h:x i e):Ht P N fr c e n r x:=by
 subst hc;exact λa w hs=>wp_exit ⟨e,hs,h⟩
theorem Ht.ret(hc:c=.ret)(h:r e):Ht P N fr c e n r x:=by
 subst hc;exact λa w hs=>wp_ret ⟨e,hs,h⟩
theorem Ht.mono{n' r':Env->Prop}{x':Nat->Env->Prop}(h:Ht P N fr c e n r x)(hn:∀e,n e->n' e)(hr:∀e,r e->r' e)(hx:∀i e,x i e->x' i e):Ht P N fr c e n' r' x':=by
 intro a w hs;refine acA (h a w hs) ?_;rintro ex a w ⟨e',hh,hp⟩;refine⟨e',hh,?_⟩;cases ex with
 |normal=>exact hn _ hp
 |ret=>exact hr _ hp
 |exit i=>exact hx _ _ hp
 |_=>exact hp
theorem Ef{σ:Type}{c:Code}{Q:Exit->Act->World->Prop}(I:σ->Act->World->Prop)
  (m:σ->Nat) (round:∀s a w,I s a w->c.wp P (Exit.then (λa' w'=>∃s',m s'<m s/\I s' a' w') Q) a w) (s:σ) {a:Act}{w:World} (h₀:I s a w):(Code.loop c).wp P Q a w:=by
 intro b k cs
 have key:∀n s a w,m s=n->I s a w ->
   ∃e a' w',Q e a' w'/\Arrives P (lone (b.at a (.code c::.inLoop c::k)) cs w) b k cs e a' w':=by
  intro n
  induction n using abK with
  |_ n ih=>
   intro s a w hn hI;obtain⟨e,a₁,w₁,hq,hi⟩:=round s a w hI b (.inLoop c::k) cs;cases e with
   |normal=>
    obtain⟨s',hk,hh⟩:=hq;obtain⟨e₂,a₂,w₂,hl,hj⟩:=ih (m s') (hn▸hk) s' a₁ w₁ rfl hh;exact⟨e₂,a₂,w₂,hl,.of_steps (Steps.trans hi (.one step_inLoop)) hj⟩
   |exit id=>exact⟨_,a₁,w₁,hq,.pass (x:=.inLoop c) rfl (λ_ _=>.inl (by simp)) hi⟩
   |goto l=>exact⟨_,a₁,w₁,hq,.pass (x:=.inLoop c) rfl (λ_ _=>.inl (by simp)) hi⟩
   |ret=>exact⟨_,a₁,w₁,hq,.pass (x:=.inLoop c) rfl (λ_ _=>.inl (by simp)) hi⟩
   |panic ch=>exact⟨_,a₁,w₁,hq,.pass (x:=.inLoop c) rfl (λ_ _=>.inl (by simp)) hi⟩
   |outgrown=>exact⟨_,a₁,w₁,hq,.pass (x:=.inLoop c) rfl (λ_ _=>.inl (by simp)) hi⟩
 obtain⟨e,a',w',hq,hi⟩:=key _ s a w rfl h₀;exact⟨e,a',w',hq,.of_steps (.one step_loop) hi⟩
end
inductive Lp(σ ρ:Type) where
 |go (s:σ)
 |out (r:ρ)
inductive LpT{σ ρ:Type}(step:σ->Lp σ ρ)(ob:σ->Prop):σ->Prop where
 |mk (s:σ):ob s->(∀s',step s=.go s'->LpT step ob s')->LpT step ob s
inductive LpR{σ ρ:Type}(step:σ->Lp σ ρ):σ->ρ->Prop where
 |out {s r}:step s=.out r->LpR step s r
 |go {s s' r}:step s=.go s'->LpR step s' r->LpR step s r
open Classical in
noncomputable def lpV{σ ρ:Type}[Inhabited ρ](step:σ->Lp σ ρ)(s:σ):ρ:=if h:∃r,LpR step s r then Classical.choose h else default
theorem LpR.fn{σ ρ:Type}{step:σ->Lp σ ρ}{s:σ}{r:ρ}(h:LpR step s r):∀ {r'},LpR step s r'->r'=r:=by
 induction h with
 |out h=>intro r' h';cases h' with
  |out h''=>rw[h]at h'';cases h'';rfl
  |go h'' _=>rw[h]at h'';cases h''
 |go h _ ih=>intro r' h';cases h' with
  |out h''=>rw[h]at h'';cases h''
  |go h'' h3=>rw[h]at h'';cases h'';exact ih h3
theorem LpR.val{σ ρ:Type}[Inhabited ρ]{step:σ->Lp σ ρ}{s:σ}{r:ρ}(h:LpR step s r):lpV step s=r:=by
 have hex:∃r,LpR step s r:=⟨r,h⟩;unfold lpV;rw[dif_pos hex];exact h.fn (Classical.choose_spec hex)
theorem nP{σ ρ:Type}[Inhabited ρ]{step:σ->Lp σ ρ}{s:σ}{r:ρ}(h:step s=.out r):lpV step s=r:=(LpR.out h).val
theorem oP{σ ρ:Type}[Inhabited ρ]{step:σ->Lp σ ρ}{s s':σ}(h:step s=.go s'):lpV step s=lpV step s':=by
 by_cases hex:∃r,LpR step s' r
 .obtain⟨r,hr⟩:=hex;rw[hr.val,(LpR.go h hr).val]
 .have hh:¬ ∃r,LpR step s r:=by
   rintro⟨r,hr⟩;cases hr with
   |out h'=>rw[h]at h';cases h'
   |go h' h''=>rw[h]at h';cases h';exact hex ⟨r,h''⟩
  unfold lpV;rw[dif_neg hex,dif_neg hh]
theorem LpT.ob{σ ρ:Type}{step:σ->Lp σ ρ}{ob:σ->Prop}{s:σ}(h:LpT step ob s):ob s:=by cases h;assumption
theorem LpT.next{σ ρ:Type}{step:σ->Lp σ ρ}{ob:σ->Prop}{s s':σ}(h:LpT step ob s)(hs:step s=.go s'):LpT step ob s':=by
 cases h with
 |mk _ _ h=>exact h s' hs
section
variable {P:aav}{N:NP}{fr:Fr}{c:Code}{n r:Env->Prop}{x:Nat->Env->Prop}
inductive LpN{σ ρ:Type}(step:σ->Lp σ ρ)(ob:σ->Prop):Nat->σ->Prop where
 |out {s r}:ob s->step s=.out r->LpN step ob 0 s
 |go {k s s'}:ob s->step s=.go s'->LpN step ob k s'->LpN step ob (k+1) s
theorem LpT.count{σ ρ:Type}{step:σ->Lp σ ρ}{ob:σ->Prop}{s:σ}(h:LpT step ob s):∃k,LpN step ob k s:=by
 induction h with
 |mk s ho _ ih=>
  cases hs:step s with
  |out r=>exact⟨0,.out ho hs⟩
  |go s'=>obtain⟨k,hk⟩:=ih s' hs;exact⟨k+1,.go ho hs hk⟩
theorem Ht.loop{σ ρ:Type}{c1:Code}(hc:c=.loop c1){I:σ->Env}{step:σ->Lp σ ρ}{ob:σ->Prop}{s0:σ}(hT:LpT step ob s0)
  (hround:∀s,ob s->Ht P N fr c1 (I s) (λe'=>∃s',step s=.go s'/\e'=I s') (λe'=>∃q,step s=.out q/\(LpR step s0 q->r e')) (λi e'=>∃q,step s=.out q/\(LpR step s0 q->x i e'))):Ht P N fr c (I s0) n r x:=by
 subst hc;intro a w hs;obtain⟨k0,hh⟩:=hT.count;refine Ef (σ:=Nat×σ) (λks a w=>LpN step ob ks.1 ks.2/\(∀q,LpR step ks.2 q->LpR step s0 q)/\Sim N fr.B fr.IoB fr.W0 fr.F0 (I ks.2) a w) (·.1) ?_ (k0,s0) ⟨hh,λ_ h=>h,hs⟩;rintro⟨k,s⟩ a w ⟨hk,hq,hj⟩;have hk:LpN step ob k s:=hk;have ho:ob s:=by cases hk<;>assumption
 refine acA (hround s ho a w hj) ?_;rintro ex a w ⟨e',hi,hp⟩;cases ex with
 |normal=>
  obtain⟨s',hl,rfl⟩:=hp;cases hk with
  |out _ h=>rw[hl]at h;cases h
  |go _ h hk'=>
   rw[hl]at h;cases h;exact⟨(_,s'),ack _,hk',λq h=>hq q (.go hl h),hi⟩
 |ret=>
  obtain⟨q,hl,h⟩:=hp;exact⟨e',hi,h (hq q (.out hl))⟩
 |exit i=>
  obtain⟨q,hl,h⟩:=hp;exact⟨e',hi,h (hq q (.out hl))⟩
 |_=>exact hp.elim
end
inductive Tk where
 |same
 |sh
 |fr
 |acc (f:Bool)
 |own (f:Bool)
 |bx (l:List (Option (Option Bool)))
def cd:List (Option (Option Bool))->List (K×C)->List (K×C)
 |some (some f)::l,(_,.nl t)::cs=>(.acc f,.lst t [])::cd l cs
 |some none::l,(.acc _,c)::cs=>(.sh,norm c)::cd l cs
 |some none::l,(.fr,c)::cs=>(.sh,c)::cd l cs
 |_::l,kc::cs=>kc::cd l cs
 |[],cs=>cs
 |_::_,[]=>[]
theorem Ps:∀(l:List (Option (Option Bool))) (cs:List (K×C)),(cd l cs).length=cs.length
 |[],cs=>by cases cs<;>rfl
 |_::_,[]=>by simp[cd]
 |none::l,kc::cs=>by
  have:=Ps l cs;simp[cd,this]
 |some (some f)::l,(k,c)::cs=>by
  have:=Ps l cs;cases c<;>simp[cd,this]
 |some none::l,(k,c)::cs=>by
  have:=Ps l cs;cases k<;>simp[cd,this]
theorem Qs:∀ {l:List (Option (Option Bool))}{cs:List (K×C)}{j:Nat}{kc:K×C},(cd l cs)[j]? = some kc->∃kc0,cs[j]? = some kc0/\(kc=kc0\/(∃f t,kc0.2=.nl t/\kc=(.acc f,.lst t []))\/(∃f,kc0.1=.acc f/\kc=(.sh,norm kc0.2))\/(kc0.1=.fr/\kc=(.sh,kc0.2)))
 |[],[],j,kc,h=>by simp[cd]at h
 |[],_::_,j,kc,h=>⟨kc,h,.inl rfl⟩
 |_::_,[],j,kc,h=>by simp[cd]at h
 |none::l,kc0::cs,j,kc,h=>by
  cases j with
  |zero=>simp[cd]at h;exact⟨kc0,rfl,.inl h.symm⟩
  |succ j=>
   obtain⟨q,h1,h2⟩:=Qs (l:=l) (cs:=cs) (j:=j) (kc:=kc) (by simpa [cd] using h);exact⟨q,by simpa using h1,h2⟩
 |some (some f)::l,(k,c)::cs,j,kc,h=>by
  cases j with
  |zero=>
   cases c with
   |nl t=>simp[cd]at h;exact⟨(k,.nl t),rfl,.inr (.inl ⟨f,t,rfl,h.symm⟩)⟩
   |_=>simp[cd]at h;exact⟨_,rfl,.inl h.symm⟩
  |succ j=>
   obtain⟨q,h1,h2⟩:=Qs (l:=l) (cs:=cs) (j:=j) (kc:=kc) (by cases c<;>simpa [cd] using h);exact⟨q,by simpa using h1,h2⟩
 |some none::l,(k,c)::cs,j,kc,h=>by
  cases j with
  |zero=>
   cases k with
   |acc f=>simp[cd]at h;exact⟨_,rfl,.inr (.inr (.inl ⟨f,rfl,h.symm⟩))⟩
   |fr=>simp[cd]at h;exact⟨_,rfl,.inr (.inr (.inr ⟨rfl,h.symm⟩))⟩
   |_=>simp[cd]at h;exact⟨_,rfl,.inl h.symm⟩
  |succ j=>
   obtain⟨q,h1,h2⟩:=Qs (l:=l) (cs:=cs) (j:=j) (kc:=kc) (by cases k<;>simpa [cd] using h);exact⟨q,by simpa using h1,h2⟩
def leB:Bool->Bool->Bool
 |true,false=>false
 |_,_=>true
def bf:Tk->AV->Option AV
 |.same,a=>some a
 |.sh,.v .sh c=>some (.v .sh (norm c))
 |.sh,.v .fr c=>some (.v .sh (norm c))
 |.sh,.v (.acc _) c=>some (.v .sh (norm c))
 |.sh,.agg _ cs=>some (.agg false (norms cs))
 |.fr,.v .fr c=>some (.v .fr (norm c))
 |.fr,.v (.acc true) c=>some (.v .fr (norm c))
 |.fr,.agg true cs=>some (.agg true (norms cs))
 |.acc f,.v _ (.nl t)=>some (.v (.acc f) (.lst t []))
 |.acc f,.v (.acc f') c=>match leB f f' with
  |true=>some (.v (.acc f) (norm c))
  |false=>none
 |.own f,.v (.own f') c=>match leB f f' with
  |true=>some (.v (.own f) c)
  |false=>none
 |.bx l,.box cs=>some (.box (cd l cs))
 |_,_=>none
def Wg(e:Env):List (Nat×Tk)->Option Env
 |[]=>some []
 |(n,k)::r=>match bf k (da e n),Wg e r with
  |some a,some e'=>match fc a with
   |true=>some ((n,a)::e')
   |false=>none
  |_,_=>none
theorem RC.lower{F:Fz}{B:Nat}{f f':Bool}{w:World}{c:C}{v:Value}(h:RC F (lof B f') w c v)(hf:leB f f'=true):RC F (lof B f) w c v:=h.mono (λ_ _ h=>h) (by cases f<;>cases f'<;>simp[lof,leB]at hf⊢) (λ_ _ _=>rfl)
theorem Rs{F:Fz}{B:Nat}{w:World}{o:Option Nat->Option Nat}{k:Tk}{av av':AV}{v:Value}(h:bf k av=some av')(hv:VR F B w o av v):VR F B w o av' v:=by
 have h0:∀ {lo:Nat}{c:C},RC F lo w c v->RC F 0 w (norm c) v:=λh=>(acb h).norm;unfold bf at h;split at h
 .cases h;exact hv
 .cases h;exact h0 hv
 .cases h;exact h0 (hv:RC F B w _ v)
 .cases h;exact h0 hv.1
 .rename_i f cs;cases h;obtain⟨vs,rfl,hr⟩:=hv;exact⟨vs,rfl,(hr.mono (λ_ _ h=>h) (acu _) (λ_ _ _=>rfl)).norms⟩
 .cases h;exact(hv:RC F B w _ v).norm
 .cases h;exact RC.norm hv.1
 .cases h;obtain⟨vs,rfl,hr⟩:=hv;exact⟨vs,rfl,hr.norms⟩
 .rename_i f k' t;cases h
  have hi:∃lo,RC F lo w (.nl t) v:=by
   cases k' with
   |sh=>exact⟨_,hv⟩
   |fr=>exact⟨_,hv⟩
   |acc f=>exact⟨_,hv.1⟩
   |own f=>rcases hv with⟨t,h1,_⟩|⟨t,xs,b,cap,cs,vs,h1,_⟩<;>cases h1
  obtain⟨lo,hi⟩:=hi;cases hi;exact⟨.nil _,.inl ⟨t,rfl,rfl⟩⟩
 .rename_i f f' c;split at h
  .rename_i hf;cases h;exact Ca.norm ⟨RC.lower hv.1 hf,hv.2⟩
  .cases h
 .rename_i f f' c;split at h
  .rename_i hf;cases h;rcases hv with h|⟨t,xs,b,cap,cs,vs,e1,e2,e3,e4,e5,hh,e6,e7,e8,e9⟩
   .exact .inl h
   exact .inr ⟨t,xs,b,cap,cs,vs,e1,e2,e3,e4,e5,hh,aaL (by cases f<;>cases f'<;>simp[lof,leB]at hf⊢) e6,e7,e8,λi j x c hx hc=>RC.lower (e9 i j x c hx hc) hf⟩
  .cases h
 .rename_i l cs;cases h;obtain⟨b,vs,e1,e2,e3,e4,e5,e6⟩:=hv;refine⟨b,vs,e1,e2,e3,e4,by rw[Ps];exact e5,λj kc u hj hu=>?_⟩;obtain⟨hk,h1,h2⟩:=Qs hj;have h3:=e6 j hk u h1 hu;rcases h2 with rfl|⟨f,t,h4,rfl⟩|⟨f,h4,rfl⟩|⟨h4,rfl⟩
  .exact h3
  rotate_left
  .obtain⟨k0,c0⟩:=hk;have h4:k0=.acc f:=h4;subst h4;exact(acb h3.1).norm
  .obtain⟨k0,c0⟩:=hk;have h4:k0=.fr:=h4;subst h4;exact acb h3
  .obtain⟨k0,c0⟩:=hk;have h4:c0=.nl t:=h4;subst h4
   have hi:∃lo,RC F lo w (.nl t) u:=by
    cases k0 with
    |sh=>exact⟨_,h3⟩
    |fr=>exact⟨_,h3⟩
    |acc f=>exact⟨_,h3.1⟩
    |own f=>exact h3.elim
   obtain⟨lo,hi⟩:=hi;cases hi;exact⟨.nil _,.inl ⟨t,rfl,rfl⟩⟩
 .cases h
theorem pP{e:Env}:∀ {pat:List (Nat×Tk)}{e':Env},Wg e pat=some e'->∀n,da e' n=.dead\/∃k,bf k (da e n)=some (da e' n)/\fc (da e' n)=true
 |[],e',h,n=>by simp only[Wg,aal]at h;subst h;exact .inl rfl
 |(m,k)::r,e',h,n=>by
  simp only[Wg]at h;split at h
  .rename_i a e2 ha he;split at h
   .rename_i hf;simp only[aal]at h;subst h;simp only[da];cases hb:aau m n with
    |true=>
     right;rw[aan hb]at ha;exact⟨k,ha,hf⟩
    |false=>exact pP he n
   .cases h
  .cases h
theorem ja.cast{B:Nat}{IoB:List Nat}{F0 F:Fz}{e e':Env}{tm:Nat->Value}{w:World}{ow:Nat->Option Nat->Option Nat}(hs:ja B IoB F0 e tm w F ow)(hfl:∀n,fc (da e n)=true)
  {pat:List (Nat×Tk)} (h:Wg e pat=some e'):ja B IoB F0 e' tm w F ow:=by
 refine hs.flat λn=>?_;rcases pP h n with h|⟨k,hc,hf⟩
 .rw[h];exact⟨rfl,trivial⟩
 .have hh:=hs.sr n;rw[Ze (hfl n)]at hh;exact⟨hf,Rs hc hh⟩
def Ie:Env->Bool
 |[]=>true
 |(_,a)::r=>fc a&&Ie r
theorem kl:∀ {e:Env},Ie e=true->∀n,fc (da e n)=true
 |[],_,_=>rfl
 |(m,a)::r,h,n=>by
  simp only[Ie,aam]at h;simp only[da];cases aau m n with
  |true=>exact h.1
  |false=>exact kl h.2 n
def Ej(e:Env)(s:Nat):Env:=
 match da e s with
 |.v (.own f) (.lst t xs)=>put (Ta (mc (unview s (da e s)) e) s .dead) s (.v (.acc f) (.lst t xs))
 |_=>e
theorem ja.freeze{B:Nat}{IoB:List Nat}{F0 F:Fz}{e:Env}{a:Act}{w:World}{ow:Nat->Option Nat->Option Nat}(hs:ja B IoB F0 e (λn=>a.tmps.getD n undef) w F ow)(hBw:B<=w.heap.size)(s:Nat) :
  ∃F' ow',ja B IoB F0 (Ej e s) (λn=>a.tmps.getD n undef) w F' ow':=by
 unfold Ej;split
 .rename_i f t xs hg;have hn:=hs.sr s;rw[hg]at hn;rcases hn with⟨t',e1,e2⟩|⟨t',hq,b,cap,cs,vs,e1,e2,e3,e4,e5,hh,e6,e7,e8,e9⟩
  .cases e1;have e2:a.tmps.getD s undef=.slice none 0 0:=e2;have h1:=hs.unviewAt s .dead (λ_ _=>trivial);rw[hg]at h1
   have h3:=h1.putG (d:=s) (av:=.v (.acc f) (.lst t [])) (v:=a.tmps.getD s undef) (owd:=λ_=>none) hBw (Ua.refl _ _) h1.live
    (λi b' h=>by simp at h) (λi b' h=>by simp at h) (λi i' b' h h'=>by simp at h)
    (λg' _ _=>by
      show Ca F (lof B f) w _ _ _;simp only[if_true];exact⟨by rw[e2];exact .nil t,.inl ⟨t,rfl,e2⟩⟩)
   have hp:(λn=>if n=s then a.tmps.getD s undef else a.tmps.getD n undef)=λn=>a.tmps.getD n undef:=funext λn=>by
    by_cases h:n=s
    .rw[if_pos h,h]
    .rw[if_neg h]
   rw[hp]at h3;rw[hg];exact⟨F,_,h3⟩
  cases e1;have e2:a.tmps.getD s undef=.slice (some ⟨b,0,none⟩) xs.length cap:=e2;have hk:Mn B IoB b:=(hs.bd s none b e3).2;have h1:=hs.unviewAt s .dead (λ_ _=>trivial);rw[hg]at h1
  have hl:∀s' i,(λn=>if n=s then λ_=>none else ow n) s' i≠some b:=by
   intro s' i h;by_cases he:s'=s
   .simp[he]at h
   .simp only[he,if_false]at h;exact he (hs.inj _ _ _ _ _ h e3).1
  let F':Fz:=λb' o=>F b' o\/(b'=b/\o<xs.length*t.size);have hm:xs.length*t.size<=cs.length:=by rw[e5];exact Nat.mul_le_mul_right _ hh
  have h2:ja B IoB F0 (Ta (mc (unview s (.v (.own f) (.lst t xs))) e) s .dead) (λn=>a.tmps.getD n undef) w F' (λn=>if n=s then λ_=>none else ow n):=by
   refine⟨h1.sub.to λb o h=>.inl (h1.sub b o h),λb' o h=>?_,h1.live.ext (λ_ _ h=>.inl h) λb' o h=>?_,h1.inj,h1.bd,λn=>?_⟩
   .rcases h with h|⟨rfl,_⟩
    .exact h1.new _ _ h
    .exact .inr hk
   .rcases h with h|⟨rfl,h⟩
    .exact h1.live _ _ h
    .rw[e4.cell,aap (by omega)];rfl
   .exact SR.ext (F:=F) (F':=F') (λb o h=>.inl h) (λb' o h=>h.imp_right (λh s' i=>h.1▸hl s' i)) (h1.sr n)
  have h3:=h2.putG (d:=s) (av:=.v (.acc f) (.lst t xs)) (v:=a.tmps.getD s undef) (owd:=λi=>match i with|none=>some b|some _=>none) hBw (Ua.refl _ _) h2.live
   (λi b' h=>by
     cases i with
     |none=>simp at h;subst h;exact hs.bd s none _ e3
     |some i=>simp at h)
   (λi b' h s' i' _=>by
     cases i with
     |none=>simp at h;subst h;exact hl s' i'
     |some i=>simp at h)
   (λi i' b' h h'=>by cases i<;>cases i'<;>simp at h h'⊢)
   (λg' _ _=>by
     show Ca F' (lof B f) w _ _ _;simp only[if_true];rw[e2]
     refine⟨.lst t xs b 0 cap vs e6 hh (λi j hi hj=>.inr ⟨rfl,by rw[aaw];exact Vg hi hj⟩) (λi j hi hj=>by rw[e4.cell,aaw];exact e8 i j hi hj)
      (λi j x c hx hc=>(e9 i j x c hx hc).mono (λ_ _ h=>.inl h) (aaz _) (λ_ _ _=>rfl)),.inr ⟨t,xs,b,cap,cs,rfl,rfl,rfl,e4,e5,λo ho h=>?_⟩⟩
     rcases h with h|h
     .exact e7 o h
     .omega)
  have hp:(λn=>if n=s then a.tmps.getD s undef else a.tmps.getD n undef)=λn=>a.tmps.getD n undef:=funext λn=>by
   by_cases h:n=s
   .rw[if_pos h,h]
   .rw[if_neg h]
  rw[hp]at h3;rw[hg];exact⟨F',_,h3⟩
 .exact⟨F,ow,hs⟩
section
variable {P:aav}{tt:TT}{N:NP}{fr:Fr}{c:Code}{e:Env}{n r:Env->Prop}{x:Nat->Env->Prop}
theorem Ht.cast{pat:List (Nat×Tk)}{e':Env}(hf:Ie e=true)(h:Wg e pat=some e')(hc:Ht P N fr c e' n r x):Ht P N fr c e n r x:=by
 intro a w hs;obtain⟨F,ow,hx⟩:=hs.rep;exact hc a w ⟨hs.defers,hs.tmps,hs.base,hs.f0,hs.kept,F,ow,hx.cast (kl hf) h⟩
theorem Ht.freeze(s:Nat)(hc:Ht P N fr c (Ej e s) n r x):Ht P N fr c e n r x:=by
 intro a w hs;obtain⟨F,ow,hx⟩:=hs.rep;obtain⟨F',hi,hh⟩:=hx.freeze (aaL hs.base hs.kept.size) s;exact hc a w ⟨hs.defers,hs.tmps,hs.base,hs.f0,hs.kept,F',hi,hh⟩
end
def Ty.i64:Ty->Bool
 |.int=>true
 |.time=>true
 |.row=>true
 |.item=>true
 |_=>false
def okC:C->Bool
 |.int _ _=>true
 |.bool _=>true
 |.str _=>true
 |.nl _=>true
 |.lst .byte _=>true
 |_=>false
def sD:K×C->Bool
 |(.acc _,.lst t _)=>t.i64
 |(.acc _,_)=>false
 |(.own _,_)=>false
 |(_,c)=>okC c
def Xg{α:Type}(p:α->Bool):List α->Bool
 |[]=>true
 |x::r=>p x&&Xg p r
theorem xn{α:Type}{p:α->Bool}:∀ {l:List α},Xg p l=true->∀ {j:Nat}{x:α},l[j]? = some x->p x=true
 |[],_,j,x,h=>by simp at h
 |y::r,ha,0,x,h=>by simp only[Xg,aam]at ha;simp at h;subst h;exact ha.1
 |y::r,ha,j+1,x,h=>by simp only[Xg,aam]at ha;exact xn ha.2 (by simpa using h)
def Fj:AV->Bool
 |.dead=>true
 |.v (.acc _) (.lst t _)=>t.i64
 |.v (.acc _) _=>false
 |.v (.own _) (.lst t _)=>t.i64
 |.v (.own _) _=>false
 |.v _ c=>okC c
 |.agg _ cs=>Xg okC cs
 |.box cs=>Xg sD cs
 |_=>false
def yn(s:Nat):Env->Bool
 |[]=>true
 |(n,a)::r=>(aau n s||Fj a)&&yn s r
theorem zn{s:Nat}:∀ {e:Env},yn s e=true->∀n,n≠s->Fj (da e n)=true
 |[],_,_,_=>rfl
 |(m,a)::r,h,n,hn=>by
  simp only[yn,aam,aaF]at h;simp only[da];cases hb:aau m n with
  |true=>
   have:=aan hb;subst this;rcases h.1 with h1|h1
   .exact absurd (aan h1) hn
   .exact h1
  |false=>exact zn h.2 n hn
theorem Ss{a:AV}(h:Fj a=true):fc a=true:=by
 cases a<;>first|rfl|(simp[Fj]at h)
theorem RC.ofInt{F:Fz}{lo:Nat}{w:World}{k:IntKind}{n:Int}{v:Value}(h:RC F lo w (.int k n) v):v=.int k n:=by cases h;rfl
theorem Ts{t:Ty}(ht:t.i64=true){x:t.T}{j:Nat}{c:C}(h:(cells t x)[j]? = some c):∃n,c=.int .i64 n:=by
 cases t<;>simp[Ty.i64]at ht
 all_goals
  (match j,h with
   |0,h=>simp[cells]at h;exact⟨_,h.symm⟩
   |1,h=>first|(simp[cells]at h;done)|(simp[cells]at h;exact⟨_,h.symm⟩)
   |2,h=>first|(simp[cells]at h;done)|(simp[cells]at h;exact⟨_,h.symm⟩)
   |3,h=>first|(simp[cells]at h;done)|(simp[cells]at h;exact⟨_,h.symm⟩)
   |4,h=>first|(simp[cells]at h;done)|(simp[cells]at h;exact⟨_,h.symm⟩)
   |j+5,h=>simp[cells]at h)
theorem ja.thaw{B:Nat}{IoB:List Nat}{F0 F:Fz}{e:Env}{tm:Nat->Value}{w:World}{ow:Nat->Option Nat->Option Nat}(hs:ja B IoB F0 e tm w F ow)(hf0:∀b o,F0 b o->b<B/\b ∉ IoB){s:Nat}{f:Bool}{t:Ty}{xs:List t.T}
  (hg:da e s=.v (.acc f) (.lst t xs)) (ht:t.i64=true) (hok:yn s e=true):∃F',ja B IoB F0 (Ta e s (.v (.own f) (.lst t xs))) tm w F' ow:=by
 have kj:=hs.sr s;rw[hg]at kj;obtain⟨jb,hd⟩:=kj
 have he:∀n,fc (da (Ta e s (.v (.own f) (.lst t xs))) n)=true:=λn=>by
  rw[Ka];split
  .rfl
  .rename_i hn;exact Ss (zn hok n hn)
 rcases hd with⟨t0,e1,e2⟩|⟨t0,ks,b,cap,cs,e1,e2,e3,e4,e5,e6⟩
 .have e1:C.lst t xs=.lst t0 []:=e1;refine⟨F,hs.flat λn=>⟨he n,?_⟩⟩;rw[Ka];split
  .rename_i hn;rw[hn,e1];exact .inl ⟨t0,rfl,e2⟩
  .rename_i hn;have:=hs.sr n;rw[Ze (Ss (zn hok n hn))]at this;exact this
 .have e1:C.lst t xs=.lst t0 ks:=e1;cases e1;let F':Fz:=λb' o=>F b' o/\b'≠b;have kk:∀b' o,F' b' o->F b' o:=λ_ _ h=>h.1;rw[e2]at jb;cases jb with
  |lst _ _ _ o cap' vs hb hcap hf hc hr=>
   have hp:Mn B IoB b:=(hs.bd s none b e3).2
   have ih:∀o u,F b o->w.cell? ⟨b,o,none⟩=some u->∃n,u=.int .i64 n:=by
    intro o u hq hu
    have ho:o<xs.length*t.size:=by
     by_cases h:o<xs.length*t.size
     .exact h
     .exact absurd hq (e6 o (by omega))
    have ju:=Yk t;have hi:o / t.size<xs.length:=by rw[Nat.div_lt_iff_lt_mul ju];exact ho
    have hj:o % t.size<t.size:=Nat.mod_lt _ ju;have h1:=hc (o / t.size) (o % t.size) hi hj;rw[show 0+(o / t.size*t.size+o % t.size)=o by rw[aaw,Nat.mul_comm];exact Nat.div_add_mod _ _]at h1;rw[h1]at hu;cases hu;have hy:(cells t xs[o / t.size])[o % t.size]? = some ((cells t xs[o / t.size])[o % t.size]'(by rw[We];exact hj)):=aap _;obtain⟨n,hn⟩:=Ts ht hy;have h2:=hr _ _ _ _ (aap hi) hy;rw[hn]at h2;exact⟨n,h2.ofInt⟩
   have kn:∀ {lo:Nat}{c:C}{v:Value},okC c=true->RC F lo w c v->RC F' lo w c v:=by
    intro lo c v hw h;cases h with
    |int k n=>exact .int k n
    |bool b=>exact .bool b
    |str s=>exact .str s
    |nl t=>exact .nl t
    |nil t=>exact .nil t
    |lst t2 ys b2 o2 cap2 kr hb2 hcap2 hf2 hc2 hr2=>
     cases t2<;>simp[okC]at hw;refine .lst .byte ys b2 o2 cap2 kr hb2 hcap2 (λi j hi hj=>⟨hf2 i j hi hj,λe=>?_⟩) hc2 (λi j x c hx hw=>?_)
     .subst e;obtain⟨n,hn⟩:=ih _ _ (hf2 i j hi hj) (hc2 i j hi hj);have io:j=0:=by have:j<1:=hj;omega
      subst io;have h3:=hr2 i 0 ys[i] (.int .u8 ys[i]) (aap hi) rfl;rw[hn]at h3;cases h3.ofInt
     .have h3:=hr2 i j x c hx hw
      match j,hw with
      |0,hw=>simp[cells]at hw;subst hw;rw[h3.ofInt];exact .int _ _
      |j+1,hw=>simp[cells]at hw
   have km:∀ {lo:Nat}{t2:Ty}{ys:List t2.T}{v:Value},t2.i64=true->(∀b2 o2 n2 cap2,v=.slice (some ⟨b2,o2,none⟩) n2 cap2->b2≠b)->RC F lo w (.lst t2 ys) v->RC F' lo w (.lst t2 ys) v:=by
    intro lo t2 ys v hm ix h;cases h with
    |nil=>exact .nil _
    |lst _ _ b2 o2 cap2 kr hb2 hcap2 hf2 hc2 hr2=>
     refine .lst t2 ys b2 o2 cap2 kr hb2 hcap2 (λi j hi hj=>⟨hf2 i j hi hj,ix _ _ _ _ rfl⟩) hc2 (λi j x c hx hw=>?_);have h3:=hr2 i j x c hx hw;obtain⟨n,rfl⟩:=Ts hm hw;rw[h3.ofInt];exact .int _ _
   have hh:∀ {lo:Nat}{ob:Option Nat}{t2:Ty}{ys:List t2.T}{v:Value},t2.i64=true->ob≠some b->Ca F lo w ob (.lst t2 ys) v->Ca F' lo w ob (.lst t2 ys) v:=by
    rintro lo ob t2 ys v hm ie ⟨h1,h2⟩;rcases h2 with⟨t3,q1,q2⟩|⟨t3,zs,b2,cap2,hl,q1,q2,q3,q4,q5,q6⟩
    .have kp:C.lst t2 ys=.lst t3 []:=q1;cases kp;exact⟨by rw[q2];exact .nil _,.inl ⟨t2,rfl,q2⟩⟩
    .have ix:b2≠b:=λe=>ie (e▸q3);exact⟨km hm (λb3 o3 n3 c3 h=>by rw[q2]at h;cases h;exact ix) h1,.inr ⟨t3,zs,b2,cap2,hl,q1,q2,q3,q4,q5,λo ho hF=>q6 o ho hF.1⟩⟩
   refine⟨F',?_⟩
   have it:ja B IoB F0 (Ta e s .dead) tm w F' ow:=by
    have ki:Xe B IoB F0 F':=hs.sub.to λb' o h=>⟨hs.sub _ _ h,λe=>by subst e;exact hp.elim (λhB=>by have:=(hf0 _ _ h).1;omega) (hf0 _ _ h).2⟩;refine⟨ki,λb' o h=>hs.new _ _ h.1,ki.live hs.live (λ_ _ _=>rfl) λb' o h=>hs.live _ _ h.1,hs.inj,hs.bd,λn=>?_⟩;rw[Ka];split
    .trivial
    .rename_i hn;have ha:=zn hok n hn;have h:=hs.sr n;have hz:=Ss ha;rw[Ze hz]at h⊢;have ie:∀i,ow n i≠some b:=λi h=>hn (hs.inj _ _ _ _ _ h e3).1;cases hav:da e n with
     |dead=>trivial
     |v k c=>
      rw[hav]at h ha;cases k with
      |sh=>exact kn ha h
      |fr=>exact kn ha h
      |acc f2=>
       cases c with
       |lst t2 ys=>exact hh ha (ie none) h
       |_=>simp[Fj]at ha
      |own f2=>
       cases c with
       |lst t2 ys=>
        rcases h with h|⟨t3,zs,b2,cap2,hl,kr,q1,q2,q3,q4,q5,kq,q6,q7,q8,q9⟩
        .exact .inl h
        .refine .inr ⟨t3,zs,b2,cap2,hl,kr,q1,q2,q3,q4,q5,kq,q6,λo hF=>q7 o hF.1,q8,λi j x c hx hw=>?_⟩;cases q1;have h3:=q9 i j x c hx hw;obtain⟨m,rfl⟩:=Ts ha hw;rw[h3.ofInt];exact .int _ _
       |_=>simp[Fj]at ha
     |agg f2 hl=>
      rw[hav]at h ha;obtain⟨us,q1,q2⟩:=h;refine⟨us,q1,RCs.mk q2.length (λj c v hc hv=>?_)⟩;obtain⟨v2,q3,q4⟩:=q2.get hc;rw[hv]at q3;cases q3;exact kn (xn ha hc) q4
     |box hl=>
      rw[hav]at h ha;obtain⟨b2,us,q1,q2,q3,q4,q5,q6⟩:=h;refine⟨b2,us,q1,q2,q3,λo hF=>q4 o hF.1,q5,λj kc u hk hu=>?_⟩;have h3:=q6 j kc u hk hu;have h4:=xn ha hk;obtain⟨k,c⟩:=kc;cases k with
      |sh=>exact kn h4 h3
      |fr=>exact kn h4 h3
      |acc f2=>
       cases c with
       |lst t2 ys=>exact hh h4 (ie (some j)) h3
       |_=>simp[sD]at h4
      |own f2=>simp[sD]at h4
     |_=>rw[hav]at ha;simp[Fj]at ha
   refine⟨it.sub,it.new,it.live,it.inj,it.bd,λn=>?_⟩;by_cases hn:n=s
   .rw[hn,Ka,if_pos rfl];refine .inr ⟨t,xs,b,cap,cs,vs,rfl,e2,e3,e4,e5,hcap,hb,λo h=>h.2 rfl,λi j hi hj=>?_,λi j x c hx hw=>?_⟩
    .have h1:=hc i j hi hj;rw[aaw,e4.cell]at h1;exact h1
    .have h3:=hr i j x c hx hw;obtain⟨m,rfl⟩:=Ts ht hw;rw[h3.ofInt];exact .int _ _
   .rw[Ka,if_neg hn];have h:=it.sr n;rw[Ka,if_neg hn]at h;have hz:=Ss (zn hok n hn);rw[Ze hz]at h⊢;exact h
def Bn(e:Env)(s:Nat):Option Env:=
 match da e s with
 |.v (.acc f) (.lst t xs)=>match t.i64&&yn s e with
  |true=>some (Ta e s (.v (.own f) (.lst t xs)))
  |false=>none
 |_=>none
section
variable {P:aav}{N:NP}{fr:Fr}{c:Code}{e:Env}{n r:Env->Prop}{x:Nat->Env->Prop}
theorem Ht.thaw(s:Nat){e':Env}(h:Bn e s=some e')(hc:Ht P N fr c e' n r x):Ht P N fr c e n r x:=by
 intro a w hs;unfold Bn at h;split at h
 .rename_i f t xs hg;split at h
  .rename_i hb;simp only[aam]at hb;simp only[aal]at h;subst h;obtain⟨F,ow,hx⟩:=hs.rep;obtain⟨F',hh⟩:=hx.thaw hs.f0 hg hb.1 hb.2;exact hc a w ⟨hs.defers,hs.tmps,hs.base,hs.f0,hs.kept,F',ow,hh⟩
  .cases h
 .cases h
end
def nc:(ps:List PT)->Ab ps->Nat->Env
 |[],_,_=>[]
 |.int k::ps,x,i=>(i,.v .fr (.int k x.1))::nc ps x.2 (i+1)
 |.bool::ps,x,i=>(i,.v .fr (.bool x.1))::nc ps x.2 (i+1)
 |.str::ps,x,i=>(i,.v .fr (.str x.1))::nc ps x.2 (i+1)
 |.lst t::ps,x,i=>(i,.v .sh (.lst t x.1))::nc ps x.2 (i+1)
 |.st t::ps,x,i=>(i,.agg (upF false (cells t x.1)) (cells t x.1))::nc ps x.2 (i+1)
 |.rdr::ps,x,i=>(i,.box [(.sh,.lst .byte x.1.1),(.fr,.int .i64 x.1.2)])::nc ps x.2 (i+1)
def pb:List PT->Nat->Option Nat
 |[],_=>none
 |.rdr::_,i=>some i
 |.int _::ps,i=>pb ps (i+1)
 |.bool::ps,i=>pb ps (i+1)
 |.str::ps,i=>pb ps (i+1)
 |.lst _::ps,i=>pb ps (i+1)
 |.st _::ps,i=>pb ps (i+1)
def ng(o:Option Nat)(io:Option Nat)(n:Nat):Option Nat->Option Nat
 |none=>match o with
  |some s=>match aau s n with
   |true=>io
   |false=>none
  |none=>none
 |some _=>none
theorem Ai{F:Fz}{w:World}:∀ {ps:List PT}{x:Ab ps}{vs:List Value}{io:Option Nat} (i:Nat),xe F w ps x vs io ->
  vs.length=ps.length/\(∀b,io=some b->∃s,pb ps i=some s/\i<=s/\s<i+vs.length/\vs[s - i]? = some (.pointer (some ⟨b,0,none⟩))/\b<w.heap.size)/\(io=none->pb ps i=none) /\
  ∀ n,da (nc ps x i) n=.dead\/(i<=n/\fc (da (nc ps x i) n)=true/\∃v,vs[n - i]? = some v /\
    VR F w.heap.size w (ng (pb ps i) io n) (da (nc ps x i) n) v)
 |[],x,vs,io,i,h=>by
  obtain⟨rfl,rfl⟩:=h;exact⟨rfl,λb hb=>by simp at hb,λ_=>rfl,λn=>.inl rfl⟩
 |.rdr::ps,x,vs,io,i,h=>by
  obtain⟨b,sl,hl,rfl,rfl,hb,hr,hf,ht⟩:=h;obtain⟨t1,t2,t3,t4⟩:=Ai (i+1) ht;refine⟨by simp[t1],λb' hb'=>?_,λh=>by simp at h,λn=>?_⟩
  .simp only[aal]at hb';subst hb';exact⟨i,rfl,aaz _,by simp,by simp,hb.lt⟩
  .simp only[nc,da];cases hn:aau i n with
   |true=>
    have hh:=aan hn;subst hh;refine .inr ⟨aaz _,rfl,.pointer (some ⟨b,0,none⟩),by simp,b,[sl,.int .i64 x.1.2],rfl,by simp[pb,ng,aaW],hb,hf,rfl,λj kc u hk hu=>?_⟩
    match j,hk,hu with
    |0,hk,hu=>simp at hk hu;subst hk;subst hu;exact hr
    |1,hk,hu=>simp at hk hu;subst hk;subst hu;exact RC.int _ _
    |j+2,hk,hu=>simp at hk
   |false=>
    simp only[];have hi:i≠n:=λe=>by rw[e,aaW]at hn;cases hn
    rcases t4 n with h|⟨h1,h2,v,h3,h4⟩
    .exact .inl h
    .refine .inr ⟨by omega,h2,v,by rw[show n - i=(n - (i+1))+1 by omega];simpa using h3,?_⟩;have hj:pb ps (i+1)=none:=t3 rfl
     have h5:ng (pb ps (i+1)) none n=ng (some i) (some b) n:=funext λj=>by
      rw[hj];cases j<;>simp[ng,hn]
     rw[h5]at h4;exact h4
 |.int k::ps,x,vs,io,i,h=>by
  obtain⟨v,hl,rfl,hv,ht⟩:=h;exact step1 i (av:=.v .fr (.int k x.1)) rfl (λo=>by have h:RC F 0 w (.int k x.1) v:=hv;cases h;exact RC.int _ _) (Ai (i+1) ht) rfl rfl
 |.bool::ps,x,vs,io,i,h=>by
  obtain⟨v,hl,rfl,hv,ht⟩:=h;exact step1 i (av:=.v .fr (.bool x.1)) rfl (λo=>by have h:RC F 0 w (.bool x.1) v:=hv;cases h;exact RC.bool _) (Ai (i+1) ht) rfl rfl
 |.str::ps,x,vs,io,i,h=>by
  obtain⟨v,hl,rfl,hv,ht⟩:=h;exact step1 i (av:=.v .fr (.str x.1)) rfl (λo=>by have h:RC F 0 w (.str x.1) v:=hv;cases h;exact RC.str _) (Ai (i+1) ht) rfl rfl
 |.lst t::ps,x,vs,io,i,h=>by
  obtain⟨v,hl,rfl,hv,ht⟩:=h;exact step1 i (av:=.v .sh (.lst t x.1)) rfl (λo=>(hv:RC F 0 w (.lst t x.1) v)) (Ai (i+1) ht) rfl rfl
 |.st t::ps,x,vs,io,i,h=>by
  obtain⟨v,hl,rfl,hv,ht⟩:=h;exact step1 i (av:=.agg (upF false (cells t x.1)) (cells t x.1)) rfl (λo=>by obtain⟨us,h1,h2⟩:=hv;exact⟨us,h1,RCs.up (f:=false) h2⟩) (Ai (i+1) ht) rfl rfl
where
 step1 {F:Fz}{w:World}{p:PT}{ps:List PT}{x:Ab (p::ps)}{v:Value}{vs:List Value}{io:Option Nat} (i:Nat) {av:AV} (hfl:fc av=true) (hv:∀o,VR F w.heap.size w o av v)
   (t:vs.length=ps.length/\(∀b,io=some b->∃s,pb ps (i+1)=some s/\i+1<=s/\s<i+1+vs.length/\vs[s - (i+1)]? = some (.pointer (some ⟨b,0,none⟩))/\b<w.heap.size)/\(io=none->pb ps (i+1)=none) /\
     ∀ n,da (nc ps x.2 (i+1)) n=.dead\/(i+1<=n/\fc (da (nc ps x.2 (i+1)) n)=true/\∃v,vs[n - (i+1)]? = some v /\
       VR F w.heap.size w (ng (pb ps (i+1)) io n) (da (nc ps x.2 (i+1)) n) v))
   (he:nc (p::ps) x i=(i,av)::nc ps x.2 (i+1)) (hr:pb (p::ps) i=pb ps (i+1)) :
   (v::vs).length=(p::ps).length/\(∀b,io=some b->∃s,pb (p::ps) i=some s/\i<=s/\s<i+(v::vs).length/\(v::vs)[s - i]? = some (.pointer (some ⟨b,0,none⟩))/\b<w.heap.size)/\(io=none->pb (p::ps) i=none) /\
     ∀ n,da (nc (p::ps) x i) n=.dead\/(i<=n/\fc (da (nc (p::ps) x i) n)=true/\∃u,(v::vs)[n - i]? = some u /\
       VR F w.heap.size w (ng (pb (p::ps) i) io n) (da (nc (p::ps) x i) n) u):=by
  obtain⟨t1,t2,t3,t4⟩:=t;refine⟨by simp[t1],λb hb=>?_,λh=>hr.trans (t3 h),λn=>?_⟩
  .obtain⟨s,s1,s2,s3,s4,s5⟩:=t2 b hb;exact⟨s,hr.trans s1,by omega,by simp only[abF];omega,by rw[show s - i=(s - (i+1))+1 by omega];simpa using s4,s5⟩
  .rw[he,hr];simp only[da];cases hn:aau i n with
   |true=>
    have hh:=aan hn;subst hh;exact .inr ⟨aaz _,hfl,v,by simp,hv _⟩
   |false=>
    have hi:i≠n:=λe=>by rw[e,aaW]at hn;cases hn
    rcases t4 n with h|⟨h1,h2,u,h3,h4⟩
    .exact .inl h
    .exact .inr ⟨by omega,h2,u,by rw[show n - i=(n - (i+1))+1 by omega];simpa using h3,h4⟩
def Uf(tt:TT)(e:Env):aaG->AV
 |.tmp t=>da e t
 |.cell a ty=>match lk tt ty,da e a with
  |some d,.box cs=>match isAgg d with
   |false=>match cs with
    |[(k,c)]=>.v k c
    |_=>.dead
   |true=>match Xd cs,aau cs.length d.size with
    |some (f,l),true=>.agg f l
    |_,_=>.dead
  |_,_=>.dead
def Je:K->AV->Option AV
 |.sh,a=>bf .sh a
 |.fr,a=>bf .fr a
 |.acc f,a=>bf (.acc f) a
 |.own f,.v (.own f') c=>match leB f f' with
  |true=>some (.v (.own f) c)
  |false=>none
 |_,_=>none
def Us(f:Bool)(a:AV):Option PV:=
 match Je (frK f) a with
 |some (.v _ c)=>some ⟨f,false,[c]⟩
 |some (.agg _ cs)=>some ⟨f,true,cs⟩
 |_=>none
def qP:AV->Option AV
 |.box [(k,.lst .byte b),(_,.int .i64 p)]=>match k with
  |.own _=>none
  |_=>some (.box [(.sh,.lst .byte b),(.fr,.int .i64 p)])
 |_=>none
def Gj(tt:TT)(e:Env):List aaG->List (Bool×PT)->Option (List PV)
 |[],[]=>some []
 |v::vs,(f,_)::ps=>match Us f (Uf tt e v),Gj tt e vs ps with
  |some p,some l=>some (p::l)
  |_,_=>none
 |_,_=>none
def Bi(tt:TT)(e:Env)(vs:List aaG):RT->Option AV
 |.one k _=>match vs with
  |[v]=>Je k (Uf tt e v)
  |_=>none
 |.rdr=>match vs with
  |[v]=>qP (Uf tt e v)
  |_=>none
 |.tup l=>match vs with
  |[_]=>none
  |vs=>match Gj tt e vs l with
   |some ps=>some (.tup ps)
   |none=>none
def og(tmps:Array Value):aaG->Sem Value
 |.tmp t=>pure (tmps.getD t undef)
 |.cell a t=>do loadVar t (<-asAddr (tmps.getD a undef))
theorem D1(fn:Func)(tmps:Array Value):acj fn tmps=(do let vs <-fn.results.mapM (og tmps);pure (if h:vs.size=1 then vs[0] else .tuple vs)):=by
 have h:(λv:aaG=>match v with|.tmp t=>(pure (tmps.getD t undef):Sem Value)|.cell a t=>do loadVar t (<-asAddr (tmps.getD a undef)))=og tmps:=by
  funext v
  cases v<;>rfl
 unfold acj;rw[<-h];rfl
theorem mapM_ok{P:aav}{w:World}{tmps:Array Value}:∀ {rs:List aaG}{vs:List Value},rs.length=vs.length->(∀(j:Nat) (rv:aaG) (v:Value),rs[j]? = some rv->vs[j]? = some v->(og tmps rv).run P w=.ok v w) ->
  (rs.mapM (og tmps)).run P w=.ok vs w
 |[],[],_,_=>rfl
 |rv::rs,v::vs,hl,h=>by
  have h0:=h 0 rv v rfl rfl;have ih:=mapM_ok (rs:=rs) (vs:=vs) (by simpa using hl) (λj rv v hr hv=>h (j+1) rv v (by simpa using hr) (by simpa using hv));simp[List.mapM_cons,h0,ih]
def tD:List Value->Value
 |[v]=>v
 |vs=>.tuple vs.toArray
theorem Vs{P:aav}{w:World}{fn:Func}{tmps:Array Value}{rs:List aaG}(hr:fn.results=rs.toArray){vs:List Value}(hl:rs.length=vs.length)
  (h:∀(j:Nat) (rv:aaG) (v:Value),rs[j]? = some rv->vs[j]? = some v->(og tmps rv).run P w=.ok v w):(acj fn tmps).run P w=.ok (tD vs) w:=by
 rw[D1,hr];have hm:=mapM_ok hl h
 have hh:(rs.toArray.mapM (og tmps)).run P w=.ok vs.toArray w:=by
  rw[List.mapM_toArray];simp[hm]
 simp only[aaC,hh,aat,aba]
 match vs with
 |[]=>rfl
 |[v]=>rfl
 |v::u::vs=>simp[tD]
section
variable {P:aav}{tt:TT}{B:Nat}{IoB:List Nat}{F0 F:Fz}{e:Env}{w:World}{ow:Nat->Option Nat->Option Nat}{a:Act}
theorem uD{o:Option Nat->Option Nat}{k:K}{av av':AV}{v:Value}(h:Je k av=some av')(hv:VR F B w o av v):VR F B w o av' v:=by
 cases k with
 |sh=>exact Rs h hv
 |fr=>exact Rs h hv
 |acc f=>exact Rs h hv
 |own f=>
  cases av with
  |v k' c=>
   cases k' with
   |own f'=>
    simp only[Je]at h;split at h
    .rename_i hf;cases h;rcases hv with h|⟨t,xs,b,cap,cs,vs,e1,e2,e3,e4,e5,hh,e6,e7,e8,e9⟩
     .exact .inl h
     exact .inr ⟨t,xs,b,cap,cs,vs,e1,e2,e3,e4,e5,hh,aaL (by cases f<;>cases f'<;>simp[lof,leB]at hf⊢) e6,e7,e8,λi j x c hx hc=>RC.lower (e9 i j x c hx hc) hf⟩
    .cases h
   |_=>simp[Je]at h
  |_=>simp[Je]at h
theorem rP(htt:dc P tt)(hx:ja B IoB F0 e (λn=>a.tmps.getD n undef) w F ow)(hown:∀s i b,ow s i=some b->b∈IoB->i=none/\a.tmps.getD s undef=.pointer (some ⟨b,0,none⟩)){rv:aaG}(hd:fc (Uf tt e rv)=true)(hnd:Ga (Uf tt e rv)=false) :
  ∃v o,(og a.tmps rv).run P w=.ok v w/\VR F B w o (Uf tt e rv) v/\(∀i b,o i=some b->b<w.heap.size/\(B<=b\/(b∈IoB/\i=none/\v=.pointer (some ⟨b,0,none⟩))))/\(∀i i' b,o i=some b->o i'=some b->i=i'):=by
 have hh:∀s i b,ow s i=some b->b<w.heap.size/\(B<=b\/(b∈IoB/\i=none/\a.tmps.getD s undef=.pointer (some ⟨b,0,none⟩))):=λs i b h=>⟨(hx.bd s i b h).1,(hx.bd s i b h).2.imp_right λhm=>⟨hm,hown s i b h hm⟩⟩;cases rv with
 |tmp t=>
  have hq:=hx.sr t;have ho:fc (da e t)=true:=hd;rw[Ze ho]at hq;exact⟨a.tmps.getD t undef,ow t,rfl,hq,λi b h=>hh _ _ _ h,λi i' b h h'=>(hx.inj _ _ _ _ _ h h').2⟩
 |cell ad ty=>
  simp only[Uf]at hd hnd⊢;cases hlk:lk tt ty with
  |none=>rw[hlk]at hnd;simp[Ga]at hnd
  |some d=>
   have hn:=htt.td _ _ hlk;rw[hlk]at hd hnd;cases hg:da e ad with
   |box cs=>
    rw[hg]at hd hnd;simp only[]at hd hnd⊢;obtain⟨b,vs,q1,q2,q3,q4,q5,q6⟩:=hx.box hg;have q1:a.tmps.getD ad undef=.pointer (some ⟨b,0,none⟩):=q1
    have hp:∀ {v:Value},(loadVar ty ⟨b,0,none⟩).run P w=.ok v w->(og a.tmps (.cell ad ty)).run P w=.ok v w:=by
     intro v h;simp only[og,q1,asAddr,aaC,aba,aat,h]
    cases hag:isAgg d with
    |false=>
     rw[hag]at hd hnd
     match cs,q5,q6 with
     |[(k,c)],q5,q6=>
      match vs,q5 with
      |[u],_=>
       have hi:=q6 0 (k,c) u rfl rfl;have hj:w.cell? ⟨b,0,none⟩=some u:=by rw[q3.cell];rfl
       refine⟨u,λi=>match i with|none=>ow ad (some 0)|some _=>none,hp ?_,?_,λi b' h=>?_,λi i' b' h h'=>?_⟩
       .have hl:=ln hn hag (w:=w) hj;simpa [abL,abS] using hl
       .cases k with
        |sh=>exact hi
        |fr=>exact hi
        |acc f=>exact hi
        |own f=>exact hi.elim
       .cases i with
        |none=>have:=hh _ _ _ h;exact⟨this.1,this.2.imp_right (λh=>by cases h.2.1)⟩
        |some i=>cases h
       .cases i<;>cases i'<;>simp at h h'⊢
     |[],q5,q6=>simp[Ga]at hnd
     |_::_::_,q5,q6=>simp[Ga]at hnd
    |true=>
     rw[hag]at hd hnd;simp only[]at hd hnd⊢;cases hbr:Xd cs with
     |none=>rw[hbr]at hnd;simp[Ga]at hnd
     |some q=>
      obtain⟨f,l⟩:=q;cases hsz:aau cs.length d.size with
      |false=>rw[hbr,hsz]at hnd;simp[Ga]at hnd
      |true=>
       rw[hbr,hsz]at hd hnd;simp only[]at hd hnd⊢;have hl:=xj hn hag (w:=w) (b:=b) (o:=0) (us:=vs) (q5.trans (aan hsz)) (λj u hu=>by rw[aaw,q3.cell];exact hu);refine⟨.agg vs.toArray,λ_=>none,hp ?_,⟨vs,rfl,?_⟩,λi b' h=>by simp at h,λi i' b' h h'=>by simp at h⟩
       .simpa [abL,abS] using hl
       .exact GC (ow:=λi=>match i with|some p=>ow ad (some p)|none=>none) (p:=0) q5.symm (λj kc u hk hu=>by simpa using q6 j kc u hk hu) hbr
   |_=>rw[hg]at hnd;simp[Ga]at hnd
theorem H1{o:Option Nat->Option Nat}{f:Bool}{av:AV}{p:PV}{v:Value}(h:Us f av=some p)(hv:VR F B w o av v):PVR F B w p v:=by
 unfold Us at h;split at h
 .rename_i k c hk;have h1:=uD hk hv;simp only[aal]at h;subst h
  have hh:k=frK f:=by
   cases f<;>cases av with
   |v k' c'=>cases k'<;>simp[Je,frK,bf]at hk<;>(try split at hk)<;>simp_all [frK]
   |_=>simp[Je,frK,bf]at hk<;>(try split at hk)<;>simp_all
  subst hh;cases f<;>exact h1
 .rename_i f' cs hk;have h1:=uD hk hv;simp only[aal]at h;subst h
  have hh:f'=f:=by
   cases f<;>cases av with
   |agg f2 c'=>cases f2<;>simp[Je,frK,bf]at hk<;>simp_all
   |v k' c'=>cases k'<;>simp[Je,frK,bf]at hk<;>(try split at hk)<;>simp_all
   |_=>simp[Je,frK,bf]at hk
  subst hh;exact h1
 .cases h
theorem wD{k:K}{b av:AV}(h:Je k b=some av):fc b=true/\Ga b=false:=by
 cases b with
 |v k c=>exact⟨rfl,rfl⟩
 |agg f c=>exact⟨rfl,rfl⟩
 |_=>cases k<;>simp[Je,bf]at h
theorem sP(htt:dc P tt)(hx:ja B IoB F0 e (λn=>a.tmps.getD n undef) w F ow)(hown:∀s i b,ow s i=some b->b∈IoB->i=none/\a.tmps.getD s undef=.pointer (some ⟨b,0,none⟩)):∀ {rs:List aaG}{l:List (Bool×PT)}{ps:List PV},Gj tt e rs l=some ps ->
  ∃vs:List Value,rs.length=vs.length/\(∀(j:Nat) (rv:aaG) (v:Value),rs[j]? = some rv->vs[j]? = some v->(og a.tmps rv).run P w=.ok v w)/\Zd F B w ps vs
 |[],[],ps,h=>by simp only[Gj,aal]at h;subst h;exact⟨[],rfl,λj rv v h=>by simp at h,.nil⟩
 |[],_::_,ps,h=>by simp[Gj]at h
 |_::_,[],ps,h=>by simp[Gj]at h
 |rv::rs,(f,pt)::l,ps,h=>by
  simp only[Gj]at h;split at h
  .rename_i p ps' hp hps;simp only[aal]at h;subst h
   have hlv:fc (Uf tt e rv)=true/\Ga (Uf tt e rv)=false:=by
    unfold Us at hp;split at hp
    .rename_i hk;exact wD hk
    .rename_i hk;exact wD hk
    .cases hp
   obtain⟨v,o,h1,h2,_,_⟩:=rP htt hx hown hlv.1 hlv.2;obtain⟨vs,g1,g2,g3⟩:=sP htt hx hown hps;refine⟨v::vs,by simp[g1],λj rv' v' hr hv=>?_,.cons (H1 hp h2) g3⟩;cases j with
   |zero=>simp at hr hv;subst hr;subst hv;exact h1
   |succ j=>exact g2 j rv' v' (by simpa using hr) (by simpa using hv)
  .cases h
def Ij:RT->Bool
 |.rdr=>true
 |_=>false
theorem I1{o:Option Nat->Option Nat}{k:K}{c:C}{v:Value}(h:VR F B w o (.v k c) v)(p:Option Addr):v≠.pointer p:=by
 have rc:∀ {lo:Nat}{c:C},RC F lo w c v->v≠.pointer p:=λh=>by cases h<;>simp
 cases k with
 |sh=>exact rc h
 |fr=>exact rc h
 |acc f=>exact rc h.1
 |own f=>rcases h with⟨t,e1,e2⟩|⟨t,xs,b,cap,cs,vs,e1,e2,_⟩<;>(rw[e2];simp)
theorem J1{o:Option Nat->Option Nat}{k:K}{av av':AV}{v:Value}(h:Je k av=some av')(hv:VR F B w o av v)(p:Option Addr):v≠.pointer p:=by
 cases av with
 |v k c=>exact I1 hv p
 |agg f c=>obtain⟨vs,rfl,_⟩:=hv;simp
 |_=>cases k<;>simp[Je,bf]at h
theorem L1(htt:dc P tt)(hx:ja B IoB F0 e (λn=>a.tmps.getD n undef) w F ow)(hown:∀s i b,ow s i=some b->b∈IoB->i=none/\a.tmps.getD s undef=.pointer (some ⟨b,0,none⟩)){fn:Func}{rs:List aaG}(hrs:fn.results=rs.toArray){rt:RT}(hio:Ij rt=true->IoB=[]){x:rt.T}(h:Bi tt e rs rt=some (rt.av x)) :
  ∃v o,(acj fn a.tmps).run P w=.ok v w/\VR F B w o (rt.av x) v/\(∀i b,o i=some b->B<=b/\b<w.heap.size)/\(∀i i' b,o i=some b->o i'=some b->i=i'):=by
 have hh:∀ {rv:aaG},rs=[rv]->fc (Uf tt e rv)=true->Ga (Uf tt e rv)=false->∃v o,(acj fn a.tmps).run P w=.ok v w/\VR F B w o (Uf tt e rv) v/\(∀i b,o i=some b->b<w.heap.size/\(B<=b\/(b∈IoB/\i=none/\v=.pointer (some ⟨b,0,none⟩))))/\(∀i i' b,o i=some b->o i'=some b->i=i'):=by
  intro rv hl hf hd;subst hl;obtain⟨v,o,h1,h2,h3,h4⟩:=rP htt hx hown hf hd
  have hj:=Vs (P:=P) (w:=w) (tmps:=a.tmps) hrs (vs:=[v]) rfl (λj rv' v' hr hv=>by
   cases j with
   |zero=>simp at hr hv;subst hr;subst hv;exact h1
   |succ j=>simp at hr)
  exact⟨v,o,hj,h2,h3,h4⟩
 cases rt with
 |one k p=>
  simp only[Bi]at h;split at h
  .rename_i rv;obtain⟨l1,l2⟩:=wD h;obtain⟨v,o,h1,h2,h3,h4⟩:=hh rfl l1 l2;exact⟨v,o,h1,uD h h2,λi b hb=>⟨(h3 i b hb).2.elim id (λhp=>absurd hp.2.2 (J1 h h2 _)),(h3 i b hb).1⟩,h4⟩
  .cases h
 |rdr=>
  simp only[Bi]at h;split at h
  .rename_i rv;unfold qP at h;split at h
   .rename_i k b k2 p hr;obtain⟨v,o,h1,h2,h3,h4⟩:=hh rfl (by rw[hr];rfl) (by rw[hr];rfl);rw[hr]at h2;obtain⟨b',vs,e1,e2,e3,e4,e5,e6⟩:=h2;refine⟨v,o,h1,?_,λi b hb=>⟨(h3 i b hb).2.elim id (λhp=>absurd hp.1 (by rw[hio rfl];simp)),(h3 i b hb).1⟩,h4⟩;split at h
    .cases h
    .simp only[aal]at h;rw[<-h];refine⟨b',vs,e1,e2,e3,e4,e5,λj kc u hk hu=>?_⟩
     match j,hk,hu with
     |0,hk,hu=>
      simp only[aaJ,aal]at hk;subst hk;have:=e6 0 _ u rfl hu;cases k with
      |sh=>exact this
      |fr=>exact acb this
      |acc f=>exact acb this.1
      |own f=>exact this.elim
     |1,hk,hu=>
      simp only[aaH,aaJ,aal]at hk;subst hk;have:=e6 1 _ u rfl hu
      have hi:∃lo,RC F lo w (.int .i64 p) u:=by
       cases k2 with
       |sh=>exact⟨_,this⟩
       |fr=>exact⟨_,this⟩
       |acc f=>exact⟨_,this.1⟩
       |own f=>exact this.elim
      obtain⟨lo,hi⟩:=hi;cases hi;exact RC.int _ _
     |j+2,hk,hu=>simp at hk
   .cases h
  .cases h
 |tup l=>
  simp only[Bi]at h;split at h
  .cases h
  .rename_i hne;split at h
   .rename_i ps hps;simp only[aal]at h;obtain⟨vs,g1,g2,g3⟩:=sP htt hx hown hps;have hj:=Vs (P:=P) (w:=w) (tmps:=a.tmps) hrs g1 g2
    have hm:tD vs=.tuple vs.toArray:=by
     match vs,g1 with
     |[],_=>rfl
     |[v],g1=>
      match rs,g1 with
      |[r],_=>exact absurd rfl (hne r)
     |_::_::_,_=>rfl
    rw[hm]at hj;refine⟨_,λ_=>none,hj,?_,λi b h=>by simp at h,λi i' b h h'=>by simp at h⟩;rw[<-h];exact⟨vs,rfl,g3⟩
   .cases h
end
def Jj(pts:List PT)(x:Ab pts)(p:Int)(e:Env):Prop:=
 match pb pts 0,rdB pts x with
 |some k,some bs=>da e k=.box [(.sh,.lst .byte bs),(.fr,.int .i64 p)]
 |_,_=>True
theorem Kj:∀ {ps:List PT}{i s:Nat},pb ps i=some s->∀x:Ab ps,∃bs,rdB ps x=some bs
 |[],_,_,h,_=>by cases h
 |.rdr::_,_,_,_,x=>⟨x.1.1,rfl⟩
 |.int _::_,_,_,h,x=>Kj (show pb _ (_+1)=some _ from h) x.2
 |.bool::_,_,_,h,x=>Kj (show pb _ (_+1)=some _ from h) x.2
 |.str::_,_,_,h,x=>Kj (show pb _ (_+1)=some _ from h) x.2
 |.lst _::_,_,_,h,x=>Kj (show pb _ (_+1)=some _ from h) x.2
 |.st _::_,_,_,h,x=>Kj (show pb _ (_+1)=some _ from h) x.2
def ll(tt:TT)(rs:List aaG)(s:Spec)(x:Ab s.pts)(e:Env):Prop:=Bi tt e rs s.rt=some (s.rt.av (s.val x).1)/\Jj s.pts x (s.val x).2 e
theorem ml{F:Fz}{w:World}:∀ {ps:List PT}{x:Ab ps}{vs:List Value}{io:Option Nat},xe F w ps x vs io->∀b,io=some b->∀o,¬ F b o
 |[],_,_,_,h,b,hb,_=>by rw[h.2]at hb;cases hb
 |.rdr::_,_,_,_,h,b,hb,o=>by obtain⟨b',_,_,_,e,_,_,hf,_⟩:=h;rw[e]at hb;cases hb;exact hf o
 |.int _::_,_,_,_,h,b,hb,o=>by obtain⟨_,_,_,_,h⟩:=h;exact ml h b hb o
 |.bool::_,_,_,_,h,b,hb,o=>by obtain⟨_,_,_,_,h⟩:=h;exact ml h b hb o
 |.str::_,_,_,_,h,b,hb,o=>by obtain⟨_,_,_,_,h⟩:=h;exact ml h b hb o
 |.lst _::_,_,_,_,h,b,hb,o=>by obtain⟨_,_,_,_,h⟩:=h;exact ml h b hb o
 |.st _::_,_,_,_,h,b,hb,o=>by obtain⟨_,_,_,_,h⟩:=h;exact ml h b hb o
theorem xD{pts:List PT}{x:Ab pts}{F:Fz}{w:World}{vs:List Value}{io:Option Nat}{nt:Nat}(ks:List Nat)(hl:Live F w)(hargs:xe F w pts x vs io)(hvl:vs.length<=nt) :
  Sim ⟨nt,pb pts 0,ks.map λn=>(n,vs.getD n undef)⟩ w.heap.size io.toList w F (nc pts x 0) { tmps:=vs.toArray++abA (nt - vs.toArray.size) undef,defers:=[] } w:=by
 obtain⟨t1,t2,t3,t4⟩:=Ai 0 hargs
 have hi:∀n,((vs.toArray++abA (nt - vs.toArray.size) undef).getD n undef)=vs.getD n undef:=by
  intro n;rw[aaq,aao];by_cases hn:n<vs.length
  .rw[Array.getElem?_append_left (by simpa using hn)];simp
  .rw[Array.getElem?_append_right (by simpa using Nat.le_of_not_lt hn),abo (by omega)];by_cases h2:n - vs.length<nt - vs.length
   .simp[h2]
   .simp[h2]
 have hj:∀s' i b,ng (pb pts 0) io s' i=some b->i=none/\pb pts 0=some s'/\io=some b:=by
  intro s' i b hb;cases i with
  |some i=>simp[ng]at hb
  |none=>
   simp only[ng]at hb;split at hb
   .rename_i s2 hs2;split at hb
    .rename_i hbq;exact⟨rfl,by rw[hs2,aan hbq],hb⟩
    .cases hb
   .cases hb
 have hh:∀b o,F b o->b ∉ io.toList:=λb o hF hb=>by
  have hb:io=some b:=by cases io<;>simp at hb⊢;exact hb.symm
  exact ml hargs b hb o hF
 refine⟨rfl,⟨by simp;omega,λs' hk b hb=>?_,(λp hp=>by obtain⟨n,_,rfl⟩:=aaP.mp hp;exact hi n)⟩,aaz _,(λb o h=>⟨hl.lt h,hh b o h⟩),acr _ _ _,F,ng (pb pts 0) io,⟨⟨λ_ _ h=>h,λg cs hg=>⟨λhm=>have h0:=(hl.tab g cs hg).1 0 hg.pos;hm.elim (λh=>by have:=hl.lt h0;omega) (hh g 0 h0),(hl.tab g cs hg).1⟩⟩,λ_ _ h=>.inl h,hl,λs1 i s2 i' b h h'=>?_,λs1 i b h=>?_,λn=>?_⟩⟩
 .have hb:io=some b:=by cases io<;>simp at hb⊢;exact hb.symm
  obtain⟨s2,h1,h2,h3,h4,_⟩:=t2 b hb;have hk:pb pts 0=some s':=hk;rw[h1]at hk;cases hk;simp only[hi];rw[abC]at h4;rw[aao,h4];rfl
 .obtain⟨a1,a2,_⟩:=hj _ _ _ h;obtain⟨b1,b2,_⟩:=hj _ _ _ h';rw[a2]at b2;cases b2;exact⟨rfl,by rw[a1,b1]⟩
 .obtain⟨a1,a2,a3⟩:=hj _ _ _ h;obtain⟨s2,h1,h2,h3,h4,h5⟩:=t2 b a3;rw[a2]at h1;cases h1;exact⟨h5,.inr (by rw[a3];simp)⟩
 .rcases t4 n with h|⟨_,h2,v,h3,h4⟩
  .rw[h];trivial
  .rw[Ze h2];simp only[hi];rw[abC]at h3;rw[aao,h3];exact h4
theorem R1{P:aav}{tt:TT}(ks:List Nat)(htt:dc P tt){f:Nat}{s:Spec}{fn:Func}{c:Code}(hf:P.funcs[f]? = some fn)(hname:(fn.name == "runtime.NumGoroutine")=false)(hc:fn.body=some c){rs:List aaG}(hrs:fn.results=rs.toArray)
  (hlen:abT s.pts.length fn.ntmps=true) (hno:Ij s.rt=true->pb s.pts 0=none)
  (h:∀x:Ab s.pts,s.pre x->∀fr:Fr,fr.B=fr.W0.heap.size->Live fr.F0 fr.W0->(pb s.pts 0=none->fr.IoB=[])->∀vs io,xe fr.F0 fr.W0 s.pts x vs io->Ht P ⟨fn.ntmps,pb s.pts 0,ks.map λn=>(n,vs.getD n undef)⟩ fr c (nc s.pts x 0) (ll tt rs s x) (ll tt rs s x) (λ_ _=>False)):Con P f s:=by
 refine⟨⟨fn,hf,hname,by rw[hc];rfl⟩,λx hp w F vs io hl hargs=>?_⟩;obtain⟨t1,t2,t3,t4⟩:=Ai 0 hargs;have hy:vs.length<=fn.ntmps:=by rw[t1];exact abH hlen
 refine calls_of_wp hf hc ?_;have hw:=xD (nt:=fn.ntmps) ks hl hargs hy
 refine acA (h x hp ⟨w.heap.size,io.toList,w,F⟩ rfl hl (λhn=>by
  cases io with
  |none=>rfl
  |some b=>obtain⟨s2,q1,_⟩:=t2 b rfl;rw[hn]at q1;cases q1) vs io hargs _ _ hw) ?_
 rintro ex a w' ⟨e',hv,ht⟩
 have hj:ll tt rs s x e'->a.defers=[]/\∃v,(acj fn a.tmps).run P w'=.ok v w'/\QO s x F w io (.returned v) w':=by
  rintro⟨hr,hu⟩;obtain⟨F',hz,hx⟩:=hv.rep
  have ho:∀b,io=some b->∃s2,pb s.pts 0=some s2/\hz s2 none=some b/\a.tmps.getD s2 undef=.pointer (some ⟨b,0,none⟩):=λb hb=>by
   obtain⟨s2,q1,_⟩:=t2 b hb;obtain⟨bs,hi⟩:=Kj q1 x
   have hu:da e' s2=.box [(.sh,.lst .byte bs),(.fr,.int .i64 (s.val x).2)]:=by
    unfold Jj at hu;rw[q1,hi]at hu;exact hu
   obtain⟨b',us,e1,e2,_⟩:=hx.box hu;have hp:=hv.tmps.rd s2 q1 b (by rw[hb];simp);have e1:a.tmps.getD s2 undef=.pointer (some ⟨b',0,none⟩):=e1;have hh:b'=b:=by rw[hp]at e1;simpa using e1.symm
   exact⟨s2,q1,by rw[<-hh];exact e2,hp⟩
  have hs:∀s1 i b,hz s1 i=some b->b∈io.toList->i=none/\a.tmps.getD s1 undef=.pointer (some ⟨b,0,none⟩):=λs1 i b h1 hb=>by
   obtain⟨s2,_,q2,q3⟩:=ho b (by cases io<;>simp at hb⊢;exact hb.symm);obtain⟨rfl,rfl⟩:=hx.inj _ _ _ _ _ h1 q2;exact⟨rfl,q3⟩
  obtain⟨v,o,h1,h2,h3,h4⟩:=L1 htt hx hs hrs (λhr=>by
   cases io with
   |none=>rfl
   |some b=>obtain⟨s2,q1,_⟩:=t2 b rfl;rw[hno hr]at q1;cases q1) hr
  have hq:∀b o,F' b o->F b o\/w.heap.size<=b:=λb o h=>by
   rcases hx.new b o h with h1|h1|hm
   .exact .inl h1
   .exact .inr h1
   .cases io with
    |none=>simp at hm
    |some b2=>
     simp at hm;subst hm;obtain⟨s2,q1,q2,_⟩:=ho b rfl;obtain⟨bs,hi⟩:=Kj q1 x
     have hu:da e' s2=.box [(.sh,.lst .byte bs),(.fr,.int .i64 (s.val x).2)]:=by
      unfold Jj at hu;rw[q1,hi]at hu;exact hu
     obtain⟨b',us,_,e2,_,e4,_⟩:=hx.box hu;rw[q2]at e2;cases e2;exact absurd h (e4 o)
  refine⟨hv.defers,v,h1,v,F',o,rfl,⟨hv.kept.os,hv.kept.tape,hv.kept.output,hv.kept.size,λk hk hne=>hv.kept.block k hk (λhm=>hne ?_),hx.sub.out,hq,hx.live⟩,h3,h4,h2,λb bs hb hi=>?_⟩
  .cases io with
   |none=>simp at hm
   |some b=>simp at hm;rw[hm]
  .subst hb;obtain⟨s2,q1,_⟩:=t2 b rfl
   have hu:da e' s2=.box [(.sh,.lst .byte bs),(.fr,.int .i64 (s.val x).2)]:=by
    unfold Jj at hu;rw[q1,hi]at hu;exact hu
   obtain⟨b',us,e1,e2,e3,e4,e5,e6⟩:=hx.box hu;have hp:=hv.tmps.rd s2 q1 b (by simp);have e1:a.tmps.getD s2 undef=.pointer (some ⟨b',0,none⟩):=e1;rw[hp]at e1;have hh:b'=b:=by simpa using e1.symm
   subst hh
   match us,e5 with
   |[sl,u],_=>
    have g0:=e6 0 (.sh,.lst .byte bs) sl rfl rfl;have g1:RC F' w.heap.size w' (.int .i64 (s.val x).2) u:=e6 1 (.fr,.int .i64 (s.val x).2) u rfl rfl;cases g1;exact⟨sl,e3,g0⟩
 cases ex with
 |normal=>exact hj ht
 |ret=>exact hj ht
 |exit i=>exact ht.elim
 |_=>exact ht.elim
theorem ol{P:aav}{tt:TT}(htt:dc P tt){f:Nat}{s:Spec}{fn:Func}{c:Code}(hf:P.funcs[f]? = some fn)(hname:(fn.name == "runtime.NumGoroutine")=false)(hc:fn.body=some c){rs:List aaG}(hrs:fn.results=rs.toArray)
  (hlen:abT s.pts.length fn.ntmps=true) (hno:Ij s.rt=true->pb s.pts 0=none)
  (h:∀x:Ab s.pts,s.pre x->∀fr:Fr,fr.B=fr.W0.heap.size->Live fr.F0 fr.W0->(pb s.pts 0=none->fr.IoB=[])->Ht P ⟨fn.ntmps,pb s.pts 0,[]⟩ fr c (nc s.pts x 0) (ll tt rs s x) (ll tt rs s x) (λ_ _=>False)):Con P f s:=by
 exact R1 [] htt hf hname hc hrs hlen hno λx hp fr h1 h2 h3 _ _ _=>h x hp fr h1 h2 h3
def nav:Code->List Nat->Code
 |c,[]=>c
 |.seq a _,0::r=>nav a r
 |.seq _ b,_::r=>nav b r
 |.cond _ a _,0::r=>nav a r
 |.cond _ _ b,_::r=>nav b r
 |.block _ a,_::r=>nav a r
 |.loop a,_::r=>nav a r
 |c,_=>c
def pg(f:Func):Code:=
 match f.body with
 |some c=>c
 |none=>.skip
inductive Oc(A R X Y Z:Type) where
 |n (a:A)
 |r (q:R)
 |x (q:X)
 |y (q:Y)
 |z (q:Z)
instance {A R X Y Z:Type} [Inhabited R]:Inhabited (Oc A R X Y Z):=⟨.r default⟩
instance:Inhabited Time:=⟨⟨0,0⟩⟩
instance:Inhabited Row:=⟨⟨0,0,⟨0,0⟩,0⟩⟩
instance:Inhabited Item:=⟨⟨0,0,0⟩⟩
instance:Inhabited Plan:=⟨⟨0,0,[]⟩⟩
instance:Inhabited Sess:=⟨⟨⟨0,0,[]⟩,[],[],[]⟩⟩
def ocR{R:Type}:Oc Empty R Empty Empty Empty->R
 |.r q=>q
 |.n q=>q.elim
 |.x q=>q.elim
 |.y q=>q.elim
 |.z q=>q.elim
def na{A R X Y Z:Type}:Oc A R X Y Z->Lp A (Oc Empty R X Y Z)
 |.n a=>.go a
 |.r q=>.out (.r q)
 |.x q=>.out (.x q)
 |.y q=>.out (.y q)
 |.z q=>.out (.z q)
def wa(e e':Env):Prop:=∀(N:NP) (B:Nat) (IoB:List Nat) (W0:World) (F0:Fz) (a:Act) (w:World),Sim N B IoB W0 F0 e a w->Sim N B IoB W0 F0 e' a w
theorem wa.trans{e e' e'':Env}(h:wa e e')(h':wa e' e''):wa e e'':=λN B IoB W0 F0 a w hs=>h' N B IoB W0 F0 a w (h N B IoB W0 F0 a w hs)
theorem wa.refl(e:Env):wa e e:=λ_ _ _ _ _ _ _ h=>h
theorem wa.cast{e e':Env}{pat:List (Nat×Tk)}(hf:Ie e=true:=by kernel_rfl)(h:Wg e pat=some e':=by kernel_rfl):wa e e':=λ_ _ _ _ _ _ _ hs=>by
 obtain⟨F,ow,hx⟩:=hs.rep;exact⟨hs.defers,hs.tmps,hs.base,hs.f0,hs.kept,F,ow,hx.cast (kl hf) h⟩
theorem wa.freeze(e:Env)(s:Nat):wa e (Ej e s):=λ_ _ _ _ _ _ _ hs=>by
 obtain⟨F,ow,hx⟩:=hs.rep;obtain⟨F',hi,hh⟩:=hx.freeze (aaL hs.base hs.kept.size) s;exact⟨hs.defers,hs.tmps,hs.base,hs.f0,hs.kept,F',hi,hh⟩
section
variable {P:aav}{tt:TT}{N:NP}{fr:Fr}{c:Code}{e:Env}{n r:Env->Prop}{x:Nat->Env->Prop}
theorem Ht.weak{e':Env}(h:wa e e')(hc:Ht P N fr c e' n r x):Ht P N fr c e n r x:=λa w hs=>hc a w (h _ _ _ _ _ _ _ hs)
theorem Ht.loopOc{A R X Y Z:Type}[Inhabited R]{c1:Code}(hc:c=.loop c1)(I:A->Env)(B:A->Oc A R X Y Z){ob:A->Prop}{s0:A}(hT:LpT (λs=>na (B s)) ob s0)
  {RP:R->Env->Prop}{XP:Nat->X->Env->Prop}{YP:Nat->Y->Env->Prop}{ZP:Nat->Z->Env->Prop}
  (hround:∀s,ob s->Ht P N fr c1 (I s) (λe=>∃s',B s=.n s'/\wa e (I s')) (λe=>∃q,B s=.r q/\RP q e)
    (λi e=>(∃q,B s=.x q/\XP i q e)\/(∃q,B s=.y q/\YP i q e)\/∃q,B s=.z q/\ZP i q e))
  (hr:∀q e,lpV (λs=>na (B s)) s0=.r q->RP q e->r e) (hx:∀i q e,lpV (λs=>na (B s)) s0=.x q->XP i q e->x i e)
  (hy:∀i q e,lpV (λs=>na (B s)) s0=.y q->YP i q e->x i e) (hz:∀i q e,lpV (λs=>na (B s)) s0=.z q->ZP i q e->x i e):Ht P N fr c (I s0) n r x:=by
 subst hc;intro a w hs;obtain⟨k0,hh⟩:=hT.count;refine Ef (σ:=Nat×A) (λks a w=>LpN (λs=>na (B s)) ob ks.1 ks.2/\(∀q,LpR (λs=>na (B s)) ks.2 q->LpR (λs=>na (B s)) s0 q)/\Sim N fr.B fr.IoB fr.W0 fr.F0 (I ks.2) a w) (·.1) ?_ (k0,s0) ⟨hh,λ_ h=>h,hs⟩;rintro⟨k,s⟩ a w ⟨hk,hq,hj⟩;have hk:LpN (λs=>na (B s)) ob k s:=hk;have ho:ob s:=by cases hk<;>assumption
 refine acA (hround s ho a w hj) ?_;rintro ex a w ⟨e',hi,hp⟩;cases ex with
 |normal=>
  obtain⟨s',hl,hw⟩:=hp;have hm:na (B s)=.go s':=by rw[hl];rfl
  cases hk with
  |out _ h=>have h:na (B s)=_:=h;rw[hm]at h;cases h
  |go _ h hk'=>
   have h:na (B s)=_:=h;rw[hm]at h;cases h;exact⟨(_,s'),ack _,hk',λq h=>hq q (.go hm h),hw _ _ _ _ _ _ _ hi⟩
 |ret=>
  obtain⟨q,hl,h⟩:=hp;exact⟨e',hi,hr q e' (hq _ (.out (by show na (B s)=_;rw[hl];rfl))).val h⟩
 |exit i=>
  refine⟨e',hi,?_⟩;rcases hp with⟨q,hl,h⟩|⟨q,hl,h⟩|⟨q,hl,h⟩
  .exact hx i q e' (hq _ (.out (by show na (B s)=_;rw[hl];rfl))).val h
  .exact hy i q e' (hq _ (.out (by show na (B s)=_;rw[hl];rfl))).val h
  .exact hz i q e' (hq _ (.out (by show na (B s)=_;rw[hl];rfl))).val h
 |_=>exact hp.elim
end
abbrev AV.S(t:Ty)(x:List t.T):AV:=.v .sh (.lst t x)
abbrev AV.A(t:Ty)(x:List t.T):AV:=.v (.acc true) (.lst t x)
abbrev AV.I(n:Int):AV:=.v .fr (.int .i64 n)
abbrev AV.O(b:Bool):AV:=.v .fr (.bool b)
abbrev C.i(n:Int):C:=.int .i64 n
abbrev RV:=Option AV×AV
structure Fnn where
 rs:List aaG
 rt:RT
 rd:Option Nat
 fz:List Nat
structure ac(R A X Y Z:Type) where
 o:Oc A R X Y Z
 ob:Prop
 path:List Nat
 env:Env
 rv:R->RV
 pn:A->Env
 px:X->Nat×Env
 py:Y->Nat×Env
 pz:Z->Nat×Env
class Dft (A:Type) where
 d:Option A
 h:d=none->A->False
instance:Dft Empty:=⟨none,λ_=>Empty.elim⟩
instance (priority:=low) {A:Type} [Inhabited A]:Dft A:=⟨some default,λh=>by cases h⟩
structure ut(R:Type):Type 1 where
 {A:Type}
 {X:Type}
 {Y:Type}
 {Z:Type}
 [dA:Dft A]
 [dX:Dft X]
 [dY:Dft Y]
 [dZ:Dft Z]
 S:ac R A X Y Z
abbrev LI:=List Item
abbrev BA:=ByteArray
abbrev LR:=List Row
abbrev LB:=List Int
abbrev LP:=List Plan
@[simp] theorem Laj {p:Empty->Prop}:(∀q:Empty,p q)↔True:=⟨λ_=>trivial,λ_ q=>q.elim⟩
abbrev nE{α:Sort _}:Empty->α:=Empty.elim
inductive Tr(R A X Y Z:Type):Type 1 where
 |l (o:Oc A R X Y Z)
 |w (ps:List Prop) (t:Tr R A X Y Z)
 |c (b:Bool) (t f:Tr R A X Y Z)
 |k {α:Type} (a:α) (f:α->Tr R A X Y Z)
 |s {A' X' Y' Z':Type} [Dft A'] [Dft X'] [Dft Y'] [Dft Z'] (S:ac R A' X' Y' Z') (n:A'->Tr R A X Y Z) (x:X'->Tr R A X Y Z) (y:Y'->Tr R A X Y Z) (z:Z'->Tr R A X Y Z)
abbrev Tr.sn{R A X Y Z A':Type}[Dft A'](S:ac R A' Empty Empty Empty)(n:A'->Tr R A X Y Z):Tr R A X Y Z:=.s S n nE nE nE
abbrev Tr.sx{R A X Y Z X':Type}[Dft X'](S:ac R Empty X' Empty Empty)(x:X'->Tr R A X Y Z):Tr R A X Y Z:=.s S nE x nE nE
abbrev TN(R:Type):=Tr R Empty Empty Empty Empty
abbrev TA(R A:Type):=Tr R A Empty Empty Empty
abbrev TX(R A X:Type):=Tr R A X Empty Empty
inductive TrE(R:Type):Type 1 where
 |n (e:Env)
 |r (v:RV)
 |x (i:Nat) (e:Env)
 |w (ps:List Prop) (t:TrE R)
 |c (b:Bool) (t f:TrE R)
 |s {A X Y Z:Type} (S:ac R A X Y Z) (g:Option Env) (rv:R->RV) (n:A->TrE R) (x:X->TrE R) (y:Y->TrE R) (z:Z->TrE R)
 |bad
def lf{R A:Type}[Dft A](f:A->TrE R):A->TrE R:=match(Dft.d:Option A) with
 |some _=>f
 |none=>λ_=>.bad
section
variable {R A X Y Z:Type}
def Tr.val:Tr R A X Y Z->Oc A R X Y Z
 |.l o=>o
 |.w _ t=>t.val
 |.c b t f=>match b with
  |true=>t.val
  |false=>f.val
 |.k a f=>(f a).val
 |@Tr.s _ _ _ _ _ _ _ _ _ _ _ _ _ S n x y z=>match S.o with
  |.n q=>(n q).val
  |.r q=>.r q
  |.x q=>(x q).val
  |.y q=>(y q).val
  |.z q=>(z q).val
def Tr.ob:Tr R A X Y Z->Prop
 |.l _=>True
 |.w ps t=>ga ps/\t.ob
 |.c b t f=>(b=true->t.ob)/\(b=false->f.ob)
 |.k a f=>(f a).ob
 |@Tr.s _ _ _ _ _ _ _ _ _ _ _ _ _ S n x y z=>S.ob/\(∀q,S.o=.n q->(n q).ob)/\(∀q,S.o=.x q->(x q).ob)/\(∀q,S.o=.y q->(y q).ob)/\(∀q,S.o=.z q->(z q).ob)
def Tr.toE(rv:R->RV)(pn:A->Env)(px:X->Nat×Env)(py:Y->Nat×Env)(pz:Z->Nat×Env):Tr R A X Y Z->TrE R
 |.l o=>match o with
  |.n q=>.n (pn q)
  |.r q=>.r (rv q)
  |.x q=>.x (px q).1 (px q).2
  |.y q=>.x (py q).1 (py q).2
  |.z q=>.x (pz q).1 (pz q).2
 |.w ps t=>.w ps (t.toE rv pn px py pz)
 |.c b t f=>.c b (t.toE rv pn px py pz) (f.toE rv pn px py pz)
 |.k a f=>(f a).toE rv pn px py pz
 |@Tr.s _ _ _ _ _ _ _ _ _ dA dX dY dZ S n x y z=>.s S (some S.env) rv (@lf _ _ dA λq=>(n q).toE rv pn px py pz) (@lf _ _ dX λq=>(x q).toE rv pn px py pz) (@lf _ _ dY λq=>(y q).toE rv pn px py pz) (@lf _ _ dZ λq=>(z q).toE rv pn px py pz)
def TrE.H(n:Env->Prop)(r:RV->Prop)(x:Nat->Env->Prop):TrE R->Prop
 |.n e=>n e
 |.r v=>r v
 |.x i e=>x i e
 |.w ps t=>ga ps/\t.H n r x
 |.c b t f=>(b=true->t.H n r x)/\(b=false->f.H n r x)
 |.s S g rv kn kx ky kz=>g=some S.env/\S.ob/\(∀q,S.o=.n q->(kn q).H n r x)/\(∀q,S.o=.r q->r (rv q))/\(∀q,S.o=.x q->(kx q).H n r x)/\(∀q,S.o=.y q->(ky q).H n r x)/\(∀q,S.o=.z q->(kz q).H n r x)
 |.bad=>False
end
def pQ:List C->Bool
 |[]=>false
 |.nl _::_=>true
 |_::r=>pQ r
def J2:K->Option (Option Bool)
 |.acc f=>some (some f)
 |.sh=>some none
 |_=>none
def L2:K->Bool
 |.acc _=>true
 |.sh=>true
 |_=>false
def R2:AV->Tk
 |.v _ (.nl _)=>.same
 |.v .sh _=>.sh
 |.v .fr _=>.fr
 |.v (.acc b) _=>.acc b
 |.v (.own b) _=>.own b
 |.agg f cs=>match pQ cs with
  |true=>.same
  |false=>match f with
   |true=>.fr
   |false=>.sh
 |.box cs=>match cs.any λkc=>L2 kc.1 with
  |true=>.bx (cs.map λkc=>J2 kc.1)
  |false=>.same
 |_=>.same
def vt:Env->List (Nat×Tk)
 |[]=>[]
 |(n,a)::r=>(n,R2 a)::vt r
def eqP:List Nat->List Nat->Bool
 |[],[]=>true
 |a::r,b::r'=>aau a b&&eqP r r'
 |_,_=>false
theorem qQ:∀ {a b:List Nat},eqP a b=true->a=b
 |[],[],_=>rfl
 |a::r,b::r',h=>by
  simp only[eqP,aam]at h;rw[aan h.1,qQ h.2]
 |[],_::_,h=>by cases h
 |_::_,[],h=>by cases h
abbrev Gi(R:Type):=List (Env->ut R)
def wt{R:Type}(e:Env):Gi R->List Nat->Option (ut R)
 |[],_=>none
 |S::l,p=>match eqP (S e).S.path p with
  |true=>some (S e)
  |false=>wt e l p
def asc{α:Type}:List (Nat×α)->Nat->Option α
 |[],_=>none
 |(i,a)::l,n=>match aau i n with
  |true=>some a
  |false=>asc l n
def U2(kp:List (Nat×List Nat))(n:Nat):List Nat:=match asc kp n with
 |some l=>l
 |none=>[]
def Ba(C:Code):List Nat->Code
 |[]=>C
 |i::p=>nav (Ba C p) [i]
def cellAt(e:Env)(n j:Nat):Option C:=match da e n with
 |.v _ c=>some c
 |.agg _ cs=>cs[j]?
 |.box cs=>(cs[j]?).map (·.2)
 |_=>none
def gI(e:Env)(n j:Nat):Int:=match cellAt e n j with
 |some (.int _ x)=>x
 |_=>0
def gB(e:Env)(n j:Nat):Bool:=match cellAt e n j with
 |some (.bool x)=>x
 |_=>false
def gS(e:Env)(n j:Nat):ByteArray:=match cellAt e n j with
 |some (.str x)=>x
 |_=>ByteArray.empty
def gL(t:Ty)(e:Env)(n j:Nat):List t.T:=match cellAt e n j with
 |some (.lst u xs)=>match Sk t u xs with
  |some ys=>ys
  |none=>[]
 |_=>[]
def Fd(e:Env)(n:Nat):Time:=⟨gI e n 0,gI e n 1⟩
def gRow(e:Env)(n:Nat):Row:=⟨gI e n 0,gI e n 1,⟨gI e n 2,gI e n 3⟩,gI e n 4⟩
section
variable (tt:TT) (sp:SP) (N:NP) (F:Fnn) (kp:List (Nat×List Nat)) (tb:List (Nat×Nat)) (af:List (Nat×Bool×Nat)) {R:Type} (subs:Gi R)
def Jh(e:Env):RV:=(Bi tt e F.rs F.rt,match F.rd with
 |some s=>da e s
 |none=>.dead)
def frzs:List Nat->Env->Env
 |[],e=>e
 |s::l,e=>frzs l (Ej e s)
def mkq(ps:List Prop)(t:TrE R):TrE R:=match ps with
 |[]=>t
 |p::r=>.w (p::r) t
def aft(id:Nat)(e:Env)(kn:Env->TrE R):TrE R:=match asc af id with
 |none=>kn e
 |some (true,s)=>match Bn e s with
  |some e'=>kn e'
  |none=>.bad
 |some (false,s)=>kn (Ej e s)
def bef(id:Nat)(e:Env):Option Env:=match asc tb id with
 |none=>some e
 |some s=>Bn e s
def ZD(id:Nat)(c:Code)(e:Env)(kn:Env->TrE R):TrE R:=match bef tb id e with
 |none=>.bad
 |some e0=>match regC tt sp N (U2 kp id) c e0 with
  |some (e1,ps)=>mkq ps (aft af id e1 kn)
  |none=>.bad
def Hn(e:Env)(pat:List (Nat×Tk)):Option Env:=match Ie e with
 |true=>Wg e pat
 |false=>none
def Oj(p:List Nat)(e:Env)(kn:Env->TrE R)(kx:Nat->Env->TrE R)(t:TrE R):TrE R:=match wt e subs p with
 |some E=>.s E.S (Hn e (vt E.S.env)) E.S.rv (@lf R E.A E.dA λq=>kn (E.S.pn q)) (@lf R E.X E.dX λq=>kx (E.S.px q).1 (E.S.px q).2) (@lf R E.Y E.dY λq=>kx (E.S.py q).1 (E.S.py q).2) (@lf R E.Z E.dZ λq=>kx (E.S.pz q).1 (E.S.pz q).2)
 |none=>t
def runT:Code->List Nat->Env->(Env->TrE R)->(Nat->Env->TrE R)->TrE R
 |.region id ops d,p,e,kn,kx=>Oj subs p e kn kx (ZD tt sp N kp tb af id (.region id ops d) e kn)
 |.skip,_,e,kn,_=>kn e
 |.exit i,_,e,_,kx=>kx i e
 |.ret,_,e,_,_=>.r (Jh tt F (frzs F.fz e))
 |.seq a b,p,e,kn,kx=>Oj subs p e kn kx (runT a (0::p) e (λe'=>runT b (1::p) e' kn kx) kx)
 |.cond o a b,p,e,kn,kx=>Oj subs p e kn kx (match readB e o with
  |some v=>.c v (runT a (0::p) e kn kx) (runT b (1::p) e kn kx)
  |none=>.bad)
 |.block id a,p,e,kn,kx=>Oj subs p e kn kx (runT a (0::p) e kn (λi e'=>match aau i id with
  |true=>kn e'
  |false=>kx i e'))
 |.loop _,p,e,kn,kx=>Oj subs p e kn kx .bad
 |_,_,_,_,_=>.bad
def kn0{A:Type}[Dft A](pn:A->Env)(e:Env):TrE R:=match(Dft.d:Option A) with
 |some d=>match Hn e (vt (pn d)) with
  |some e'=>.n e'
  |none=>.bad
 |none=>.bad
def kxs{X:Type}[Dft X](px:X->Nat×Env)(i:Nat)(e:Env)(k:TrE R):TrE R:=match(Dft.d:Option X) with
 |some d=>match aau i (px d).1 with
  |true=>match Hn e (vt (px d).2) with
   |some e'=>.x i e'
   |none=>.bad
  |false=>k
 |none=>k
def kx0{X Y Z:Type}[Dft X][Dft Y][Dft Z](px:X->Nat×Env)(py:Y->Nat×Env)(pz:Z->Nat×Env)(i:Nat)(e:Env):TrE R:=kxs px i e (kxs py i e (kxs pz i e .bad))
end
def Wk(n:Env->Prop)(e:Env):Prop:=∃e',wa e e'/\n e'
theorem aE{e e':Env}{pat:List (Nat×Tk)}(h:Hn e pat=some e'):wa e e':=by
 unfold Hn at h;split at h
 .rename_i hf;exact wa.cast hf h
 .cases h
def ld(P:aav)(tt:TT)(N:NP)(fr:Fr)(C:Code)(F:Fnn){R A X Y Z:Type}(S:ac R A X Y Z):Prop:=S.ob->Ht P N fr (Ba C S.path) S.env (λe=>∃q,S.o=.n q/\wa e (S.pn q)) (λe=>∃q,S.o=.r q/\Jh tt F e=S.rv q)
  (λi e=>(∃q,S.o=.x q/\(S.px q).1=i/\wa e (S.px q).2)\/(∃q,S.o=.y q/\(S.py q).1=i/\wa e (S.py q).2)\/∃q,S.o=.z q/\(S.pz q).1=i/\wa e (S.pz q).2)
def Pj(P:aav)(tt:TT)(N:NP)(fr:Fr)(C:Code)(F:Fnn){R:Type}:Gi R->Prop
 |[]=>True
 |S::l=>(∀e,ld P tt N fr C F (S e).S)/\Pj P tt N fr C F l
section
variable {P:aav}{tt:TT}{sp:SP}{N:NP}{F:Fnn}{kp:List (Nat×List Nat)}{tb:List (Nat×Nat)}{af:List (Nat×Bool×Nat)}{R:Type}{subs:Gi R}{fr:Fr}{C:Code}{n:Env->Prop}{r:RV->Prop}{x:Nat->Env->Prop}
theorem Ht.frzs:∀ {l:List Nat}{c:Code}{e:Env}{n r:Env->Prop}{x:Nat->Env->Prop},Ht P N fr c (frzs l e) n r x->Ht P N fr c e n r x
 |[],_,_,_,_,_,h=>h
 |s::_,_,_,_,_,_,h=>Ht.freeze s (Ht.frzs h)
theorem rQ{e:Env}:∀ {subs:Gi R}{p:List Nat}{S:ut R},Pj P tt N fr C F subs->wt e subs p=some S->S.S.path=p/\ld P tt N fr C F S.S
 |[],_,_,_,h=>by cases h
 |S'::l,p,S,hs,h=>by
  simp only[wt]at h;split at h
  .rename_i hp;simp only[aal]at h;subst h;exact⟨qQ hp,hs.1 e⟩
  .exact rQ hs.2 h
theorem sQ{A:Type}[i:Dft A]{f:A->TrE R}{d:A}(h:i.d=some d):lf f=f:=by unfold lf;rw[h]
theorem V2{A:Type}[i:Dft A]{f:A->TrE R}(h:i.d=none):lf f=λ_=>.bad:=by unfold lf;rw[h]
theorem xt{A:Type}[i:Dft A]{f:A->TrE R}{q:A}(h:(lf f q).H n r x):(f q).H n r x:=by
 cases hd:i.d with
 |some d=>rw[sQ hd]at h;exact h
 |none=>rw[V2 hd]at h;exact h.elim
theorem zt{A:Type}[i:Dft A]{f:A->TrE R}{q:A}(h:(f q).H n r x):(lf f q).H n r x:=by
 cases hd:i.d with
 |some d=>rw[sQ hd];exact h
 |none=>exact(i.h hd q).elim
theorem In(hs:Pj P tt N fr C F subs){p:List Nat}{e:Env}{kn:Env->TrE R}{kx:Nat->Env->TrE R}{t:TrE R}(h:(Oj subs p e kn kx t).H n r x){c:Code}(hc:Ba C p=c)
  (ht:t.H n r x->Ht P N fr c e (Wk λe'=>(kn e').H n r x) (λe'=>r (Jh tt F e')) (λi=>Wk λe'=>(kx i e').H n r x)) :
  Ht P N fr c e (Wk λe'=>(kn e').H n r x) (λe'=>r (Jh tt F e')) (λi=>Wk λe'=>(kx i e').H n r x):=by
 unfold Oj at h;split at h
 .rename_i E hS;obtain⟨hp,hi⟩:=rQ hs hS;obtain⟨hg,hh,hn,hr,hx,hy,hz⟩:=h;have h1:=hi hh;rw[hp,hc]at h1;refine Ht.weak (aE hg) (h1.mono ?_ ?_ ?_)
  .rintro e' ⟨q,hq,hw⟩;exact⟨_,hw,@xt _ _ _ _ _ E.dA _ _ (hn q hq)⟩
  .rintro e' ⟨q,hq,hw⟩;rw[hw];exact hr q hq
  .rintro i e' (⟨q,hq,rfl,hw⟩|⟨q,hq,rfl,hw⟩|⟨q,hq,rfl,hw⟩)
   .exact⟨_,hw,@xt _ _ _ _ _ E.dX _ _ (hx q hq)⟩
   .exact⟨_,hw,@xt _ _ _ _ _ E.dY _ _ (hy q hq)⟩
   .exact⟨_,hw,@xt _ _ _ _ _ E.dZ _ _ (hz q hq)⟩
 .exact ht h
theorem X2(G:Good P tt sp){id:Nat}{c:Code}{e:Env}{kn:Env->TrE R}(h:(ZD tt sp N kp tb af id c e kn).H n r x){r':Env->Prop}{x':Nat->Env->Prop}:Ht P N fr c e (Wk λe'=>(kn e').H n r x) r' x':=by
 unfold ZD at h;split at h
 .exact h.elim
 .rename_i e0 he0
  have key:Ht P N fr c e0 (Wk λe'=>(kn e').H n r x) r' x':=by
   split at h
   .rename_i e1 ps hreg
    have h2:ga ps/\(aft af id e1 kn).H n r x:=by
     unfold mkq at h;split at h
     .exact⟨trivial,h⟩
     .exact h
    refine Ht.reg G hreg h2.1 ?_;have h3:=h2.2;unfold aft at h3;split at h3
    .exact⟨_,wa.refl _,h3⟩
    .split at h3
     .rename_i s _ e' ht;refine⟨e',?_,h3⟩;intro N B IoB W0 F0 a w hs;unfold Bn at ht;split at ht
      .rename_i f t xs hg;split at ht
       .rename_i hb;simp only[aam]at hb;simp only[aal]at ht;subst ht;obtain⟨F,ow,hx⟩:=hs.rep;obtain⟨F',hh⟩:=hx.thaw hs.f0 hg hb.1 hb.2;exact⟨hs.defers,hs.tmps,hs.base,hs.f0,hs.kept,F',ow,hh⟩
       .cases ht
      .cases ht
     .exact h3.elim
    .exact⟨_,wa.freeze _ _,h3⟩
   .exact h.elim
  unfold bef at he0;split at he0
  .simp only[aal]at he0;subst he0;exact key
  .exact Ht.thaw _ he0 key
theorem Y2(G:Good P tt sp)(hs:Pj P tt N fr C F subs):∀(c:Code) (p:List Nat) (_:Ba C p=c) (e:Env) (kn:Env->TrE R) (kx:Nat->Env->TrE R),(runT tt sp N F kp tb af subs c p e kn kx).H n r x ->
  Ht P N fr c e (Wk λe'=>(kn e').H n r x) (λe'=>r (Jh tt F e')) (λi=>Wk λe'=>(kx i e').H n r x):=by
 intro c
 induction c with
 |region id ops d=>intro p hc e kn kx h;exact In hs h hc λh=>X2 G h
 |skip=>intro p _ e kn kx h;exact Ht.skip rfl ⟨e,wa.refl _,h⟩
 |exit i=>intro p _ e kn kx h;exact Ht.exit rfl ⟨e,wa.refl _,h⟩
 |ret=>intro p _ e kn kx h;exact Ht.frzs (Ht.ret rfl h)
 |seq a b iha ihb=>
  intro p hc e kn kx h;refine In hs h hc λh=>?_;have ha:Ba C (0::p)=a:=by show nav (Ba C p) [0]=a;rw[hc];simp[nav]
  have hb:Ba C (1::p)=b:=by show nav (Ba C p) [1]=b;rw[hc];simp[nav]
  exact Ht.seq rfl ((iha _ ha e _ kx h).mono (λe' ⟨hh,hw,h'⟩=>Ht.weak hw (ihb _ hb hh kn kx h')) (λ_ h=>h) (λ_ _ h=>h))
 |cond o a b iha ihb=>
  intro p hc e kn kx h;refine In hs h hc λh=>?_;have ha:Ba C (0::p)=a:=by show nav (Ba C p) [0]=a;rw[hc];simp[nav]
  have hb:Ba C (1::p)=b:=by show nav (Ba C p) [1]=b;rw[hc];simp[nav]
  split at h
  .rename_i v hv;exact Ht.cond rfl hv (λht=>iha _ ha e kn kx (h.1 ht)) (λhf=>ihb _ hb e kn kx (h.2 hf))
  .exact h.elim
 |block id a iha=>
  intro p hc e kn kx h;refine In hs h hc λh=>?_;have ha:Ba C (0::p)=a:=by show nav (Ba C p) [0]=a;rw[hc];simp[nav]
  refine Ht.block rfl ((iha _ ha e kn _ h).mono (λ_ h=>h) (λ_ h=>h) (λi e' h=>?_));obtain⟨hh,hw,h⟩:=h;unfold Ns;cases hb:aau i id<;>rw[hb]at h<;>exact⟨hh,hw,h⟩
 |loop a _=>
  intro p hc e kn kx h;exact In hs h hc λh=>h.elim
 |_=>intro p hc e kn kx h;exact False.elim h
theorem Z2{A X Y Z:Type}{rv:R->RV}{pn:A->Env}{px:X->Nat×Env}{py:Y->Nat×Env}{pz:Z->Nat×Env}(t:Tr R A X Y Z):t.ob->(∀q,t.val=.n q->n (pn q))->(∀q,t.val=.r q->r (rv q)) ->
  (∀q,t.val=.x q->x (px q).1 (px q).2)->(∀q,t.val=.y q->x (py q).1 (py q).2)->(∀q,t.val=.z q->x (pz q).1 (pz q).2)->(t.toE rv pn px py pz).H n r x:=by
 induction t with
 |l o=>
  intro _ h1 h2 h3 h4 h5;cases o with
  |n q=>exact h1 q rfl
  |r q=>exact h2 q rfl
  |x q=>exact h3 q rfl
  |y q=>exact h4 q rfl
  |z q=>exact h5 q rfl
 |w ps t ih=>intro h h1 h2 h3 h4 h5;exact⟨h.1,ih h.2 h1 h2 h3 h4 h5⟩
 |c b t f iht ihf=>
  intro h h1 h2 h3 h4 h5;refine⟨λhb=>?_,λhb=>?_⟩<;>subst hb
  .exact iht (h.1 rfl) h1 h2 h3 h4 h5
  .exact ihf (h.2 rfl) h1 h2 h3 h4 h5
 |k a f ih=>exact ih a
 |s S kn kx ky kz ihn ihx ihy ihz=>
  intro h h1 h2 h3 h4 h5;obtain⟨hh,hn,hx,hy,hz⟩:=h;refine⟨rfl,hh,λq hq=>?_,λq hq=>?_,λq hq=>?_,λq hq=>?_,λq hq=>?_⟩
  .have e:(Tr.s S kn kx ky kz).val=(kn q).val:=by simp only[Tr.val,hq]
   rw[e]at h1 h2 h3 h4 h5;exact zt (ihn q (hn q hq) h1 h2 h3 h4 h5)
  .exact h2 q (by simp only[Tr.val,hq])
  .have e:(Tr.s S kn kx ky kz).val=(kx q).val:=by simp only[Tr.val,hq]
   rw[e]at h1 h2 h3 h4 h5;exact zt (ihx q (hx q hq) h1 h2 h3 h4 h5)
  .have e:(Tr.s S kn kx ky kz).val=(ky q).val:=by simp only[Tr.val,hq]
   rw[e]at h1 h2 h3 h4 h5;exact zt (ihy q (hy q hq) h1 h2 h3 h4 h5)
  .have e:(Tr.s S kn kx ky kz).val=(kz q).val:=by simp only[Tr.val,hq]
   rw[e]at h1 h2 h3 h4 h5;exact zt (ihz q (hz q hq) h1 h2 h3 h4 h5)
theorem bE{X:Type}[Dft X]{px:X->Nat×Env}{i:Nat}{e:Env}{k:TrE R}(h:(kxs px i e k).H n r x):(∃e',wa e e'/\x i e')\/k.H n r x:=by
 unfold kxs at h;split at h
 .split at h
  .split at h
   .rename_i e3 hc;exact .inl ⟨e3,aE hc,h⟩
   .exact h.elim
  .exact .inr h
 .exact .inr h
theorem Bt{A X Y Z:Type}[Dft A][Dft X][Dft Y][Dft Z](G:Good P tt sp)(subs:Gi R)(hs:Pj P tt N fr C F subs)(kp:List (Nat×List Nat))(tb:List (Nat×Nat))(af:List (Nat×Bool×Nat)){S:ac R A X Y Z}(t:Tr R A X Y Z)
  (ho:S.o=t.val) (hob:S.ob=t.ob) (h:runT tt sp N F kp tb af subs (Ba C S.path) S.path S.env (kn0 S.pn) (kx0 S.px S.py S.pz)=t.toE S.rv S.pn S.px S.py S.pz):ld P tt N fr C F S:=by
 intro hb;rw[hob]at hb
 have h1:=Z2 (n:=λe=>∃q,S.o=.n q/\wa e (S.pn q)) (r:=λv=>∃q,S.o=.r q/\v=S.rv q)
  (x:=λi e=>(∃q,S.o=.x q/\(S.px q).1=i/\wa e (S.px q).2)\/(∃q,S.o=.y q/\(S.py q).1=i/\wa e (S.py q).2)\/∃q,S.o=.z q/\(S.pz q).1=i/\wa e (S.pz q).2) (rv:=S.rv) (pn:=S.pn) (px:=S.px) (py:=S.py) (pz:=S.pz) t hb
  (λq hq=>⟨q,ho.trans hq,wa.refl _⟩) (λq hq=>⟨q,ho.trans hq,rfl⟩) (λq hq=>.inl ⟨q,ho.trans hq,rfl,wa.refl _⟩) (λq hq=>.inr (.inl ⟨q,ho.trans hq,rfl,wa.refl _⟩)) (λq hq=>.inr (.inr ⟨q,ho.trans hq,rfl,wa.refl _⟩))
 rw[<-h]at h1
 have key:∀ {n':Env->Prop}{x':Nat->Env->Prop},(∀e e',wa e e'->n' e'->n' e)->(∀i e e',wa e e'->x' i e'->x' i e)->∀ {r':RV->Prop},
   (runT tt sp N F kp tb af subs (Ba C S.path) S.path S.env (kn0 S.pn) (kx0 S.px S.py S.pz)).H n' r' x'->Ht P N fr (Ba C S.path) S.env n' (λe=>r' (Jh tt F e)) x':=by
  intro n' x' hj hl r' hh;refine(Y2 G hs _ _ rfl _ _ _ hh).mono ?_ (λ_ h=>h) ?_
  .rintro e' ⟨hi,hw,h⟩;unfold kn0 at h;split at h
   .split at h
    .rename_i e3 hc;exact hj _ _ (hw.trans (aE hc)) h
    .exact h.elim
   .exact h.elim
  .rintro i e' ⟨hi,hw,h⟩;rcases bE h with⟨e3,hk,h⟩|h
   .exact hl _ _ _ (hw.trans hk) h
   .rcases bE h with⟨e3,hk,h⟩|h
    .exact hl _ _ _ (hw.trans hk) h
    .rcases bE h with⟨e3,hk,h⟩|h
     .exact hl _ _ _ (hw.trans hk) h
     .exact h.elim
 refine key ?_ ?_ h1
 .rintro e e' hw ⟨q,hq,h⟩;exact⟨q,hq,hw.trans h⟩
 .rintro i e e' hw (⟨q,hq,rfl,h⟩|⟨q,hq,rfl,h⟩|⟨q,hq,rfl,h⟩)
  .exact .inl ⟨q,hq,rfl,hw.trans h⟩
  .exact .inr (.inl ⟨q,hq,rfl,hw.trans h⟩)
  .exact .inr (.inr ⟨q,hq,rfl,hw.trans h⟩)
def Ct(c:Code):Bool:=match c with
 |.loop _=>true
 |_=>false
theorem C3{c:Code}(h:Ct c=true):c=.loop (nav c [0]):=by
 unfold Ct at h;split at h
 .simp[nav]
 .cases h
def lpS{σ X Y Z:Type}(S:ac R σ X Y Z)(o:Oc Empty R X Y Z)(ob:Prop):ac R Empty X Y Z:=⟨o,ob,S.path.tail,S.env,S.rv,nE,S.px,S.py,S.pz⟩
theorem D3{σ X Y Z:Type}[Inhabited R](Sr:σ->ac R σ X Y Z)(s0:σ)(hpn:∀s,(Sr s).pn=λs'=>(Sr s').env)(hp:∀s,(Sr s).path=0::(Sr s0).path.tail/\(Sr s).rv=(Sr s0).rv/\(Sr s).px=(Sr s0).px/\(Sr s).py=(Sr s0).py/\(Sr s).pz=(Sr s0).pz)
  (hc:Ct (Ba C (Sr s0).path.tail)=true) (hb:∀s,ld P tt N fr C F (Sr s)) :
  ld P tt N fr C F (lpS (Sr s0) (lpV (λs=>na (Sr s).o) s0) (LpT (λs=>na (Sr s).o) (λs=>(Sr s).ob) s0)):=by
 intro hT;have hT:LpT (λs=>na (Sr s).o) (λs=>(Sr s).ob) s0:=hT;show Ht P N fr (Ba C (Sr s0).path.tail) (Sr s0).env _ _ _;refine Ht.loopOc (c1:=nav (Ba C (Sr s0).path.tail) [0]) (C3 hc) (λs=>(Sr s).env) (λs=>(Sr s).o) hT (RP:=λq e=>Jh tt F e=(Sr s0).rv q) (XP:=λi q e=>((Sr s0).px q).1=i/\wa e ((Sr s0).px q).2) (YP:=λi q e=>((Sr s0).py q).1=i/\wa e ((Sr s0).py q).2) (ZP:=λi q e=>((Sr s0).pz q).1=i/\wa e ((Sr s0).pz q).2) (λs hs=>?_) ?_ ?_ ?_ ?_
 .have h:=hb s hs;obtain⟨h1,h2,h3,h4,h5⟩:=hp s;rw[h1,h2,h3,h4,h5,hpn s]at h;exact h
 .exact λq e h he=>⟨q,h,he⟩
 .exact λi q e h he=>.inl ⟨q,h,he⟩
 .exact λi q e h he=>.inr (.inl ⟨q,h,he⟩)
 .exact λi q e h he=>.inr (.inr ⟨q,h,he⟩)
def Ya:Nat:=2097200
theorem E3{f:Nat}{s:Spec}{fn:Func}{c:Code}(hf:P.funcs[f]? = some fn)(hname:(fn.name == "runtime.NumGoroutine")=false)(hc:fn.body=some c)(h:∀x,s.pre x->False):Con P f s:=⟨⟨fn,hf,hname,by rw[hc];rfl⟩,λx hp=>(h x hp).elim⟩
theorem Xf{f:Nat}{s:Spec}{fn:Func}(h:∀x,s.pre x->False)(hf:P.funcs[f]? = some fn:=by kernel_rfl)(hname:(fn.name == "runtime.NumGoroutine")=false:=by kernel_rfl)(hc:fn.body.isSome=true:=by kernel_rfl):Con P f s:=by
 obtain⟨c,hc⟩:=Option.isSome_iff_exists.1 hc;exact E3 hf hname hc h
theorem H3{pts:List PT}{rt:RT}{o:Ab pts->Oc Empty rt.T Empty Empty Empty}{ob:Ab pts->Prop}(G:Good P tt sp){f:Nat}{fn:Func}{c:Code}(hf:P.funcs[f]? = some fn)(hname:(fn.name == "runtime.NumGoroutine")=false)(hc:fn.body=some c){rs:List aaG}{fz:List Nat}
  (hrs:fn.results=rs.toArray) (hlen:abT pts.length fn.ntmps=true) (hno:Ij rt=true->pb pts 0=none) (hrd:pb pts 0=none) (S:Ab pts->ac rt.T Empty Empty Empty Empty)
  (hS:∀x,(S x).path=[]/\(S x).env=nc pts x 0/\(S x).o=o x/\(S x).ob=ob x/\(S x).rv=λq=>(some (rt.av q),.dead))
  (h:∀(x:Ab pts) (fr:Fr),ld P tt ⟨fn.ntmps,none,[]⟩ fr c ⟨rs,rt,none,fz⟩ (S x)):Con P f ⟨pts,rt,false,λx=>(ocR (o x),0),ob⟩:=ol G.htt hf hname hc hrs hlen hno λx hp fr _ _ _=>by
  obtain⟨h1,h2,h3,h4,h5⟩:=hS x;have hp:ob x:=hp;rw[<-h4]at hp;have h0:=h x fr hp;rw[h1,h2,h3,h5]at h0;rw[hrd];refine Ht.mono h0 ?_ ?_ ?_
  .rintro e ⟨q,_⟩;exact q.elim
  .rintro e ⟨q,hq,he⟩;have hq:o x=.r q:=hq;have he:Jh tt ⟨rs,rt,none,fz⟩ e=(some (rt.av q),.dead):=he;refine⟨?_,?_⟩
   .show Bi tt e rs rt=some (rt.av (ocR (o x)));rw[hq];exact congrArg Prod.fst he
   .exact by unfold Jj;rw[hrd];trivial
  .rintro i e (⟨q,_⟩|⟨q,_⟩|⟨q,_⟩)<;>exact q.elim
theorem I3{pts:List PT}{rt:RT}{o:Ab pts->Oc Empty (rt.T×Int) Empty Empty Empty}{ob:Ab pts->Prop}(G:Good P tt sp){f:Nat}{fn:Func}{c:Code}(hf:P.funcs[f]? = some fn)(hname:(fn.name == "runtime.NumGoroutine")=false)(hc:fn.body=some c){rs:List aaG}{fz:List Nat}
  (hrs:fn.results=rs.toArray) (hlen:abT pts.length fn.ntmps=true) (hno:Ij rt=true->pb pts 0=none) {k:Nat} (hrd:pb pts 0=some k) (bs:Ab pts->List Int) (hbs:∀x,rdB pts x=some (bs x)) (S:Ab pts->ac (rt.T×Int) Empty Empty Empty Empty)
  (hS:∀x,(S x).path=[]/\(S x).env=nc pts x 0/\(S x).o=o x/\(S x).ob=ob x/\(S x).rv=λq=>(some (rt.av q.1),.box [(.sh,.lst .byte (bs x)),(.fr,.int .i64 q.2)]))
  (h:∀(x:Ab pts) (fr:Fr),ld P tt ⟨fn.ntmps,some k,[]⟩ fr c ⟨rs,rt,some k,fz⟩ (S x)):Con P f ⟨pts,rt,true,λx=>ocR (o x),ob⟩:=ol G.htt hf hname hc hrs hlen hno λx hp fr _ _ _=>by
  obtain⟨h1,h2,h3,h4,h5⟩:=hS x;have hp:ob x:=hp;rw[<-h4]at hp;have h0:=h x fr hp;rw[h1,h2,h3,h5]at h0;rw[hrd];refine Ht.mono h0 ?_ ?_ ?_
  .rintro e ⟨q,_⟩;exact q.elim
  .rintro e ⟨q,hq,he⟩;have hq:o x=.r q:=hq;have he:Jh tt ⟨rs,rt,some k,fz⟩ e=(some (rt.av q.1),.box [(.sh,.lst .byte (bs x)),(.fr,.int .i64 q.2)]):=he;refine⟨?_,?_⟩
   .show Bi tt e rs rt=some (rt.av (ocR (o x)).1);rw[hq];exact congrArg Prod.fst he
   .show Jj pts x (ocR (o x)).2 e;unfold Jj;rw[hrd,hbs,hq];exact congrArg Prod.snd he
  .rintro i e (⟨q,_⟩|⟨q,_⟩|⟨q,_⟩)<;>exact q.elim
end
def Yg(sz:Nat->Option Nat):List Field->Nat->Option Nat
 |[],o=>some o
 |f::fs,o=>match aau f.offset o&&f.name != "_",sz f.type with
  |true,some n=>Yg sz fs (o+n)
  |_,_=>none
def Zg(P:aav):Nat->Nat->Option Nat
 |0,_=>none
 |m+1,t=>match P.underlying t,P.info? t with
  |some (.int _),some _=>some 1
  |some (.struct fs),some i=>match P.stoodInHeld t,Yg (Zg P m) fs.toList 0 with
   |false,some n=>match aau i.size n with
    |true=>some n
    |false=>none
   |_,_=>none
  |_,_=>none
theorem Ws:∀ {cs ds:List C}{b:Bool},Ib cs ds=some b->cs.length=ds.length
 |[],[],_,_=>rfl
 |.int _ _::r,.int _ _::r',_,h=>by
  simp only[Ib]at h;split at h
  .rename_i h';simp[Ws h']
  .cases h
 |[],_::_,_,h=>by simp[Ib]at h
 |.bool _::_,_,_,h=>by simp[Ib]at h
 |.str _::_,_,_,h=>by simp[Ib]at h
 |.lst _ _::_,_,_,h=>by simp[Ib]at h
 |.nl _::_,_,_,h=>by simp[Ib]at h
 |.int _ _::_,[],_,h=>by simp[Ib]at h
 |.int _ _::_,.bool _::_,_,h=>by simp[Ib]at h
 |.int _ _::_,.str _::_,_,h=>by simp[Ib]at h
 |.int _ _::_,.lst _ _::_,_,h=>by simp[Ib]at h
 |.int _ _::_,.nl _::_,_,h=>by simp[Ib]at h
theorem tP:∀ {a c a' c':List C}{e:Bool},a.length=c.length->Ib (a++a') (c++c')=some e->∃e1 e2,Ib a c=some e1/\Ib a' c'=some e2/\e=(e1&&e2)
 |[],[],_,_,e,_,h=>⟨true,e,rfl,h,by simp⟩
 |x::a,y::c,a',c',e,hl,h=>by
  cases x<;>cases y<;>simp only[List.cons_append,Ib]at h<;>try (cases h;done)
  rename_i k n k' n';split at h
  .rename_i e' hk hr;obtain⟨e1,e2,h1,h2,h3⟩:=tP (by simpa using hl) hr;simp only[aal]at h;exact⟨cmp .eql n n'&&e1,e2,by simp only[Ib,hk,h1],h2,by rw[<-h,h3,Bool.and_assoc]⟩
  .cases h
 |[],_::_,_,_,_,hl,_=>by simp at hl
 |_::_,[],_,_,_,hl,_=>by simp at hl
section
variable {P:aav}
def EqP(P:aav)(d t n:Nat):Prop:=∀(w:World) (cs ds:List C) (off:Nat) (b:Bool),Ib ((cs.drop off).take n) ((ds.drop off).take n)=some b->((cs.drop off).take n).length=n ->
 ∃x y,(abd t (cs.map zv).toArray off).run P w=.ok x w/\(abd t (ds.map zv).toArray off).run P w=.ok y w/\(Op.equalIn d t x y).run P w=.ok b w
theorem U1{d t:Nat}{k:IntKind}(hu:P.underlying t=some (.int k)):EqP P (d+1) t 1:=by
 intro w cs ds hh b h hl;cases hc:cs.drop hh with
 |nil=>rw[hc]at hl;simp at hl
 |cons c cr=>
  rw[hc]at h;cases hd:ds.drop hh with
  |nil=>rw[hd]at h;cases c<;>simp[Ib]at h
  |cons e er=>
   rw[hd]at h
   have h1:cs[hh]? = some c:=by
    have:=abD (xs:=cs) (i:=hh) (j:=0);rw[hc]at this;simpa using this.symm
   have h2:ds[hh]? = some e:=by
    have:=abD (xs:=ds) (i:=hh) (j:=0);rw[hd]at this;simpa using this.symm
   simp only[List.take_succ_cons,acy]at h;cases c<;>cases e<;>simp only[Ib]at h<;>try (cases h;done)
   rename_i k1 a k2 a';split at h
   .rename_i e' hk hr;simp only[aal]at h hr;subst hr;have hk:=Zk hk;subst hk;refine⟨.int k1 a,.int k1 a',?_,?_,?_⟩
    .simp[abd,abU,aaE hu,h1,zv]
    .simp[abd,abU,aaE hu,h2,zv]
    .rw[run_equalIn_int w d t k1 k a a' hu,<-h];simp[cmp]
   .cases h
theorem yD{sz:Nat->Option Nat}:∀ {fs:List Field}{o n:Nat},Yg sz fs o=some n->o<=n
 |[],o,n,h=>by simp only[Yg,aal]at h;omega
 |f::fs,o,n,h=>by
  simp only[Yg]at h;split at h
  .have:=yD h;omega
  .cases h
theorem uP{d:Nat}{sz:Nat->Option Nat}(hsz:∀t n,sz t=some n->EqP P d t n)(w:World)(cs ds:List C):∀ {fs:List Field}{o n:Nat}{b:Bool},Yg sz fs o=some n ->
  Ib ((cs.drop o).take (n - o)) ((ds.drop o).take (n - o))=some b->((cs.drop o).take (n - o)).length=n - o->(Op.eqFields d (cs.map zv).toArray (ds.map zv).toArray fs).run P w=.ok b w
 |[],o,n,b,h,hb,_=>by
  simp only[Yg,aal]at h;subst h;rw[acl]at hb;simp only[acy,Ib,aal]at hb;subst hb;rfl
 |f::fs,o,n,b,h,hb,hl=>by
  simp only[Yg]at h;split at h
  .rename_i k hc hk;simp only[aam,bne_iff_ne,ne_eq]at hc;have ho:=aan hc.1;have hj:=yD h
   have hn:∀l:List C,(l.drop o).take (n - o)=(l.drop o).take k++(l.drop (o+k)).take (n - (o+k)):=λl=>by
    rw[show n - o=k+(n - (o+k)) by omega,List.take_add,List.drop_drop]
   rw[hn cs,hn ds]at hb;rw[hn cs]at hl
   have hh:((cs.drop o).take k).length=k/\((cs.drop (o+k)).take (n - (o+k))).length=n - (o+k):=by
    rw[abh]at hl;have h1:((cs.drop o).take k).length<=k:=by simp;omega
    have h2:((cs.drop (o+k)).take (n - (o+k))).length<=n - (o+k):=by simp;omega
    omega
   have hm:=Ws hb
   have hi:((ds.drop o).take k).length=k:=by
    rw[abh,abh,hh.1,hh.2]at hm;have h1:((ds.drop o).take k).length<=k:=by simp;omega
    have h2:((ds.drop (o+k)).take (n - (o+k))).length<=n - (o+k):=by simp;omega
    omega
   obtain⟨e1,e2,g1,g2,g3⟩:=tP (by rw[hh.1,hi]) hb;obtain⟨x,y,p1,p2,p3⟩:=hsz f.type k hk w cs ds o e1 g1 hh.1;have ih:=uP hsz w cs ds h g2 hh.2;simp only[Op.eqFields,ne_eq,hc.2,not_false_eq_true,if_true,aaC,ho,p1,p2,p3,aat];rw[g3];cases e1 with
   |false=>simp
   |true=>simpa using ih
  .cases h
theorem vP:∀(m t n d:Nat),Zg P m t=some n->EqP P (d+m) t n
 |0,_,_,_,h=>by simp[Zg]at h
 |m+1,t,n,d,h=>by
  simp only[Zg]at h;split at h
  .rename_i k i hu hi;simp only[aal]at h;subst h;exact U1 (d:=d+m) hu
  .rename_i fs i hu hi;split at h
   .rename_i n' hs hf;split at h
    .rename_i hn;simp only[aal]at h;subst h;have hn:=aan hn;intro w cs ds hk b hb hl;have hh:P.fieldsOf t=fs:=by simp[Program.fieldsOf,hu]
     have hex:∀l:List C,((l.map zv).toArray.extract hk (hk+n'))=(((l.drop hk).take n').map zv).toArray:=λl=>by
      apply abM;simp[List.map_drop,List.map_take]
     have hj:∀l:List C,(abd t (l.map zv).toArray hk).run P w=.ok (.agg (((l.drop hk).take n').map zv).toArray) w:=λl=>by
      rw[<-hex l];simp[abd,abU,aaE hu,sizeOf,acI,hi,hn]
     refine⟨_,_,hj cs,hj ds,?_⟩;rw[show d+(m+1)=(d+m)+1 from rfl,run_equalIn_struct w (d+m) t _ _ (by rw[hh];exact hu) hs,hh];refine uP (λt n h=>vP m t n d h) w ((cs.drop hk).take n') ((ds.drop hk).take n') (fs:=fs.toList) hf ?_ ?_
     .rw[abC,abr,abr,abV,abV,acR];exact hb
     .rw[abC,abr,abV,acR];exact hl
    .cases h
   .cases h
  .cases h
def zD(P:aav)(t n:Nat):Bool:=
 !P.eqGuardType P.depth t&&match P.underlying t,Zg P 9 t with
 |some (.struct _),some k=>aau k n
 |_,_=>false
theorem V1{t n:Nat}(h:zD P t n=true):Eh P t n:=by
 simp only[zD,aam,aaM]at h;obtain⟨h1,h2⟩:=h;split at h2
 .rename_i fs k hu hk;have hn:=aan h2;subst hn;refine⟨h1,λw cs ds b hb hl=>?_⟩
  obtain⟨x,y,p1,p2,p3⟩:=vP 9 t k 9991 hk w cs ds 0 b (by
   rw[abr,abr,abm (by omega),abm (by rw[<-Ws hb];omega)];exact hb) (by simp;omega)
  have hi:∃i,P.info? t=some i/\i.size=k:=by
   simp only[Zg,hu]at hk;cases hi:P.info? t with
   |none=>rw[hi]at hk;cases hk
   |some i=>
    rw[hi]at hk;simp only[]at hk;split at hk
    .split at hk
     .rename_i hn;simp only[aal]at hk;exact⟨i,rfl,by rw[aan hn,hk]⟩
     .cases hk
    .cases hk
  obtain⟨i,hi,hj⟩:=hi
  have hm:∀l:List C,l.length=k->(abd t (l.map zv).toArray 0).run P w=.ok (.agg (l.map zv).toArray) w:=λl hl=>by
   have hex:((l.map zv).toArray.extract 0 k)=(l.map zv).toArray:=by
    apply abM;simp[abm (show(l.map zv).length<=k by simp;omega)]
   have hh:Array.extract (l.map zv).toArray 0 k=(l.map zv).toArray:=hex;simp only[abd,abU,aaE hu,sizeOf,acI,hi,hj,aaC,aba,aat,aaw,if_true,run_program];simp[hh]
  rw[hm cs hl]at p1;rw[hm ds (by rw[<-Ws hb];exact hl)]at p2;cases p1;cases p2;exact p3
 .cases h2
def AD(P:aav):TT->Bool
 |[]=>true
 |(t,d)::r=>CC P t d&&((!d.eq||zD P t d.size)&&AD P r)
theorem Cn{P:aav}:∀ {tt:TT},AD P tt=true->dc P tt
 |[],_=>⟨(λ_ _ h=>by cases h),(λ_ _ h=>by cases h)⟩
 |(t0,d0)::r,h=>by
  simp only[AD,aam]at h;obtain⟨h1,h2,h3⟩:=h;have ih:=Cn h3;refine⟨λt d h=>?_,λt d h he=>?_⟩
  .simp only[lk]at h;split at h
   .rename_i hb;cases h;rw[<-aan hb];exact XY h1
   .exact ih.td t d h
  .simp only[lk]at h;split at h
   .rename_i hb;cases h;rw[<-aan hb];rw[he]at h2;exact V1 (by simpa using h2)
   .exact ih.eq t d h he
end
def Ci(r:Nat)(o:Option Nat->Option Nat):Option Nat->Option Nat:=λi=>match o i with
 |some b=>if b=r then none else some b
 |none=>none
theorem BD{r:Nat}{o:Option Nat->Option Nat}{i:Option Nat}{b:Nat}(h:Ci r o i=some b):o i=some b:=by
 unfold Ci at h;split at h
 .rename_i b' hb;split at h
  .cases h
  .rw[hb];exact h
 .cases h
theorem CD{r:Nat}{o:Option Nat->Option Nat}{i:Option Nat}{b:Nat}(h:o i=some b)(hb:b≠r):Ci r o i=some b:=by
 unfold Ci;rw[h];simp[hb]
theorem Blk.ne{w:World}{b r:Nat}{cs:List Value}(h:Blk w b cs){o:Obj}(ho:w.heap[r]? = some o)(hc:acJ o=false):b≠r:=λe=>by
 subst e;rw[Blk.isC h ho]at hc;cases hc
theorem wP{w:World}{b r i:Nat}{u:Value}(h:w.cell? ⟨b,i,none⟩=some u){o:Obj}(ho:w.heap[r]? = some o)(hc:isC o=false):b≠r:=λe=>by
 subst e;cases o<;>simp[World.cell?,ho,isC]at h hc
section
variable {w w':World}{F:Fz}{r:Nat}{B:Nat} (hp:Pk w r w') {o0:Obj} (ho:w.heap[r]? = some o0) (hc:isC o0=false)
include hp ho hc
theorem DD(hl:Live F w):Df F w w':=λb i hb=>by
 cases h:w.cell? ⟨b,i,none⟩ with
 |none=>have:=hl b i hb;rw[h]at this;cases this
 |some u=>rw[cell_of_heap (hp.block b (wP h ho hc)),h]
theorem VR.obj(hl:Live F w){o:Option Nat->Option Nat}{av:AV}{v:Value}(h:VR F B w o av v):VR F B w' (Ci r o) av v:=by
 have hF:=DD hp ho hc hl;have rc:∀ {lo:Nat}{c:C}{v:Value},RC F lo w c v->RC F lo w' c v:=λh=>h.poke hp hF
 have acc:∀ {lo:Nat}{i:Option Nat}{c:C}{v:Value},Ca F lo w (o i) c v->Ca F lo w' (Ci r o i) c v:=by
  rintro lo i c v ⟨h1,h2⟩;refine⟨rc h1,?_⟩;rcases h2 with h2|⟨t,xs,b,cap,cs,e1,e2,e3,e4,e5,e6⟩
  .exact .inl h2
  .exact .inr ⟨t,xs,b,cap,cs,e1,e2,CD e3 (e4.ne ho hc),e4.same (hp.block b (e4.ne ho hc)),e5,e6⟩
 cases av with
 |dead=>trivial
 |v k c=>
  cases k with
  |sh=>exact rc h
  |fr=>exact rc h
  |acc f=>exact acc h
  |own f=>
   rcases h with h|⟨t,xs,b,cap,cs,vs,e1,e2,e3,e4,e5,hh,e6,e7,e8,e9⟩
   .exact .inl h
   exact .inr ⟨t,xs,b,cap,cs,vs,e1,e2,CD e3 (e4.ne ho hc),e4.same (hp.block b (e4.ne ho hc)),e5,hh,e6,e7,e8,λi j x c hx hc=>rc (e9 i j x c hx hc)⟩
 |agg f cs=>obtain⟨vs,e,h⟩:=h;exact⟨vs,e,h.poke hp hF⟩
 |tup l=>obtain⟨vs,e,h⟩:=h;exact⟨vs,e,h.poke hp hF⟩
 |box cs=>
  obtain⟨b,vs,e1,e2,e3,e4,e5,e6⟩:=h;refine⟨b,vs,e1,CD e2 (e3.ne ho hc),e3.same (hp.block b (e3.ne ho hc)),e4,e5,λj kc u hk hu=>?_⟩;have:=e6 j kc u hk hu;obtain⟨k,c⟩:=kc;cases k with
  |sh=>exact rc this
  |fr=>exact rc this
  |acc f=>exact acc this
  |own f=>exact this
 |cond k a=>exact h.elim
 |view s i=>exact h.elim
 |baddr s i=>exact h.elim
 |faddr f cs=>exact h.elim
 |oaddr s i j=>exact h.elim
theorem SR.obj(hl:Live F w){tm:Nat->Value}{g:Get}{ow:Nat->Option Nat->Option Nat}{n:Nat}:∀ {av:AV},SR F B w tm g ow n av->SR F B w' tm g (λs=>Ci r (ow s)) n av
 |.dead,_=>trivial
 |.v k c,h=>VR.obj (av:=.v k c) hp ho hc hl h
 |.agg f cs,h=>VR.obj (av:=.agg f cs) hp ho hc hl h
 |.tup l,h=>VR.obj (av:=.tup l) hp ho hc hl h
 |.box cs,h=>VR.obj (av:=.box cs) hp ho hc hl h
 |.cond k a,h=>⟨h.1,h.2.1,λhb=>SR.obj hl (h.2.2.1 hb),h.2.2.2⟩
 |.view m none,h=>h
 |.view m (some j),h=>by
  obtain⟨h0,cs,b',f,c,h1,h2,h3,h4⟩:=h;exact⟨h0,cs,b',f,c,h1,h2,h3,by rw[cell_of_heap (hp.block b' (wP h4 ho hc))];exact h4⟩
 |.baddr m o,h=>h
 |.faddr f cs,h=>by
  obtain⟨b',o,vs,h1,h2,h3⟩:=h;have hF:=DD hp ho hc hl;exact⟨b',o,vs,h1,h2.poke hp hF,λj v hv=>⟨(h3 j v hv).1,by rw[hF _ _ (h3 j v hv).1];exact(h3 j v hv).2⟩⟩
 |.oaddr m i o,h=>h
theorem ja.obj{IoB:List Nat}{F0:Fz}{e:Env}{tm:Nat->Value}{ow:Nat->Option Nat->Option Nat}(hs:ja B IoB F0 e tm w F ow):ja B IoB F0 e tm w' F (λs=>Ci r (ow s)):=⟨hs.sub,hs.new,⟨λb o hb=>by rw[DD hp ho hc hs.live b o hb];exact hs.live b o hb,λg cs hg=>⟨(hs.live.tab g cs hg).1,by
   obtain⟨_,t,z,h2⟩:=hs.live.tab g cs hg;exact⟨t,z,(hp.block g λe=>by rw[e,ho]at h2;cases h2;cases hc).trans h2⟩⟩⟩,λs i s' i' b h h'=>hs.inj s i s' i' b (BD h) (BD h'),
   λs i b h=>by rw[hp.size];exact hs.bd s i b (BD h),λs=>(hs.sr s).obj hp ho hc hs.live⟩
end
structure MS(N:NP)(B:Nat)(IoB:List Nat)(W0:World)(F0:Fz)(obs:List (Nat×Obj))(e:Env)(a:Act)(w:World):Prop where
 sim:Sim N B IoB w F0 e a w
 kept:Kept B IoB W0 w
 ob:∀p∈obs,w.heap[p.1]? = some p.2/\isC p.2=false/\B<=p.1
 hB:B=W0.heap.size
section
variable {P:aav}{N:NP}{B:Nat}{IoB:List Nat}{W0:World}{F0:Fz}{obs:List (Nat×Obj)}{e:Env}{a:Act}{w:World}
theorem Sim.rebase(hs:Sim N B IoB W0 F0 e a w):Sim N B IoB w F0 e a w:=⟨hs.defers,hs.tmps,aaL hs.base hs.kept.size,hs.f0,acr _ _ _,hs.rep⟩
theorem MS.of(hs:Sim N B IoB W0 F0 e a w)(hB:B=W0.heap.size):MS N B IoB W0 F0 [] e a w:=⟨hs.rebase,hs.kept,(λp hp=>by cases hp),hB⟩
theorem MS.to(h:MS N B IoB W0 F0 obs e a w):Sim N B IoB W0 F0 e a w:=⟨h.sim.defers,h.sim.tmps,Nat.le_of_eq h.hB,h.sim.f0,h.kept,h.sim.rep⟩
theorem Tms.forget{N':NP}{t:Array Value}(h:Tms N IoB t)(hn:N'.n=N.n)(hr:N'.r=N.r)(hk:∀p∈N'.k,p∈N.k):Tms N' IoB t:=⟨by rw[hn];exact h.size,λs hs=>h.rd s (by rw[<-hr];exact hs),λp hp=>h.kp p (hk p hp)⟩
theorem MS.forget{N':NP}{obs':List (Nat×Obj)}(h:MS N B IoB W0 F0 obs e a w)(hn:N'.n=N.n)(hr:N'.r=N.r)(hk:∀p∈N'.k,p∈N.k)(ho:∀p∈obs',p∈obs):MS N' B IoB W0 F0 obs' e a w:=⟨⟨h.sim.defers,h.sim.tmps.forget hn hr hk,h.sim.base,h.sim.f0,h.sim.kept,h.sim.rep⟩,h.kept,λp hp=>h.ob p (ho p hp),h.hB⟩
theorem MS.of_sim{e':Env}{a':Act}{w':World}(h:MS N B IoB W0 F0 obs e a w)(hs:Sim N B IoB w F0 e' a' w'):MS N B IoB W0 F0 obs e' a' w':=⟨hs.rebase,h.kept.trans hs.kept,λp hp=>⟨hs.kept.obj _ _ (h.ob p hp).1 (h.ob p hp).2.1,(h.ob p hp).2⟩,h.hB⟩
theorem MS.reg{tt:TT}{sp:SP}(G:Good P tt sp){id:Nat}{ops:Array Oper}{draw:Bool}(hok:Ms sp N ops.toList draw=true){keep:List Nat}{e':Env}{ps:List Prop}
  (hr:wn tt sp keep ops.toList draw e=some (e',ps)) (ho:ga ps) {Q:Exit->Act->World->Prop} (hQ:∀a w,MS N B IoB W0 F0 obs e' a w->Q .normal a w) (hs:MS N B IoB W0 F0 obs e a w):(Code.region id ops draw).wp P Q a w:=mP G.htt G.hsp G.hm hok hr ho.all (λa w h=>hQ a w (hs.of_sim h)) hs.sim
theorem MS.stepF{tt:TT}{sp:SP}(G:Good P tt sp)(hs:MS N B IoB W0 F0 obs e a w){ops:Array Oper}{o:Oper}{e':Env}{ps:List Prop}(hgd:o.guard=none)
  (hst:acB tt sp (ops.toList.map (·.dst)) e o=some (e',ps)) (ho:ga ps) (hdN:∀d,o.dst=some d->N.ok d=true) {next:Act->World->Prop}{Q:Exit->Act->World->Prop} (hn:∀a' w',MS N B IoB W0 F0 obs e' a' w'->next a' w') :
  o.wp P a w next Q:=by
 have h:=qn G.htt G.hsp hs.sim hst ho.all hdN (Q:=Q) (next:=next) (λa' w' h=>hn a' w' (hs.of_sim h));have hw:aaU o (abZ ops a.tmps)=true:=by unfold aaU;rw[hgd]
 rw[if_pos hw]at h;exact h
theorem va{ops:Array Oper}{i:Nat}{o:Oper}(ho:ops[i]? = some o)(hg:o.guard=none){next:Act->World->Prop}{Q:Exit->Act->World->Prop}(h:o.wp P a w next Q):wpOp P ops Q i next a w:=by
 unfold wpOp;rw[ho];simp only[];have hw:aaU o (abZ ops a.tmps)=true:=by unfold aaU;rw[hg]
 rw[if_pos hw];exact .inl h
theorem Tms.putK{a:Act}(h:Tms N IoB a.tmps){d:Nat}(hd:N.ok d=true)(v:Value):Tms ⟨N.n,N.r,(d,v)::N.k⟩ IoB (a.put (some d) v).tmps:=by
 have h1:=h.put hd v;refine⟨h1.size,h1.rd,λp hp=>?_⟩;rcases aaA.1 hp with rfl|hp
 .rw[Ja a d v (by rw[h.size];exact abW hd),if_pos rfl]
 .exact h1.kp p hp
theorem MS.val(hs:MS N B IoB W0 F0 obs e a w){d:Nat}(hd:N.ok d=true){v:Value}{av:AV}(hfl:fc av=true)(hav:∀F,Live F w->VR F B w (λ_=>none) av v) :
  MS ⟨N.n,N.r,(d,v)::N.k⟩ B IoB W0 F0 obs (put e d av) (a.put (some d) v) w:=by
 obtain⟨F,ow,hx⟩:=hs.sim.rep;refine⟨⟨hs.sim.defers,hs.sim.tmps.putK hd v,hs.sim.base,hs.sim.f0,acr _ _ _,F,λs=>if s=d then(λ_=>none) else ow s,?_⟩,hs.kept,hs.ob,hs.hB⟩;rw[show(λn=>(a.put (some d) v).tmps.getD n undef)=λn=>if n=d then v else a.tmps.getD n undef from funext (Ja a d v (by rw[hs.sim.tmps.size];exact abW hd))];refine hx.put hs.sim.base (Ua.refl F w) hx.live (λi b h=>by simp at h) (λi i' b h=>by simp at h) (λg' _ _=>?_);rw[Ze hfl];simp only[if_true];exact hav F hx.live
theorem MS.alloc(hs:MS N B IoB W0 F0 obs e a w){d:Nat}(hd:N.ok d=true){v:Value}{o:Obj}(hc:isC o=false) :
  MS ⟨N.n,N.r,(d,v)::N.k⟩ B IoB W0 F0 ((w.heap.size,o)::obs) (put e d .dead) (a.put (some d) v) (w.alloc o):=by
 obtain⟨F,ow,hx⟩:=hs.sim.rep;have hh:=hs.sim.base;have hj:∀k,k<w.heap.size->(w.alloc o).heap[k]? = w.heap[k]?:=λk hk=>js o hk;have hg:Ua F w F (w.alloc o):=⟨rfl,rfl,rfl,by show w.heap.size<=(w.heap.push o).size;simp,hj,λ_ _ h=>h,λ_ _ h=>.inl h⟩;have hi:Kept B IoB w (w.alloc o):=⟨rfl,rfl,rfl,hg.size,λk hk _=>hj k (by omega),λk o' hk _=>by rw[hj k (aaB.1 hk).1];exact hk⟩;refine⟨⟨hs.sim.defers,hs.sim.tmps.putK hd v,aaL hh hg.size,hs.sim.f0,acr _ _ _,F,λs=>if s=d then(λ_=>none) else ow s,?_⟩,hs.kept.trans hi,λp hp=>?_,hs.hB⟩
 .rw[show(λn=>(a.put (some d) v).tmps.getD n undef)=λn=>if n=d then v else a.tmps.getD n undef from funext (Ja a d v (by rw[hs.sim.tmps.size];exact abW hd))];refine hx.put hh hg (hx.live.next hg λb i hb=>by rw[hg.live hx.live b i hb];exact hx.live b i hb) (λi b h=>by simp at h) (λi i' b h=>by simp at h) (λg' _ _=>trivial)
 .rcases aaA.1 hp with rfl|hp
  .exact⟨by show(w.heap.push o)[w.heap.size]? = some o;simp,hc,hh⟩
  .exact⟨by rw[hj _ (aaB.1 (hs.ob p hp).1).1];exact(hs.ob p hp).1,(hs.ob p hp).2⟩
theorem MS.set(hs:MS N B IoB W0 F0 obs e a w){r:Nat}{o0:Obj}(hr:(r,o0)∈obs){w':World}(hp:Pk w r w'){obs':List (Nat×Obj)}
  (ho:∀p∈obs',(p∈obs/\p.1≠r)\/(p.1=r/\w'.heap[r]? = some p.2/\isC p.2=false)):MS N B IoB W0 F0 obs' e a w':=by
 obtain⟨h1,h2,h3⟩:=hs.ob _ hr;obtain⟨F,ow,hx⟩:=hs.sim.rep;refine⟨⟨hs.sim.defers,hs.sim.tmps,by rw[hp.size];exact hs.sim.base,hs.sim.f0,acr _ _ _,F,_,hx.obj hp h1 h2⟩,?_,λp hpp=>?_,hs.hB⟩
 .have hh:∀k,k<W0.heap.size->k≠r:=λk hk e=>by have:=hs.hB;simp only at h3;omega
  refine⟨hp.os.trans hs.kept.os,hp.tape.trans hs.kept.tape,hp.output.trans hs.kept.output,by rw[hp.size];exact hs.kept.size,λk hk hio=>?_,λk o hk hc=>?_⟩
  .rw[hp.block k (hh k (by have:=hs.hB;omega))];exact hs.kept.block k hk hio
  .rw[hp.block k (hh k (aaB.1 hk).1)];exact hs.kept.obj k o hk hc
 .rcases ho p hpp with⟨q1,q2⟩|⟨q1,q2,q3⟩
  .exact⟨by rw[hp.block _ q2];exact(hs.ob p q1).1,(hs.ob p q1).2⟩
  .exact⟨by rw[q1];exact q2,q3,by rw[q1];exact h3⟩
theorem MS.bool(hs:MS N B IoB W0 F0 obs e a w){t:Nat}{k:K}{b:Bool}(hg:da e t=.v k (.bool b)):a.eval (.tmp t)=.bool b:=by
 obtain⟨F,ow,hx⟩:=hs.sim.rep;have hh:=hx.sr t;rw[hg]at hh;exact Aj (hh.avr (λ_ _ h=>by cases h))
theorem MS.drew(hs:MS N B IoB W0 F0 obs e a w)(m:Nat):MS N B IoB W0 F0 obs e a { w with drawn:=m }:=by
 have h:=hs.sim.drew m;exact hs.of_sim h
end
section
variable {P:aav}{ops:Array Oper}{Q:Exit->Act->World->Prop}
theorem ED{J:(Nat->Bool)->Act->World->Prop}(hback:un ops.toList 0=true)
  (hstep:∀(L:Nat->Bool) (a:Act) (w:World) (i:Nat) (o:Oper),ops[i]? = some o->L i=false->(∀e∈o.after,aay .any e=true->L e.on=true)->Closed ops L->J L a w ->
    ∀(next:Act->World->Prop),(∀a' w',J (λj=>if j=i then true else L j) a' w'->next a' w')->wpOp P ops Q i next a w)
  (hQ:∀L a w,(∀i,i<ops.size->L i=true)->J L a w->Q .normal a w) :
  ∀(fuel:Nat) (listed:Array Bool) (a:Act) (w:World),listed.size=ops.size->listed.toList.count false=fuel->Closed ops (λi=>listed.getD i false)->J (λi=>listed.getD i false) a w->wpAny P .any ops Q fuel listed a w:=by
 have hu:∀i,ops.toList[i]? = ops[i]?:=λi=>aar;intro fuel
 induction fuel with
 |zero=>
  intro listed a w hsz hq hn hJ
  have hk:∀i,i<ops.size->listed.getD i false=true:=by
   intro i hi
   have hf:false ∉ listed.toList:=λhm=>by
    have:=abi.2 hm;omega
   have hv:i<listed.toList.length:=by rw[aaN];omega
   have hc:=acm hv;cases hb:listed.toList[i] with
   |false=>rw[hb]at hc;exact absurd hc hf
   |true=>rw[aaq,<-aar,aap hv,hb];rfl
  refine⟨?_,hQ _ a w hk hJ⟩;cases hr:aaI .any ops listed with
  |nil=>rfl
  |cons j r=>
   have hj:j∈aaI .any ops listed:=by rw[hr];simp
   obtain⟨h0,o,ho,_⟩:=mem_ready.1 hj;have ha:j<ops.size:=(aaB.1 ho).1;have:=hk j ha;rw[aaq]at this h0;rw[aas (by omega)]at this h0;simp at this h0;rw[this]at h0;cases h0
 |succ fuel ih=>
  intro listed a w hsz hq hn hJ;refine⟨λhr=>?_,λi hi=>?_⟩
  .exfalso
   have hk:∀i,i<ops.size->listed.getD i false=true:=by
    intro i
    induction i using abK with
    |ind i ihi=>
     intro hi;cases hb:listed.getD i false with
     |true=>rfl
     |false=>
      have hc:i∈aaI .any ops listed:=by
       refine mem_ready.2 ⟨?_,ops[i],aas hi,λe he hl=>?_⟩
       .rw[aaq,aas (by omega)]at hb⊢;simpa using hb
       .have:=pD hback i ops[i] (by rw[hu];exact aas hi) e he hl;exact ihi e.on (by omega) (by omega)
      rw[hr]at hc;simp at hc
   have io:0<listed.toList.count false:=by omega
   have hm:=abi.1 io;obtain⟨i,hi⟩:=abb.1 hm;have ha:=(aaO.1 hi).1;rw[aaN]at ha;have:=hk i (by omega);rw[aaq,<-aar,hi]at this;cases this
  .obtain⟨hw,o,ho,ht⟩:=mem_ready.1 hi;have hy:i<ops.size:=(aaB.1 ho).1
   have hh:listed.getD i false=false:=by
    rw[aaq,aas (by omega)]at hw⊢;simpa using hw
   have hz:listed.toList[i]? = some false:=by
    rw[aar,aas (by omega)];rw[aaq,aas (by omega)]at hh;simpa using hh
   have it:(λj=>(listed.setIfInBounds i true).getD j false)=λj=>if j=i then true else listed.getD j false:=by
    funext j
    by_cases e:j=i
    .subst e;rw[if_pos rfl,aaq,abx (by omega)];rfl
    .rw[if_neg e,getD_set_ne false (Ne.symm e)]
   have hp:Closed ops (λi'=>(listed.setIfInBounds i true).getD i' false):=by
    rw[it];intro j o' hg hj e he hl;simp only[]at hj⊢;split
    .rfl
    .split at hj
     .rename_i e';subst e';rw[ho]at hg;cases hg;exact ht e he hl
     .exact hn j o' hg hj e he hl
   have hs:(listed.setIfInBounds i true).toList.count false=fuel:=by
    rw[aaK];have:=jP hz;omega
   exact hstep _ a w i o ho hh ht hn hJ _ (λa' w' hJ'=>ih _ a' w' (by rw[abB];exact hsz) hs hp (by rw[it];exact hJ'))
end
def jd(ks:List Int):List Value:=ks.map (acS .i64)
def Na(ks:List Int):Value:=.agg (jd ks).toArray
abbrev MP:=List (List Int×Int)
def gc(i:Nat)(p:List Int×Int):MapEntry:={ key:=Na p.1,val:=.int .i64 p.2,born:=i }
def db:Nat->MP->List acq
 |_,[]=>[]
 |i,p::r=>gc i p::db (i+1) r
def ya(m:MP):Obj:=.map (db 0 m).toArray m.length
def Dd(w:World)(r:Nat)(o:Obj):World:={ w with heap:=w.heap.setIfInBounds r o }
theorem Di(w:World)(r:Nat)(o:Obj):Pk w r (Dd w r o):=⟨rfl,rfl,rfl,by simp[Dd],λk hk=>by
   show(w.heap.setIfInBounds r o)[k]? = w.heap[k]?;rw[abX,if_neg (λe=>hk e.symm)]⟩
theorem Ei{w:World}{r:Nat}{o o':Obj}(h:w.heap[r]? = some o):(Dd w r o').heap[r]? = some o':=by
 show(w.heap.setIfInBounds r o')[r]? = some o';rw[abX,if_pos rfl,if_pos (aaB.1 h).1]
def oc:MP->List Int->Nat->Option (Nat×Int)
 |[],_,_=>none
 |p::r,ks,i=>if p.1=ks then some (i,p.2) else oc r ks (i+1)
def rb(m:MP)(ks:List Int):Int:=match oc m ks 0 with
 |some (_,v)=>v
 |none=>0
def stp(m:MP)(ks:List Int):Nat:=match oc m ks 0 with
 |some (i,_)=>i
 |none=>m.length
def Vc(m:MP)(ks:List Int):MP:=match oc m ks 0 with
 |some _=>m
 |none=>m++[(ks,0)]
def Nd:MP->Nat->Int->MP
 |[],_,_=>[]
 |p::r,0,v=>(p.1,v)::r
 |p::r,i+1,v=>p::Nd r i v
theorem Xs:∀(j:Nat) (m:MP) (i:Nat),(db j m)[i]? = (m[i]?).map (gc (j+i))
 |_,[],i=>by simp[db]
 |j,p::r,0=>by simp[db]
 |j,p::r,i+1=>by simp[db,Xs (j+1) r i,Nat.add_assoc,Nat.add_comm 1 i]
theorem xP:∀(j:Nat) (m n:MP),db j (m++n)=db j m++db (j+m.length) n
 |_,[],n=>by simp[db]
 |j,p::r,n=>by simp[db,xP (j+1) r n,Nat.add_assoc,Nat.add_comm 1 r.length]
theorem FD{j:Nat}{m:MP}{e:acq}(h:e∈db j m):∃i p,m[i]? = some p/\e=gc (j+i) p:=by
 obtain⟨i,hi⟩:=abb.1 h;rw[Xs]at hi;cases hm:m[i]? with
 |none=>rw[hm]at hi;cases hi
 |some p=>rw[hm]at hi;simp at hi;exact⟨i,p,hm,hi.symm⟩
theorem Dn:∀ {m:MP}{ks:List Int}{j i:Nat}{v:Int},oc m ks j=some (i,v)->j<=i/\m[i - j]? = some (ks,v)
 |[],_,_,_,_,h=>by simp[oc]at h
 |p::r,ks,j,i,v,h=>by
  simp only[oc]at h;split at h
  .rename_i hp;simp only[aal,aaD]at h;obtain⟨rfl,rfl⟩:=h;exact⟨aaz _,by simp[<-hp]⟩
  .obtain⟨h1,h2⟩:=Dn h;refine⟨by omega,?_⟩;rw[show i - j=(i - (j+1))+1 by omega];simpa using h2
theorem yP:∀ {m:MP}{ks:List Int}{j:Nat},oc m ks j=none->∀p∈m,p.1≠ks
 |[],_,_,_,p,hp=>by simp at hp
 |q::r,ks,j,h,p,hp=>by
  simp only[oc]at h;split at h
  .cases h
  .rename_i hq;rcases aaA.1 hp with rfl|hp
   .exact hq
   .exact yP h p hp
section
variable {P:aav}{K n:Nat}
theorem zP:∀ {ks ls:List Int},ks.length=ls.length->Ib (ks.map (C.int .i64)) (ls.map (C.int .i64))=some (decide (ks=ls))
 |[],[],_=>rfl
 |a::r,b::r',h=>by
  simp only[aby,Ib];rw[zP (by simpa using h)];show some (cmp .eql a b&&decide (r=r'))=_
  congr 1
  by_cases h1:a=b<;>by_cases h2:r=r'<;>simp[cmp,h1,h2]
 |[],_::_,h=>by simp at h
 |_::_,[],h=>by simp at h
theorem AP(ks:List Int):((ks.map (C.int .i64)).map zv).toArray=(jd ks).toArray:=by
 simp[jd,zv]
theorem BP(hE:Eh P K n)(w:World){ks ls:List Int}(h1:ks.length=n)(h2:ls.length=n):(Op.equal K (Na ks) (Na ls)).run P w=.ok (decide (ks=ls)) w:=by
 have:=hE.2 w (ks.map (C.int .i64)) (ls.map (C.int .i64)) _ (zP (by omega)) (by simpa using h1);rw[AP,AP]at this;exact this
def Tb(n:Nat)(m:MP):Prop:=∀p∈m,p.1.length=n
theorem DP(hE:Eh P K n)(w:World){ks:List Int}(hk:ks.length=n):∀(m:MP) (j i:Nat),Tb n m ->
  (aco K (Na ks) (db j m) i).run P w=.ok ((oc m ks i).map λq=>(q.1,acS .i64 q.2)) w
 |[],j,i,_=>by simp[db,aco,oc]
 |p::r,j,i,hm=>by
  have h1:=BP hE w hk (hm p (by simp));simp only[db,aco,aaC,oc];show((Op.equal K (Na ks) (Na p.1)).run P w).andThen _=_;rw[h1,aat];by_cases e:p.1=ks
  .simp[e,gc]
  .have e':¬ ks=p.1:=λh=>e h.symm;simp only[e',decide_false,e,if_false,acd];exact DP hE w hk r (j+1) (i+1) (λq hq=>hm q (by simp[hq]))
theorem FP(hE:Eh P K n){fs:Array Field}(hu:P.underlying K=some (.struct fs))(w:World){ks:List Int}(hk:ks.length=n)(m:MP)(hm:Tb n m) :
  (Instr.findKey K (Na ks) (db 0 m)).run P w=.ok ((oc m ks 0).map λq=>(q.1,acS .i64 q.2)) w:=by
 unfold Instr.findKey;simp only[aaC,aaE hu,aat];cases m with
 |nil=>simp[db,acK,oc]
 |cons p r=>
  have:acK (.struct fs) (Na ks) (db 0 (p::r)) 0=none:=by simp[db,acK,Instr.sameNow]
  rw[this];exact DP hE w hk _ 0 0 hm
def GD(P:aav)(K n:Nat):Prop:=∀(b:Bool) (w:World) (ks:List Int),ks.length=n->(abe b 10000 K (Na ks)).run P w=.ok () w
theorem GP:∀(ks:List Int),(jd ks).zip (jd ks) |>.all (λ(x,y)=>acz 9999 x y)
 |[]=>rfl
 |a::r=>by
  simp only[jd,aby,List.zip_cons_cons,List.all_cons,aam];exact⟨by simp[acz],GP r⟩
theorem HP(w:World)(ks:List Int):(acT (Na ks) (Na ks)).run P w=.ok (Na ks) w:=by
 have:acz 10000 (Na ks) (Na ks)=true:=by
  show((jd ks).toArray.size == (jd ks).toArray.size&&_)=true;simp only[BEq.rfl,Bool.true_and];exact GP ks
 simp[acT,this]
structure ID(P:aav)(T K E n:Nat):Prop where
 u:P.underlying T=some (.map K E)
 k:∃fs,P.underlying K=some (.struct fs)
 eq:Eh P K n
 ck:GD P K n
 z:∀w,(zeroValue E).run P w=.ok (.int .i64 0) w
variable {T E:Nat} (M:ID P T K E n) {w:World}{r:Nat}{m:MP} (hr:w.heap[r]? = some (ya m)) (hm:Tb n m) {ks:List Int} (hk:ks.length=n)
include M hr
include hm hk
theorem Ys:(acp T (.map (some r)) (Na ks) false).run P w=.ok (.int .i64 (rb m ks)) w:=by
 obtain⟨fs,hu⟩:=M.k;have h1:=FP M.eq hu w hk m hm;have h2:∀b,(abe b 10000 K (Na ks)).run P w=.ok () w:=λb=>M.ck b w ks hk;have hg:(getObj r).run P w=.ok (ya m) w:=by simp[getObj,abt,hr,ya]
 unfold acp;simp only[aaC,aaE M.u,aat,hg];simp only[ya,aaC,aba,aat,h2,h1];unfold rb;cases hl:oc m ks 0 with
 |none=>simp[M.z w]
 |some q=>simp
theorem IP:(abY T (.map (some r)) (Na ks)).run P w=.ok (.tuple #[.int .i64 (rb m ks),goInt (stp m ks)]) (Dd w r (ya (Vc m ks))):=by
 obtain⟨fs,hu⟩:=M.k;have h1:=FP M.eq hu w hk m hm;have h2:∀b,(abe b 10000 K (Na ks)).run P w=.ok () w:=λb=>M.ck b w ks hk;have hg:(getObj r).run P w=.ok (ya m) w:=by simp[getObj,abt,hr,ya]
 have hs:∀o,(setObj r o).run P w=.ok () (Dd w r o):=λo=>by simp[setObj,abt,hr,ya,Dd]
 unfold abY;simp only[aaC,aaE M.u,aat,hg];simp only[ya,aaC,aat,h2,h1];unfold rb stp Vc;cases hl:oc m ks 0 with
 |none=>
  simp only[Option.map_none,aaC,M.z w,aat,hs,aba]
  have:ya (m++[(ks,0)])=.map ((db 0 m).toArray.push { key:=Na ks,val:=.int .i64 0,born:=m.length }) (m.length+1):=by
   unfold ya;rw[xP];simp[db,gc]
  rw[<-ya,this]
 |some q=>
  obtain⟨i,v⟩:=q;obtain⟨_,hi⟩:=Dn hl;rw[abC]at hi
  have he:(db 0 m).toArray[i]? = some (gc i (ks,v)):=by
   have:=Xs 0 m i;rw[hi]at this;simpa using this
  simp only[acZ,aaC,he,Option.getD_some];have ho:=HP (P:=P) w ks;have hj:(gc i (ks,v)).key=Na ks:=rfl;rw[hj,ho,aat]
  have hn:((db 0 m).toArray.modify i λe=>{ e with key:=Na ks })=(db 0 m).toArray:=by
   apply abM;apply acg;intro j;simp only[acN,acE];by_cases hij:i=j
   .subst hij;have hh:(db 0 m)[i]? = some (gc i (ks,v)):=by simpa using he
    simp[hh,gc]
   .simp[hij]
  rw[hn,hs,aat];simp[gc]
omit hm hk in
theorem JP{i:Nat}(hi:i<m.length)(v:Int):(abG T (.map (some r)) (goInt i) (.int .i64 v)).run P w=.ok () (Dd w r (ya (Nd m i v))):=by
 have _:=M;have hg:(getObj r).run P w=.ok (ya m) w:=by simp[getObj,abt,hr,ya]
 have hs:∀o,(setObj r o).run P w=.ok () (Dd w r o):=λo=>by simp[setObj,abt,hr,ya,Dd]
 have hj:∀(m:MP) (j i:Nat),i<m.length->(db j m).findIdx? (λe=>(e.born:Int) == ((j+i:Nat):Int))=some i:=by
  intro m
  induction m with
  |nil=>intro j i h;simp at h
  |cons p q ih=>
   intro j i h;cases i with
   |zero=>simp[db,gc,acU]
   |succ i=>
    have h2:=ih (j+1) i (by simpa using h);simp only[db,acU];rw[show j+(i+1)=j+1+i by omega]
    have hn:(((gc j p).born:Int) == ((j+1+i:Nat):Int))=false:=by
     have:((gc j p).born:Int)=(j:Int):=rfl;rw[this];simp;omega
    rw[hn,h2];rfl
 have hk:(db 0 m).toArray.findIdx? (λe=>(e.born:Int) == (i:Int))=some i:=by
  have:=hj m 0 i hi;simpa using this
 unfold abG;have hh:(asInt (goInt i)).run P w=.ok (i:Int) w:=by simp[asInt,asIntOf,goInt]
 simp only[aaC,hg,aat,ya,hh,hk,hs]
 have hm:((db 0 m).toArray.modify i λe=>{ e with val:=.int .i64 v })=(db 0 (Nd m i v)).toArray:=by
  have hl:∀(m:MP) (j i k:Nat),(db j (Nd m i v))[k]? = if i=k then((db j m)[k]?).map (λe=>{ e with val:=.int .i64 v }) else(db j m)[k]?:=by
   intro m
   induction m with
   |nil=>intro j i k;simp[Nd,db]
   |cons p q ih=>
    intro j i k;cases i with
    |zero=>cases k<;>simp[Nd,db,gc]
    |succ i=>
     cases k with
     |zero=>simp[Nd,db]
     |succ k=>
      simp only[Nd,db,aaH,ih (j+1) i k];simp
  apply abM;apply acg;intro k;simp only[acN,acE];rw[hl m 0 i k];by_cases h:i=k<;>simp[h]
 have hlen:∀(m:MP) (i:Nat),(Nd m i v).length=m.length:=by
  intro m
  induction m with
  |nil=>intro i;rfl
  |cons p q ih=>intro i;cases i<;>simp[Nd,ih]
 rw[hm,hlen]
end
def Qb(r:Nat)(m:MP)(S:List Nat):Obj:=.mapIter (some r) m.length S.toArray m.length
section
variable {P:aav}{w:World}{r it:Nat}{m:MP} (hr:w.heap[r]? = some (ya m)) {S:List Nat} (hit:w.heap[it]? = some (Qb r m S))
include hr hit
theorem OP(t:Nat):((∀i,i<m.length->i∈S)/\(abN (.pointer (some ⟨it,0,none⟩)) false t).run P w=.ok (.tuple #[.bool false]) w) \/
  ∃i p n,i ∉ S/\m[i]? = some p/\(abN (.pointer (some ⟨it,0,none⟩)) false t).run P w=.ok (.tuple #[.bool true,Na p.1,.int .i64 p.2]) (Dd { w with drawn:=n } it (Qb r m (S++[i]))):=by
 have hg:(getObj r).run P w=.ok (ya m) w:=by simp[getObj,abt,hr,ya]
 have hn:(getObj it).run P w=.ok (Qb r m S) w:=by simp[getObj,abt,hit,Qb]
 have hs:∀(n:Nat) o,(setObj it o).run P { w with drawn:=n }=.ok () (Dd { w with drawn:=n } it o):=λn o=>by simp[setObj,abt,hit,Qb,Dd]
 let L0:=(db 0 m).filter λe=>!S.toArray.contains e.born;have hh:(db 0 m).filter (λe=>!S.toArray.contains e.born)=L0:=rfl
 have hold:L0.filter (λe=>decide (e.born<m.length))=L0:=by
  apply List.filter_eq_self.2;intro e he;obtain⟨i,p,hp,rfl⟩:=FD (abj.1 he).1;have:=(aaO.1 hp).1;simp[gc,this]
 have hu:L0.filter (λe=>decide (e.born >= m.length))=[]:=by
  apply List.filter_eq_nil_iff.2;intro e he;obtain⟨i,p,hp,rfl⟩:=FD (abj.1 he).1;have:=(aaO.1 hp).1;simp[gc];omega
 have ho:(!S.toArray.isEmpty&&!(db 0 m).toArray.isEmpty&&(db 0 m).toArray.all (λe=>decide (e.born >= m.length)))=false:=by
  cases hm:m with
  |nil=>simp[db]
  |cons p q=>simp[db,gc]
 have hv:(abN (.pointer (some ⟨it,0,none⟩)) false t).run P w =
   (do let c <-choose (.mapNext ((if L0.isEmpty then #[none] else #[])++(L0.map some).toArray:Array (Option acq)).size)
       match(((if L0.isEmpty then #[none] else #[])++(L0.map some).toArray:Array (Option acq)))[c]? with
       |some (some e)=>do
        setObj it (.mapIter (some r) m.length (S.toArray.push e.born) m.length)
        pure (Value.tuple #[.bool true,e.key,e.val])
       |some none=>pure (.tuple #[.bool false])
       |none=>stuck "Next: no such candidate" : Sem Value).run P w:=by
  unfold abN;simp only[aaC,hn,aat,Qb,hg,ya,ho,acd,if_false];simp only[List.filter_toArray,hh,hold,hu,List.append_toArray,List.append_nil,List.map_toArray,List.isEmpty_toArray];rfl
 have ht:∀e∈L0,∃i p,m[i]? = some p/\e=gc i p/\i ∉ S:=by
  intro e he;obtain⟨h1,h2⟩:=abj.1 he;obtain⟨i,p,hp,rfl⟩:=FD h1;rw[aaw]at h2⊢;refine⟨i,p,hp,rfl,?_⟩;simpa [gc] using h2
 rw[hv];cases hL:L0 with
 |nil=>
  left;refine⟨λi hi=>?_,?_⟩
  .by_cases hiS:i∈S
   .exact hiS
   .exfalso
    have hq:gc i m[i]∈L0:=by
     refine abj.2 ⟨abb.2 ⟨i,by rw[Xs,aap hi];simp⟩,?_⟩;simp[gc,hiS]
    rw[hL]at hq;simp at hq
  .simp[choose,abt,Question.forced]
 |cons e0 l=>
  right
  have hj:∃c n,c<(e0::l).length/\∀(k:Nat->Sem Value),((choose (.mapNext (e0::l).length)) >>= k).run P w=(k c).run P { w with drawn:=n }:=by
   cases hf:(acX (e0::l).length).forced with
   |true=>exact⟨0,w.drawn,by simp,λk=>by show(if _ then _ else _)=_;rw[if_pos hf];rfl⟩
   |false=>
    refine⟨(acX (e0::l).length).cut (w.tape w.drawn (.mapNext (e0::l).length)),w.drawn+1,?_,λk=>by show(if _ then _ else _)=_;rw[if_neg (by rw[hf];simp)];rfl⟩;exact Nat.mod_lt _ (by simp)
  obtain⟨c,n,hc,hk⟩:=hj;obtain⟨i,p,hp,he,hi⟩:=ht ((e0::l)[c]) (by rw[hL];exact acm hc);refine⟨i,p,n,hi,hp,?_⟩;have hsz:((if(e0::l).isEmpty then #[none] else #[])++((e0::l).map some).toArray:Array (Option acq)).size=(e0::l).length:=by simp
  have hl:((if(e0::l).isEmpty then #[none] else #[])++((e0::l).map some).toArray:Array (Option acq))[c]? = some (some (gc i p)):=by
   rw[<-he];simp only[List.isEmpty_cons,acd,if_false,Array.empty_append,List.getElem?_toArray,ach,aap hc,acZ]
  rw[hsz,hk];simp only[hl,aaC,hs,aat,aba];simp[gc,Qb]
theorem PP{i:Nat}{p:List Int×Int}(hp:m[i]? = some p)(hS:∃S',S=S'++[i]):(acv (.pointer (some ⟨it,0,none⟩))).run P w=.ok (.tuple #[Na p.1,.int .i64 p.2]) w:=by
 obtain⟨S',rfl⟩:=hS;have hg:(getObj r).run P w=.ok (ya m) w:=by simp[getObj,abt,hr,ya]
 have hj:(getObj it).run P w=.ok (Qb r m (S'++[i])) w:=by simp[getObj,abt,hit,Qb]
 have hh:∀(m:MP) (j i:Nat),m[i]? = some p->(db j m).find? (λe=>e.born == j+i)=some (gc (j+i) p):=by
  intro m
  induction m with
  |nil=>intro j i h;simp at h
  |cons q r ih=>
   intro j i h;cases i with
   |zero=>simp at h;subst h;simp[db,gc]
   |succ i=>
    have h2:=ih (j+1) i (by simpa using h);simp only[db,List.find?_cons];rw[show j+(i+1)=j+1+i by omega]
    have hk:((gc j q).born == j+1+i)=false:=by
     show(j == j+1+i)=false;simp;omega
    rw[hk,h2]
 have hi:(db 0 m).toArray.find? (λe=>e.born == i)=some (gc i p):=by
  have:=hh m 0 i hp;simpa using this
 unfold acv;simp only[aaC,hj,aat,Qb];simp[hi,hg,ya,gc]
end
section
variable {P:aav}
def CkP(P:aav)(d t n:Nat):Prop:=∀(b:Bool) (w:World) (cs:List Int) (off:Nat),((cs.drop off).take n).length=n ->
 ∃x,(abd t (jd cs).toArray off).run P w=.ok x w/\(abe b d t x).run P w=.ok () w
theorem X1{d t:Nat}{k:IntKind}(hu:P.underlying t=some (.int k)):CkP P (d+1) t 1:=by
 intro b w cs hh hl;cases hc:cs.drop hh with
 |nil=>rw[hc]at hl;simp at hl
 |cons c cr=>
  have h1:cs[hh]? = some c:=by
   have:=abD (xs:=cs) (i:=hh) (j:=0);rw[hc]at this;simpa using this.symm
  refine⟨.int .i64 c,?_,?_⟩
  .simp[abd,abU,aaE hu,jd,h1]
  .simp[abe,aaE hu]
theorem QP{d:Nat}{sz:Nat->Option Nat}(hsz:∀t n,sz t=some n->CkP P d t n)(b:Bool)(w:World)(cs:List Int):∀ {fs:List Field}{o n:Nat},Yg sz fs o=some n->((cs.drop o).take (n - o)).length=n - o ->
  (forIn (m:=Sem) fs acF λf _=>(if f.name≠"_" then do abe b d f.type (<-abd f.type (jd cs).toArray f.offset);pure (ada acF) else pure (ada acF))).run P w=.ok acF w
 |[],o,n,_,_=>by simp
 |f::fs,o,n,h,hl=>by
  simp only[Yg]at h;split at h
  .rename_i k hc hk;simp only[aam,bne_iff_ne,ne_eq]at hc;have ho:=aan hc.1;have hi:=yD h
   have hj:∀l:List Int,(l.drop o).take (n - o)=(l.drop o).take k++(l.drop (o+k)).take (n - (o+k)):=λl=>by
    rw[show n - o=k+(n - (o+k)) by omega,List.take_add,List.drop_drop]
   rw[hj cs]at hl
   have hh:((cs.drop o).take k).length=k/\((cs.drop (o+k)).take (n - (o+k))).length=n - (o+k):=by
    rw[abh]at hl;have h1:((cs.drop o).take k).length<=k:=by simp;omega
    have h2:((cs.drop (o+k)).take (n - (o+k))).length<=n - (o+k):=by simp;omega
    omega
   obtain⟨x,p1,p2⟩:=hsz f.type k hk b w cs o hh.1;have ih:=QP hsz b w cs h hh.2;simp only[List.forIn_cons,aaC,ne_eq,hc.2,not_false_eq_true,if_true,ho,p1,p2,aat,aba];exact ih
  .cases h
theorem TP:∀(m t n d:Nat),Zg P m t=some n->CkP P (d+m) t n
 |0,_,_,_,h=>by simp[Zg]at h
 |m+1,t,n,d,h=>by
  simp only[Zg]at h;split at h
  .rename_i k i hu hi;simp only[aal]at h;subst h;exact X1 (d:=d+m) hu
  .rename_i fs i hu hi;split at h
   .rename_i n' hs hf;split at h
    .rename_i hn;simp only[aal]at h;subst h;have hn:=aan hn;intro b w cs hh hl
     have hex:((jd cs).toArray.extract hh (hh+n'))=(jd ((cs.drop hh).take n')).toArray:=by
      apply abM;simp[jd,List.map_drop,List.map_take]
     refine⟨.agg (jd ((cs.drop hh).take n')).toArray,?_,?_⟩
     .rw[<-hex];simp[abd,abU,aaE hu,sizeOf,acI,hi,hn]
     .have hk:=QP (λt n h=>TP m t n d h) b w ((cs.drop hh).take n') (fs:=fs.toList) hf (by rw[abC,abr,abV,acR];exact hl);rw[show d+(m+1)=(d+m)+1 from rfl];simp only[abe,aaC,aaE hu,aat];rw[<-Array.forIn_toList];rw[hk];rfl
    .cases h
   .cases h
  .cases h
theorem JD{K n:Nat}{fs:Array Field}(hu:P.underlying K=some (.struct fs)){i:TypeInfo}(hi:P.info? K=some i)(hin:i.size=n)(h:Zg P 9 K=some n):GD P K n:=by
 intro b w ks hk;obtain⟨x,p1,p2⟩:=TP 9 K n 9991 h b w ks 0 (by simp;omega)
 have hex:((jd ks).toArray.extract 0 n)=(jd ks).toArray:=by
  apply abM;simp[jd,abm (show(ks.map (acS .i64)).length<=n by simp;omega)]
 have hj:(abd K (jd ks).toArray 0).run P w=.ok (Na ks) w:=by
  have hh:Array.extract (jd ks).toArray 0 n=(jd ks).toArray:=hex;simp only[abd,abU,aaE hu,sizeOf,acI,hi,hin,aaC,aba,aat,aaw,if_true,run_program];simp[hh,Na]
 rw[hj]at p1;cases p1;exact p2
end
def stepM(m:MP)(q:List Int×Int):MP:=Nd (Vc m q.1) (stp m q.1) (ar .add .i64 (rb m q.1) q.2)
def bb(l:List (List Int×Int)):MP:=l.foldl stepM []
def oa(m:MP):List (List Int):=m.map (·.1)
theorem LD:∀(m:MP) (i:Nat) (v:Int),oa (Nd m i v)=oa m
 |[],_,_=>rfl
 |_::_,0,_=>rfl
 |p::r,i+1,v=>by
  have:=LD r i v;simp only[oa,Nd,aby]at this⊢;rw[this]
theorem Y1(m:MP)(ks:List Int):oa (Vc m ks)=if ks∈oa m then oa m else oa m++[ks]:=by
 unfold Vc;cases h:oc m ks 0 with
 |some q=>
  obtain⟨i,v⟩:=q;obtain⟨_,h2⟩:=Dn h;have:ks∈oa m:=aaP.2 ⟨_,abv h2,rfl⟩;simp[this]
 |none=>
  have h2:=yP h
  have:ks ∉ oa m:=λhm=>by
   obtain⟨p,hp,he⟩:=aaP.1 hm;exact h2 p hp he
  rw[if_neg this];simp[oa]
theorem Zs(m:MP)(q:List Int×Int):oa (stepM m q)=if q.1∈oa m then oa m else oa m++[q.1]:=by
 unfold stepM;rw[LD,Y1]
theorem PD{m:MP}(h:(oa m).Nodup)(q:List Int×Int):(oa (stepM m q)).Nodup:=by
 rw[Zs];split
 .exact h
 .rename_i hn;rw[List.nodup_append];exact⟨h,by simp,λa ha b hb e=>by simp at hb;subst hb;subst e;exact hn ha⟩
theorem En(l:List (List Int×Int)):(oa (bb l)).Nodup:=by
 unfold bb
 suffices ∀(l:List (List Int×Int)) (m:MP),(oa m).Nodup->(oa (l.foldl stepM m)).Nodup from this l [] (by simp[oa])
 intro l
 induction l with
 |nil=>exact λm h=>h
 |cons q r ih=>exact λm h=>ih _ (PD h q)
theorem Z1(p:List Int×Int)(m:MP)(ks:List Int)(j:Nat):oc (p::m) ks j=if p.1=ks then some (j,p.2) else oc m ks (j+1):=rfl
theorem VP:∀(m:MP) (ks:List Int) (j:Nat),oc m ks (j+1)=(oc m ks j).map λq=>(q.1+1,q.2)
 |[],_,_=>rfl
 |p::r,ks,j=>by
  simp only[oc];split
  .rfl
  .exact VP r ks (j+1)
theorem qg(p:List Int×Int)(m:MP)(ks:List Int):rb (p::m) ks=if p.1=ks then p.2 else rb m ks:=by
 unfold rb;rw[Z1,VP];by_cases h:p.1=ks
 .simp[h]
 .simp only[h,if_false];cases oc m ks 0<;>simp
theorem C2(m:MP)(ks ls:List Int):rb (m++[(ks,0)]) ls=rb m ls:=by
 induction m with
 |nil=>simp[rb,oc];split<;>simp_all
 |cons p r ih=>rw[List.cons_append,qg,qg,ih]
theorem WP(m:MP)(ks ls:List Int):rb (Vc m ks) ls=rb m ls:=by
 unfold Vc;split
 .rfl
 .exact C2 m ks ls
theorem aQ:∀ {m:MP}{i:Nat}{ks:List Int}{v0:Int} (v:Int),(oa m).Nodup->m[i]? = some (ks,v0)->∀ls,rb (Nd m i v) ls=if ls=ks then v else rb m ls
 |[],_,_,_,_,_,h,_=>by simp at h
 |p::r,0,ks,v0,v,_,h,ls=>by
  simp at h;subst h;simp only[Nd,qg];by_cases e:ks=ls
  .simp[e]
  .simp[e,Ne.symm e]
 |p::r,i+1,ks,v0,v,hn,h,ls=>by
  have h':r[i]? = some (ks,v0):=by simpa using h
  have hh:p.1 ∉ oa r/\(oa r).Nodup:=by simpa [oa] using hn
  have ih:=aQ v hh.2 h' ls;simp only[Nd,qg,ih];by_cases e:p.1=ls
  .have:ls≠ks:=λe2=>hh.1 (by rw[e,e2];exact aaP.2 ⟨_,abv h',rfl⟩);simp[e,this]
  .simp[e]
theorem bQ(m:MP)(ks:List Int):∃v0,(Vc m ks)[stp m ks]? = some (ks,v0):=by
 unfold Vc stp;cases h:oc m ks 0 with
 |some q=>
  obtain⟨i,v⟩:=q;obtain⟨_,h2⟩:=Dn h;exact⟨v,by simpa using h2⟩
 |none=>exact⟨0,by simp⟩
theorem D2{m:MP}(hn:(oa m).Nodup)(q:List Int×Int)(ls:List Int):rb (stepM m q) ls=if ls=q.1 then ar .add .i64 (rb m q.1) q.2 else rb m ls:=by
 obtain⟨v0,h⟩:=bQ m q.1
 have hh:(oa (Vc m q.1)).Nodup:=by
  have:=PD hn q;unfold stepM at this;rwa [LD]at this
 unfold stepM;rw[aQ _ hh h,WP]
theorem QD{m:MP}{ks:List Int}(h:ks ∉ oa m):rb m ks=0:=by
 unfold rb;cases hl:oc m ks 0 with
 |none=>rfl
 |some q=>
  obtain⟨i,v⟩:=q;obtain⟨_,h2⟩:=Dn hl;exact absurd (aaP.2 ⟨_,abv h2,rfl⟩) h
theorem bt{m:MP}(hn:(oa m).Nodup){p:List Int×Int}(h:p∈m):rb m p.1=p.2:=by
 induction m with
 |nil=>simp at h
 |cons q r ih=>
  rw[qg];have hh:q.1 ∉ oa r/\(oa r).Nodup:=by simpa [oa] using hn
  rcases aaA.1 h with rfl|h
  .simp
  .have:q.1≠p.1:=λe=>hh.1 (e▸aaP.2 ⟨p,h,rfl⟩);simp[this,ih hh.2 h]
def Ff(l:List (List Int×Int))(ks:List Int):Int:=l.foldl (λs q=>if q.1=ks then ar .add .i64 s q.2 else s) 0
theorem SD(l:List (List Int×Int))(ks:List Int):rb (bb l) ks=Ff l ks:=by
 unfold bb Ff
 suffices ∀(l:List (List Int×Int)) (m:MP),(oa m).Nodup->rb (l.foldl stepM m) ks=l.foldl (λs q=>if q.1=ks then ar .add .i64 s q.2 else s) (rb m ks) by
  have:=this l [] (by simp[oa]);simpa [rb,oc] using this
 intro l
 induction l with
 |nil=>exact λm _=>rfl
 |cons q r ih=>
  intro m hn;simp only[List.foldl_cons];rw[ih _ (PD hn q),D2 hn]
  congr 1
  by_cases h:q.1=ks
  .simp[h]
  .simp[h,Ne.symm h]
def ltK:List Int->List Int->Bool
 |a::r,b::r'=>decide (a<b)||(decide (a=b)&&ltK r r')
 |_,_=>false
theorem rg:∀a,ltK a a=false
 |[]=>rfl
 |a::r=>by simp[ltK,rg r]
theorem Gh:∀ {a b c:List Int},ltK a b=true->ltK b c=true->ltK a c=true
 |a::r,b::r',c::r'',h1,h2=>by
  simp only[ltK,aaF,aam,decide_eq_true_eq]at h1 h2⊢;rcases h1 with h1|⟨rfl,h1⟩<;>rcases h2 with h2|⟨rfl,h2⟩
  .left;omega
  .left;exact h1
  .left;exact h2
  .right;exact⟨rfl,Gh h1 h2⟩
 |[],_,_,h1,_=>by simp[ltK]at h1
 |_::_,[],_,h1,_=>by simp[ltK]at h1
 |_::_,_::_,[],_,h2=>by simp[ltK]at h2
theorem ct:∀ {a b:List Int},a.length=b.length->a≠b->ltK a b=true\/ltK b a=true
 |[],[],_,h=>absurd rfl h
 |a::r,b::r',hl,h=>by
  simp only[ltK,aaF,aam,decide_eq_true_eq];by_cases e:a=b
  .subst e;rcases ct (a:=r) (b:=r') (by simpa using hl) (λe=>h (by rw[e])) with h|h
   .exact .inl (.inr ⟨rfl,h⟩)
   .exact .inr (.inr ⟨rfl,h⟩)
  .rcases Int.lt_or_gt_of_ne e with h|h
   .exact .inl (.inl h)
   .exact .inr (.inl h)
 |[],_::_,hl,_=>by simp at hl
 |_::_,[],hl,_=>by simp at hl
def Lj(p:List Int×Int):MP->MP
 |[]=>[p]
 |q::r=>if ltK p.1 q.1 then p::q::r else q::Lj p r
def ql:MP->MP
 |[]=>[]
 |p::r=>Lj p (ql r)
theorem VD(p:List Int×Int):∀m:MP,(Lj p m).Perm (p::m)
 |[]=>.refl _
 |q::r=>by
  simp only[Lj];split
  .exact .refl _
  .exact ((VD p r).cons q).trans (.swap p q r)
theorem Gn:∀m:MP,(ql m).Perm m
 |[]=>.refl _
 |p::r=>(VD p (ql r)).trans ((Gn r).cons p)
abbrev Asc(m:MP):Prop:=m.Pairwise λp q=>ltK p.1 q.1=true
theorem cQ{n:Nat}{p:List Int×Int}:∀ {m:MP},Asc m->Tb n m->p.1.length=n->p.1 ∉ oa m->Asc (Lj p m)
 |[],_,_,_,_=>by simp[Lj]
 |q::r,h,hk,hp,hn=>by
  simp only[Lj];have h':=abk.1 h;split
  .rename_i hlt;refine abk.2 ⟨λs hs=>?_,h⟩;rcases aaA.1 hs with rfl|hs
   .exact hlt
   .exact Gh hlt (h'.1 s hs)
  .rename_i hlt;have hh:p.1≠q.1:=λe=>hn (by simp[oa,e]);have hi:ltK q.1 p.1=true:=(ct (by rw[hp,hk q (by simp)]) hh).elim (λh=>absurd h hlt) id;refine abk.2 ⟨λs hs=>?_,cQ h'.2 (λs hs=>hk s (by simp[hs])) hp (λhm=>hn (by simp only[oa,aby,aaA];exact .inr hm))⟩;rcases aaA.1 ((VD p r).mem_iff.1 hs) with rfl|hs
   .exact hi
   .exact h'.1 s hs
theorem et{n:Nat}:∀ {m:MP},(oa m).Nodup->Tb n m->Asc (ql m)
 |[],_,_=>by simp[ql]
 |p::r,hn,hk=>by
  have hn':p.1 ∉ oa r/\(oa r).Nodup:=by simpa [oa] using hn
  have hp:=Gn r;refine cQ (et hn'.2 (λs hs=>hk s (by simp[hs]))) (λs hs=>hk s (by simp[hp.mem_iff.1 hs])) (hk p (by simp)) (λhm=>hn'.1 ?_);obtain⟨s,hs,e⟩:=aaP.1 hm;exact aaP.2 ⟨s,hp.mem_iff.1 hs,e⟩
theorem XD:∀ {a b:MP},a.Perm b->Asc a->Asc b->a=b
 |[],b,hp,_,_=>(List.nil_perm.1 hp).symm
 |x::a,[],hp,_,_=>(List.perm_nil.1 hp)
 |x::a,y::b,hp,ha,hb=>by
  have ha':=abk.1 ha;have hh:=abk.1 hb
  have hi:x=y:=by
   rcases aaA.1 (hp.mem_iff.1 (abl ..)) with h|h
   .exact h
   .rcases aaA.1 (hp.mem_iff.2 (abl ..)) with h2|h2
    .exact h2.symm
    .have h3:=Gh (hh.1 x h) (ha'.1 y h2);rw[rg]at h3;cases h3
  subst hi;rw[XD (List.perm_cons x |>.1 hp) ha'.2 hh.2]
def Xc(l:List (List Int×Int)):MP:=ql ((bb l).filter λp=>p.2 != 0)
theorem Mj{n:Nat}{l:List (List Int×Int)}(hk:Tb n l):Asc (Xc l):=by
 have hh:Tb n (bb l):=by
  have key:∀(l:List (List Int×Int)) (m:MP),Tb n l->(∀k∈oa m,k.length=n)->∀k∈oa (l.foldl stepM m),k.length=n:=by
   intro l
   induction l with
   |nil=>exact λm _ h=>h
   |cons q r ih=>
    intro m hl hm;refine ih _ (λp hp=>hl p (by simp[hp])) (λk hk=>?_);rw[Zs]at hk;split at hk
    .exact hm k hk
    .rcases aaX.1 hk with hk|hk
     .exact hm k hk
     .simp at hk;subst hk;exact hl q (by simp)
  intro p hp;exact key l [] hk (by simp[oa]) p.1 (aaP.2 ⟨p,hp,rfl⟩)
 refine et (n:=n) ?_ (λp hp=>hh p (abj.1 hp).1);exact(En l).sublist (List.Sublist.map _ List.filter_sublist)
theorem Gf{l:List (List Int×Int)}{p:List Int×Int}:p∈Xc l↔p.2=Ff l p.1/\p.2≠0:=by
 unfold Xc;rw[(Gn _).mem_iff,abj];constructor
 .rintro⟨h1,h2⟩;exact⟨by rw[<-SD,bt (En l) h1],by simpa using h2⟩
 .rintro⟨h1,h2⟩;refine⟨?_,by simpa using h2⟩;by_cases hm:p.1∈oa (bb l)
  .obtain⟨q,hq,e⟩:=aaP.1 hm;have:=bt (En l) hq;rw[SD,e,<-h1]at this;have:q=p:=Prod.ext e this.symm;rwa [this]at hq
  .exact absurd (by rw[h1,<-SD,QD hm]) h2
def opsOf:Code->Array Oper
 |.region _ ops _=>ops
 |_=>#[]
def ah:Code->Nat
 |.region i _ _=>i
 |_=>0
def opN(ops:Array Oper)(i:Nat):Oper:=(ops[i]?).getD default
def Hh(o:Oper)(j:Nat):Bool:=o.after.toList.any λe=>aau e.on j&&aay .any e
theorem rl{o:Oper}{L:Nat->Bool}(h:∀e∈o.after,aay .any e=true->L e.on=true){j:Nat}(hj:Hh o j=true):L j=true:=by
 unfold Hh at hj;rw[List.any_eq_true]at hj;obtain⟨e,he,hb⟩:=hj;simp only[aam]at hb;have:=h e (by simpa using he) hb.2;rwa [aan hb.1]at this
theorem tl{ops:Array Oper}{i:Nat}{o:Oper}(h:ops[i]? = some o):opN ops i=o:=by
 unfold opN;rw[h];rfl
section
variable {P:aav}{a:Act}{w:World}{o:Oper}
theorem ze{o:Oper}{s:Sem Value}{v:Value}{w':World}(h:execOp a.eval o=(do pure (.value (<-s))))(hr:s.run P w=.ok v w'):(execOp a.eval o).run P w=.ok (.value v) w':=by
 rw[h];simp[hr]
theorem dQ{o:Oper}{s:Sem Unit}{w':World}(h:execOp a.eval o=(do s;pure .skip))(hr:s.run P w=.ok () w'):(execOp a.eval o).run P w=.ok .skip w':=by
 rw[h];simp[hr]
theorem cf{s:Nat}(hop:o.op=.move (.tmp s)):(execOp a.eval o).run P w=.ok (.value (a.tmps.getD s undef)) w:=by
 obtain⟨hh,op,ty,pos,aft,gd⟩:=o;simp only[]at hop;subst hop;simp[execOp,acY]
theorem ft{s:Nat}(hop:o.op=.assign (.tmp s)):(execOp a.eval o).run P w=.ok (.value (a.tmps.getD s undef)) w:=by
 obtain⟨hh,op,ty,pos,aft,gd⟩:=o;simp only[]at hop;subst hop;simp[execOp,acY]
theorem YD{t:Nat}(hop:o.op=.makeMap t none):(execOp a.eval o).run P w=.ok (.value (.map (some w.heap.size))) (w.alloc (.map #[] 0)):=by
 obtain⟨hh,op,ty,pos,aft,gd⟩:=o;simp only[]at hop;subst hop;exact ze (s:=Instr.makeMap t none) rfl rfl
theorem jt{t x k:Nat}(hop:o.op=.lookup t (.tmp x) (.tmp k) false){v:Value}(h:(acp t (a.tmps.getD x undef) (a.tmps.getD k undef) false).run P w=.ok v w):(execOp a.eval o).run P w=.ok (.value v) w:=by
 obtain⟨hh,op,ty,pos,aft,gd⟩:=o;simp only[]at hop;subst hop;exact ze (s:=acp t (a.tmps.getD x undef) (a.tmps.getD k undef) false) rfl h
theorem eQ{t x k:Nat}(hop:o.op=.mapEntry t (.tmp x) (.tmp k)){v:Value}{w':World}(h:(abY t (a.tmps.getD x undef) (a.tmps.getD k undef)).run P w=.ok v w'):(execOp a.eval o).run P w=.ok (.value v) w':=by
 obtain⟨hh,op,ty,pos,aft,gd⟩:=o;simp only[]at hop;subst hop;exact ze (s:=abY t (a.tmps.getD x undef) (a.tmps.getD k undef)) rfl h
theorem fQ{t x k v:Nat}(hop:o.op=.entryStore t (.tmp x) (.tmp k) (.tmp v)){w':World}(h:(abG t (a.tmps.getD x undef) (a.tmps.getD k undef) (a.tmps.getD v undef)).run P w=.ok () w'):(execOp a.eval o).run P w=.ok .skip w':=by
 obtain⟨hh,op,ty,pos,aft,gd⟩:=o;simp only[]at hop;subst hop;exact dQ (s:=abG t (a.tmps.getD x undef) (a.tmps.getD k undef) (a.tmps.getD v undef)) rfl h
theorem gQ{t x:Nat}(hop:o.op=.range t (.tmp x)){v:Value}{w':World}(h:(acw t (a.tmps.getD x undef)).run P w=.ok v w'):(execOp a.eval o).run P w=.ok (.value v) w':=by
 obtain⟨hh,op,ty,pos,aft,gd⟩:=o;simp only[]at hop;subst hop;exact ze (s:=acw t (a.tmps.getD x undef)) rfl h
theorem kt{x:Nat}(hop:o.op=.next (.tmp x) false){v:Value}{w':World}(h:(abN (a.tmps.getD x undef) false o.type).run P w=.ok v w'):(execOp a.eval o).run P w=.ok (.value v) w':=by
 obtain⟨hh,op,ty,pos,aft,gd⟩:=o;simp only[]at hop h;subst hop;exact ze (s:=abN (a.tmps.getD x undef) false ty) rfl h
theorem iQ{x:Nat}(hop:o.op=.entry (.tmp x)){v:Value}{w':World}(h:(acv (a.tmps.getD x undef)).run P w=.ok v w'):(execOp a.eval o).run P w=.ok (.value v) w':=by
 obtain⟨hh,op,ty,pos,aft,gd⟩:=o;simp only[]at hop;subst hop;exact ze (s:=acv (a.tmps.getD x undef)) rfl h
theorem bh{x i:Nat}(hop:o.op=.extract (.tmp x) i){vs:Array Value}{v:Value}(hx:a.tmps.getD x undef=.tuple vs)(h:vs[i]? = some v):(execOp a.eval o).run P w=.ok (.value v) w:=by
 obtain⟨hh,op,ty,pos,aft,gd⟩:=o;simp only[]at hop;subst hop;exact ze (s:=Instr.extract (a.tmps.getD x undef) i) rfl (by rw[hx];simp[Instr.extract,h])
theorem H2{t:Nat}{d:TD}(hd:Sb P t d){fs:List (Nat×Nat)}(hs:d.sh=.struct fs){i o n:Nat}(hi:fs[i]? = some (o,n))(b p:Nat):(acL t (.pointer (some ⟨b,p,none⟩)) i).run P w=.ok (.pointer (some ⟨b,p+o,none⟩)) w:=by
 obtain⟨u,hu,hh⟩:=hd.und;rw[hs]at hh;obtain⟨fields,rfl,hf⟩:=hh;obtain⟨f,hj,hm,hl,ho⟩:=DO hf hi;have hk:fields[i]? = some f:=by rw[<-aar];exact hj
 have hsz:=IC (P:=P) hl ho w;have hn:¬ n=0:=by omega
 simp[acL,aaE hu,hk,abS,fieldPlace,hsz,hn,addr_add,hm]
theorem Fi{t x i:Nat}(hop:o.op=.fieldAddr t (.tmp x) i){b c:Nat}(hx:a.tmps.getD x undef=.pointer (some ⟨b,c,none⟩)){d:TD}(hd:Sb P t d){fs:List (Nat×Nat)}(hs:d.sh=.struct fs){k n:Nat}(hi:fs[i]? = some (k,n)) :
  (execOp a.eval o).run P w=.ok (.value (.pointer (some ⟨b,c+k,none⟩))) w:=by
 obtain⟨hh,op,ty,pos,aft,gd⟩:=o;simp only[]at hop;subst hop;exact ze (s:=acL t (a.tmps.getD x undef) i) rfl (by rw[hx];exact H2 hd hs hi b c)
theorem sg{t x:Nat}(hop:o.op=.load t (.tmp x)){b c:Nat}(hx:a.tmps.getD x undef=.pointer (some ⟨b,c,none⟩)){d:TD}(hd:Sb P t d)(ha:isAgg d=false){u:Value}(hu:w.cell? ⟨b,c,none⟩=some u) :
  (execOp a.eval o).run P w=.ok (.value u) w:=by
 obtain⟨hh,op,ty,pos,aft,gd⟩:=o;simp only[]at hop;subst hop;have hl:=ln hd ha (w:=w) hu;exact ze (s:=abL t (a.tmps.getD x undef)) rfl (by rw[hx];exact hl)
theorem jQ{t x y u:Nat}(hop:o.op=.binOp .add t (.tmp x) (.tmp y) u){m n:Int}(hx:a.tmps.getD x undef=.int .i64 m)(hy:a.tmps.getD y undef=.int .i64 n):(execOp a.eval o).run P w=.ok (.value (.int .i64 (ar .add .i64 m n))) w:=by
 obtain⟨hh,op,ty,pos,aft,gd⟩:=o;simp only[]at hop;subst hop;have hi:a.eval (.tmp x)=.int .i64 m:=hx;have hj:a.eval (.tmp y)=.int .i64 n:=hy;simp only[execOp,hi,hj];simp[eqGuard,binOp,Op.intArith,ar]
theorem kQ{t x:Nat}(hop:o.op=.makeInterface t (.tmp x)){e:Nat}(hu:P.underlying t=some (.slice e)):(execOp a.eval o).run P w=.ok (.value (.iface t (a.tmps.getD x undef))) w:=by
 obtain⟨hh,op,ty,pos,aft,gd⟩:=o;simp only[]at hop;subst hop;exact ze (s:=acO t (a.tmps.getD x undef)) rfl (by simp[acO,aaE hu])
theorem lQ{f:Fn}{x:Nat}(hop:o.op=.makeFunc f #[] #[.tmp x]):(execOp a.eval o).run P w=.ok (.value (.func f #[] #[a.tmps.getD x undef])) w:=by
 obtain⟨hh,op,ty,pos,aft,gd⟩:=o;simp only[]at hop;subst hop;exact ze (s:=Instr.makeFunc f #[] #[a.tmps.getD x undef]) (by simp[execOp,acY]) rfl
theorem mQ{t:Nat}{ps:Array (Nat×abJ)}(hop:o.op=.build t ps){v:Value}(h:(Instr.build t (ps.map λp=>(p.1,a.eval p.2))).run P w=.ok v w):(execOp a.eval o).run P w=.ok (.value v) w:=by
 obtain⟨hh,op,ty,pos,aft,gd⟩:=o;simp only[]at hop;subst hop;exact ze (s:=Instr.build t (ps.map λp=>(p.1,a.eval p.2))) rfl h
theorem nQ{T K E:Nat}(hu:P.underlying T=some (.map K E)){r:Nat}{m:MP}(hr:w.heap[r]? = some (ya m)):(acw T (.map (some r))).run P w=.ok (.pointer (some ⟨w.heap.size,0,none⟩)) (w.alloc (Qb r m [])):=by
 have hg:(getObj r).run P w=.ok (ya m) w:=by simp[getObj,abt,hr,ya]
 unfold acw;simp only[aaC,aaE hu,aat,hg,ya];rfl
theorem Xa{o:Oper}{v:Value}{w':World}{next:Act->World->Prop}{Q:Exit->Act->World->Prop}(h:(execOp a.eval o).run P w=.ok (.value v) w')(hn:next (a.put o.dst v) w'):o.wp P a w next Q:=by
 unfold Oper.wp;rw[h,Oper.upon_value];exact hn
theorem Nj{o:Oper}{w':World}{next:Act->World->Prop}{Q:Exit->Act->World->Prop}(h:(execOp a.eval o).run P w=.ok .skip w')(hn:next (a.put o.dst undef) w'):o.wp P a w next Q:=by
 unfold Oper.wp;rw[h,Oper.upon_skip];exact hn
end
section
variable {P:aav}{N:NP}{B:Nat}{IoB:List Nat}{W0:World}{F0:Fz}{obs:List (Nat×Obj)}{e:Env}{a:Act}{w:World}{Q:Exit->Act->World->Prop}
theorem dh{c c1 c2:Code}(hc:c=.seq c1 c2)(h:c1.wp P (Exit.then (c2.wp P Q) Q) a w):c.wp P Q a w:=by subst hc;exact wp_seq h
theorem Vf{c c1:Code}{id:Nat}(hc:c=.block id c1)(h:c1.wp P (acQ id Q) a w):c.wp P Q a w:=by subst hc;exact wp_block h
theorem Kc{c:Code}(hc:c=.region (ah c) (opsOf c) false){l:List Nat}(hl:acG (opsOf c).size=l)(h:wpOps P (opsOf c) Q l a w):c.wp P Q a w:=by
 rw[hc];exact wp_region (by rw[hl];exact h)
theorem I2{c c1 c2:Code}{o:abJ}(hc:c=.cond o c1 c2){t:Bool}(hv:a.eval o=.bool t)(h1:t=true->c1.wp P Q a w)(h2:t=false->c2.wp P Q a w):c.wp P Q a w:=by
 subst hc;exact wp_cond_split hv h1 h2
theorem wpS{C:Code}{p:List Nat}(h:(nav C (p++[0])).wp P (Exit.then ((nav C (p++[1])).wp P Q) Q) a w)(hc:nav C p=.seq (nav C (p++[0])) (nav C (p++[1])):=by kernel_rfl):(nav C p).wp P Q a w:=dh hc h
theorem wpC{C:Code}{p:List Nat}{o:abJ}{t:Bool}(hv:a.eval o=.bool t)(h1:t=true->(nav C (p++[0])).wp P Q a w)(h2:t=false->(nav C (p++[1])).wp P Q a w)(hc:nav C p=.cond o (nav C (p++[0])) (nav C (p++[1])):=by kernel_rfl):(nav C p).wp P Q a w:=I2 hc hv h1 h2
theorem wpB{C:Code}{p:List Nat}{id:Nat}(h:(nav C (p++[0])).wp P (acQ id Q) a w)(hc:nav C p=.block id (nav C (p++[0])):=by kernel_rfl):(nav C p).wp P Q a w:=Vf hc h
theorem Ed{c:Code}(hc:c=.skip)(h:Q .normal a w):c.wp P Q a w:=by subst hc;exact wp_skip h
theorem Wf{c:Code}{i:Nat}(hc:c=.exit i)(h:Q (.exit i) a w):c.wp P Q a w:=by subst hc;exact wp_exit h
theorem Ih{c:Code}(hc:c=.ret)(h:Q .ret a w):c.wp P Q a w:=by subst hc;exact wp_ret h
theorem MS.regC{tt:TT}{sp:SP}(G:Good P tt sp){c:Code}{keep:List Nat}{e':Env}{ps:List Prop}(hc:Go.Proofs.YteogppapbognjaaGreatDoor.regC tt sp N keep c e=some (e',ps))(ho:ga ps)(hs:MS N B IoB W0 F0 obs e a w)
  (hQ:∀a w,MS N B IoB W0 F0 obs e' a w->Q .normal a w):c.wp P Q a w:=by
 unfold Go.Proofs.YteogppapbognjaaGreatDoor.regC at hc;split at hc
 .split at hc
  .rename_i hok;exact hs.reg G hok hc ho hQ
  .cases hc
 .cases hc
theorem MS.regD{tt:TT}{sp:SP}(G:Good P tt sp){c:Code}{keep:List Nat}{e':Env}{ps:List Prop}(hs:MS N B IoB W0 F0 obs e a w)
 (hQ:∀a w,MS N B IoB W0 F0 obs e' a w->Q .normal a w) (hc:Go.Proofs.YteogppapbognjaaGreatDoor.regC tt sp N keep c e=some (e',ps):=by kernel_rfl) (ho:ga ps:=by exact trivial):c.wp P Q a w:=MS.regC G hc ho hs hQ
theorem MS.weak{e':Env}(h:wa e e')(hs:MS N B IoB W0 F0 obs e a w):MS N B IoB W0 F0 obs e' a w:=⟨h _ _ _ _ _ _ _ hs.sim,hs.kept,hs.ob,hs.hB⟩
theorem MS.k(hs:MS N B IoB W0 F0 obs e a w){s:Nat}{v:Value}(h:(s,v)∈N.k):a.tmps.getD s undef=v:=hs.sim.tmps.kp _ h
theorem MS.o(hs:MS N B IoB W0 F0 obs e a w){r:Nat}{o:Obj}(h:(r,o)∈obs):w.heap[r]? = some o:=(hs.ob _ h).1
theorem MS.tmps(hs:MS N B [] W0 F0 obs e a w){D:List Nat}(hfl:Ie e=true)(hd:∀d∈D,Ga (da e d)=true/\Rg d N.k=true)(hr:N.r=none){a':Act}(hdf:a'.defers=[])(hsz:a'.tmps.size=a.tmps.size)
  (heq:∀n,n ∉ D->a'.tmps.getD n undef=a.tmps.getD n undef):MS N B [] W0 F0 obs e a' w:=by
 obtain⟨F,ow,hx⟩:=hs.sim.rep;refine⟨⟨hdf,⟨hsz.trans hs.sim.tmps.size,(λs h=>by rw[hr]at h;cases h),λp hp=>?_⟩,hs.sim.base,hs.sim.f0,hs.sim.kept,F,ow,⟨hx.sub,hx.new,hx.live,hx.inj,λs i b h=>?_,λn=>?_⟩⟩,hs.kept,hs.ob,hs.hB⟩
 .rw[heq p.1 (λh=>AC (hd p.1 h).2 p hp rfl)];exact hs.sim.tmps.kp p hp
 .have:=hx.bd s i b h;exact⟨this.1,this.2.elim .inl (λh=>by simp at h)⟩
 .have h1:=hx.sr n;by_cases hn:n∈D
  .have h2:=(hd n hn).1;cases hg:da e n with
   |dead=>trivial
   |_=>rw[hg]at h2;simp[Ga]at h2
  .have hf:=kl hfl n;rw[Ze hf]at h1⊢;simp only[heq n hn];exact h1
def oQ(tt:TT)(sp:SP)(dsts:List (Option Nat))(keep:List Nat)(l:List Oper)(e:Env):Option (Env×List Prop):=
 match runF tt sp dsts l e with
 |some (e2,q)=>some (mask (clean (settle keep keep e2)) keep,q)
 |none=>none
def qt(N:NP)(ops:Array Oper):Nat->List Oper->Bool
 |_,[]=>true
 |i,o::r=>o.guard.isNone&&(Sf N [o]&&qt N ops (i+1) r)
theorem MS.runF{tt:TT}{sp:SP}(G:Good P tt sp){ops:Array Oper}:∀ {l:List Oper}{i:Nat}{e e2:Env}{ps:List Prop}{a:Act}{w:World},(∀j o,l[j]? = some o->ops[i+j]? = some o)->qt N ops i l=true ->
  aaY tt sp (ops.toList.map (·.dst)) l e=some (e2,ps)->ga ps->MS N B IoB W0 F0 obs e a w->(∀a w,MS N B IoB W0 F0 obs e2 a w->Q .normal a w)->wpOps P ops Q (act i l.length) a w
 |[],i,e,e2,ps,a,w,_,_,hr,_,hs,hQ=>by
  simp only[aaY,aal,aaD]at hr;obtain⟨rfl,rfl⟩:=hr;exact hQ a w hs
 |o::r,i,e,e2,ps,a,w,hl,hk,hr,ho,hs,hQ=>by
  simp only[aaY]at hr;split at hr
  .rename_i e1 p h1;split at hr
   .rename_i e2' q h2;simp only[aal,aaD]at hr;obtain⟨rfl,rfl⟩:=hr;simp only[qt,aam]at hk;have hh:=ho.all
    have hp:ga p:=by
     have:∀ {l:List Prop},(∀x∈l,x)->ga l:=by
      intro l
      induction l with
      |nil=>exact λ_=>trivial
      |cons x l ih=>exact λh=>⟨h x (by simp),ih (λy hy=>h y (by simp[hy]))⟩
     exact this (λx hx=>hh x (acD _ hx))
    have hq:ga q:=by
     have:∀ {l:List Prop},(∀x∈l,x)->ga l:=by
      intro l
      induction l with
      |nil=>exact λ_=>trivial
      |cons x l ih=>exact λh=>⟨h x (by simp),ih (λy hy=>h y (by simp[hy]))⟩
     exact this (λx hx=>hh x (acx _ hx))
    have hi:o.guard=none:=by cases h:o.guard<;>simp_all
    rw[abF,List.range'_succ,aaQ];refine va (by simpa using hl 0 o rfl) hi ?_;refine hs.stepF G hi h1 hp (λd hd=>Dj hk.2.1 0 o rfl d hd) (λa' w' hs'=>?_);exact MS.runF G (i:=i+1) (λj o' hj=>by rw[show i+1+j=i+(j+1) by omega];exact hl (j+1) o' (by simpa using hj)) hk.2.2 h2 hq hs' hQ
   .cases hr
  .cases hr
theorem MS.suf{tt:TT}{sp:SP}(G:Good P tt sp){ops:Array Oper}{l:List Oper}{i:Nat}{keep:List Nat}{e e':Env}{ps:List Prop}{a:Act}{w:World}(hl:∀j o,l[j]? = some o->ops[i+j]? = some o)(hk:qt N ops i l=true)
  (hr:oQ tt sp (ops.toList.map (·.dst)) keep l e=some (e',ps)) (ho:ga ps) (hs:MS N B IoB W0 F0 obs e a w) (hQ:∀a w,MS N B IoB W0 F0 obs e' a w->Q .normal a w):wpOps P ops Q (act i l.length) a w:=by
 unfold oQ at hr;split at hr
 .rename_i e2 q h2;simp only[aal,aaD]at hr;obtain⟨rfl,rfl⟩:=hr;exact MS.runF G hl hk h2 ho hs (λa w h=>hQ a w (h.of_sim (h.sim.settle.cleanMask keep)))
 .cases hr
theorem xc(ops:Array Oper)(h:Q .normal a w):wpOps P ops Q [] a w:=h
end
def ul(L:List Bool):List Edge->Bool
 |[]=>true
 |e::r=>(!Region.binds .any e||L.getD e.on false)&&ul L r
def yc(L:List Bool):List Oper->Nat->List Nat
 |[],_=>[]
 |o::r,i=>match !L.getD i true&&ul L o.after.toList with
  |true=>i::yc L r (i+1)
  |false=>yc L r (i+1)
def Jn{α:Type}(f:Nat->List α):List Nat->List α
 |[]=>[]
 |i::r=>f i++Jn f r
def tg(i:Nat)(p:List Prop):List (Nat×List Prop)->List (Nat×List Prop)
 |[]=>[(i,p)]
 |(j,q)::r=>match abT i j with
  |true=>(i,p)::(j,q)::r
  |false=>(j,q)::tg i p r
def Ae:List (Nat×List Prop)->List Prop
 |[]=>[]
 |(_,p)::r=>p++Ae r
theorem vl{x:Prop}{i:Nat}{p:List Prop}:∀ {l:List (Nat×List Prop)},x∈p\/x∈Ae l->x∈Ae (tg i p l)
 |[],h=>by simp[tg,Ae]at h⊢;exact h
 |(j,q)::r,h=>by
  simp only[tg];split
  .simpa [Ae] using h
  .simp only[Ae,aaX]at h⊢;rcases h with h|h|h
   .exact .inr (vl (.inl h))
   .exact .inl h
   .exact .inr (vl (.inr h))
def Hf(tt:TT)(sp:SP)(keep:List Nat)(ds:List (Option Nat))(all:List Oper):Nat->List Bool->List (Nat×List Prop)->Env->List (Option (Env×List Prop))
 |0,L,pre,e=>match yc L all 0 with
  |[]=>[some (mask (clean (settle keep keep e)) keep,Ae pre)]
  |_=>[none]
 |fuel+1,L,pre,e=>match yc L all 0 with
  |[]=>[some (mask (clean (settle keep keep e)) keep,Ae pre)]
  |i::r=>Jn (λi=>match all[i]? with
   |some o=>match stepF tt sp ds e o with
    |some (e1,p)=>Hf tt sp keep ds all fuel (L.set i true) (tg i p pre) e1
    |none=>[none]
   |none=>[none]) (i::r)
theorem cE{L:List Bool}:∀ {l:List Edge},ul L l=true↔∀e∈l,aay .any e=true->L.getD e.on false=true
 |[]=>by simp[ul]
 |e::r=>by
  rw[ul,aam,cE];simp only[aaA,forall_eq_or_imp,aaF,aaM];refine and_congr ⟨λh hb=>h.resolve_left (by rw[hb];simp),λh=>?_⟩ Iff.rfl;cases hb:aay .any e with
  |true=>exact .inr (h hb)
  |false=>exact .inl rfl
theorem Nn{L:List Bool}{j:Nat}:∀ {l:List Oper}{i:Nat},j∈yc L l i↔∃k o,j=i+k/\l[k]? = some o/\L.getD j true=false/\∀e∈o.after.toList,aay .any e=true->L.getD e.on false=true
 |[],i=>by simp[yc]
 |o::r,i=>by
  have ih:=Nn (L:=L) (j:=j) (l:=r) (i:=i+1)
  have hh:(∃k o',j=i+k/\(o::r)[k]? = some o'/\L.getD j true=false/\∀e∈o'.after.toList,aay .any e=true->L.getD e.on false=true) ↔
    (j=i/\L.getD j true=false/\∀e∈o.after.toList,aay .any e=true->L.getD e.on false=true)\/j∈yc L r (i+1):=by
   rw[ih];constructor
   .rintro⟨k,o',h1,h2,h3⟩;cases k with
    |zero=>simp at h2;subst h2;exact .inl ⟨h1,h3⟩
    |succ k=>exact .inr ⟨k,o',by omega,by simpa using h2,h3⟩
   .rintro (⟨h1,h3⟩|⟨k,o',h1,h2,h3⟩)
    .exact⟨0,o,h1,rfl,h3⟩
    .exact⟨k+1,o',by omega,by simpa using h2,h3⟩
  rw[hh];simp only[yc];split
  .rename_i hb;rw[aam,aaM,cE]at hb;rw[aaA];refine or_congr ⟨λh=>⟨h,by rw[h];exact hb⟩,λh=>h.1⟩ Iff.rfl
  .rename_i hb;refine⟨.inr,λh=>h.resolve_left λ⟨h1,h2⟩=>?_⟩
   have:(!L.getD i true&&ul L o.after.toList)=true:=by
    rw[aam,aaM,cE,<-h1];exact h2
   rw[hb]at this;cases this
theorem tQ{α:Type}{f:Nat->List α}{x:α}:∀ {l:List Nat}{i:Nat},i∈l->x∈f i->x∈Jn f l
 |a::r,i,hi,hx=>by
  rw[Jn,aaX];rcases aaA.1 hi with rfl|hi
  .exact .inl hx
  .exact .inr (tQ hi hx)
section
variable {P:aav}{tt:TT}{sp:SP}{B:Nat}{IoB:List Nat}{F0:Fz}{N:NP}{W0:World}
theorem dE{keep:List Nat}{ds:List (Option Nat)}{all:List Oper}:∀ {fuel:Nat}{L:List Bool}{pre:List (Nat×List Prop)}{e:Env},∃r∈Hf tt sp keep ds all fuel L pre e,∀e1 q,r=some (e1,q)->∀x∈Ae pre,x∈q
 |0,L,pre,e=>by
  simp only[Hf];split
  .exact⟨_,aaZ _,λe1 q h x hx=>by cases h;exact hx⟩
  .exact⟨none,by simp,λe1 q h=>by cases h⟩
 |fuel+1,L,pre,e=>by
  simp only[Hf];split
  .exact⟨_,aaZ _,λe1 q h x hx=>by cases h;exact hx⟩
  .rename_i i r _
   have key:∃y∈(match all[i]? with
     |some o=>match stepF tt sp ds e o with
      |some (e1,p)=>Hf tt sp keep ds all fuel (L.set i true) (tg i p pre) e1
      |none=>[none]
     |none=>[none]),∀e1 q,y=some (e1,q)->∀x∈Ae pre,x∈q:=by
    split
    .split
     .rename_i e1 p _;obtain⟨y,h1,h2⟩:=dE (keep:=keep) (ds:=ds) (all:=all) (fuel:=fuel) (L:=L.set i true) (pre:=tg i p pre) (e:=e1);exact⟨y,h1,λe2 q h x hx=>h2 e2 q h x (vl (.inr hx))⟩
     .exact⟨none,by simp,λe1 q h=>by cases h⟩
    .exact⟨none,by simp,λe1 q h=>by cases h⟩
   obtain⟨y,h1,h2⟩:=key;exact⟨y,by rw[Jn,aaX];exact .inl h1,h2⟩
theorem uQ(htt:dc P tt)(hsp:∀f s,spk sp f=some s->Con P f s){ops:Array Oper}(hdst:Sf N ops.toList=true){keep:List Nat}{e':Env}{ps:List Prop}(hps:∀p∈ps,p)
  {Q:Exit->Act->World->Prop} (hQ:∀a w,Sim N B IoB W0 F0 e' a w->Q .normal a w) :
  ∀ (fuel:Nat) (listed:Array Bool) (pre:List (Nat×List Prop)) (e:Env) (a:Act) (w:World),(∀r∈Hf tt sp keep (ops.toList.map (·.dst)) ops.toList fuel listed.toList pre e,r=some (e',ps)) ->
    Sim N B IoB W0 F0 e a w->wpAny P .any ops Q fuel listed a w:=by
 have hk:∀(listed:Array Bool) j,j∈yc listed.toList ops.toList 0↔j∈aaI .any ops listed:=by
  intro listed j;rw[Nn,mem_ready]
  have hL:∀k b,listed.toList.getD k b=listed.getD k b:=λk b=>by
   rw[aaq,aao,aar]
  simp only[hL];constructor
  .rintro⟨k,o,h1,h2,h3,h4⟩;rw[aaw]at h1;subst h1;exact⟨h3,o,by rw[<-aar];exact h2,λe he=>h4 e (by simpa using he)⟩
  .rintro⟨h1,o,h2,h3⟩;exact⟨j,o,by omega,by rw[aar];exact h2,h1,λe he=>h3 e (by simpa using he)⟩
 have hh:∀ {listed:Array Bool}{e:Env}{pre:List (Nat×List Prop)}{a:Act}{w:World},some (mask (clean (settle keep keep e)) keep,Ae pre)=some (e',ps)->Sim N B IoB W0 F0 e a w->Q .normal a w:=by
  intro listed e pre a w h hs;simp only[aal,aaD]at h;have:=hs.settle.cleanMask (e:=settle keep keep e) keep;rw[h.1]at this;exact hQ a w this
 have hl:∀ {listed:Array Bool},aaI .any ops listed=[]->yc listed.toList ops.toList 0=[]:=by
  intro listed h;cases hr:yc listed.toList ops.toList 0 with
  |nil=>rfl
  |cons j r=>
   have:j∈yc listed.toList ops.toList 0:=by rw[hr];simp
   rw[hk,h]at this;cases this
 intro fuel
 induction fuel with
 |zero=>
  intro listed pre e a w h hs;simp only[Hf]at h;cases hr:yc listed.toList ops.toList 0 with
  |cons j r=>
   rw[hr]at h;have:=h none (by simp);cases this
  |nil=>
   rw[hr]at h;refine⟨?_,hh (listed:=listed) (h _ (aaZ _)) hs⟩;cases hr':aaI .any ops listed with
   |nil=>rfl
   |cons j r=>
    have:j∈aaI .any ops listed:=by rw[hr'];simp
    rw[<-hk,hr]at this;cases this
 |succ fuel ih=>
  intro listed pre e a w h hs;simp only[Hf]at h;refine⟨λhr=>?_,λi hi=>?_⟩
  .rw[hl hr]at h;exact hh (listed:=listed) (h _ (aaZ _)) hs
  .have hj:=(hk listed i).2 hi;cases hr:yc listed.toList ops.toList 0 with
   |nil=>rw[hr]at hj;cases hj
   |cons j r=>
    rw[hr]at h hj;simp only[]at h
    have h2:=λx hx=>h x (tQ (f:=λi=>match ops.toList[i]? with
     |some o=>match stepF tt sp (ops.toList.map (·.dst)) e o with
      |some (e1,p)=>Hf tt sp keep (ops.toList.map (·.dst)) ops.toList fuel (listed.toList.set i true) (tg i p pre) e1
      |none=>[none]
     |none=>[none]) hj hx)
    obtain⟨_,o,ho,_⟩:=mem_ready.1 hi;have hm:ops.toList[i]? = some o:=by rw[aar];exact ho
    simp only[hm]at h2;cases hst:stepF tt sp (ops.toList.map (·.dst)) e o with
    |none=>
     rw[hst]at h2;have:=h2 none (by simp);cases this
    |some q=>
     obtain⟨e1,p⟩:=q;rw[hst]at h2;simp only[]at h2
     have hp:∀x∈p,x:=by
      obtain⟨y,hy,hz⟩:=dE (tt:=tt) (sp:=sp) (keep:=keep) (ds:=ops.toList.map (·.dst)) (all:=ops.toList) (fuel:=fuel) (L:=listed.toList.set i true) (pre:=tg i p pre) (e:=e1);exact λx hx=>hps x (hz e' ps (h2 y hy) x (vl (.inl hx)))
     have h3:=qn htt hsp hs hst hp (λd hd=>Dj hdst i o hm d hd) (Q:=Q) (next:=wpAny P .any ops Q fuel (listed.setIfInBounds i true))
      (λa' w' hs'=>ih (listed.setIfInBounds i true) (tg i p pre) e1 a' w' (λx hx=>h2 x (by rw[aaK]at hx;exact hx)) hs')
     unfold wpOp;rw[ho];simp only[];by_cases hw:aaU o (abZ ops a.tmps)=true
     .rw[if_pos hw]at h3⊢;exact .inl h3
     .rw[if_neg hw]at h3⊢;exact h3
theorem any_ok(G:Good P tt sp){fr:Fr}{C:Code}{F:Fnn}{R A X Y Z:Type}{S:ac R A X Y Z}(keep:List Nat)(k:Nat){ps:List Prop}{q:A}(T:Tr R A X Y Z)(hT:T=.w ps (.l (.n q)))(ho:S.o=T.val)(hb:S.ob=T.ob)
  (hC:Ba C S.path=.region (ah (Ba C S.path)) (opsOf (Ba C S.path)) true) (hd:Sf N (opsOf (Ba C S.path)).toList=true)
  (h:Hf tt sp keep ((opsOf (Ba C S.path)).toList.map (·.dst)) (opsOf (Ba C S.path)).toList (opsOf (Ba C S.path)).size (abu (opsOf (Ba C S.path)).size false) [] (clean S.env)=abu k (some (S.pn q,ps))) :
  ld P tt N fr C F S:=by
 intro hh a w hs;subst hT;rw[hb]at hh;rw[hC];refine acf G.hm (uQ (keep:=keep) G.htt G.hsp hd (ga.all hh.1) (λa w hs=>⟨_,hs,q,ho,λ_ _ _ _ _ _ _ hs=>hs⟩) _ _ [] _ a _ (λr hr=>?_) (hs.clean.drew _));rw[aaS,h]at hr;exact List.eq_of_mem_replicate hr
end
def Ty.nol:Ty->Bool
 |.lrow=>false
 |.litem=>false
 |.sess=>false
 |_=>true
def Ty.sl:Ty->Bool
 |.lrow=>true
 |.litem=>true
 |_=>false
def noL:C->Bool
 |.lst t _=>t.nol
 |_=>true
def wl:K×C->Bool
 |(.acc _,.lst t _)=>t.nol
 |(.acc _,_)=>false
 |(.own _,_)=>false
 |(_,c)=>noL c
def okL:AV->Bool
 |.dead=>true
 |.v (.acc _) (.lst t _)=>t.nol
 |.v (.acc _) _=>false
 |.v (.own _) (.lst t _)=>t.nol
 |.v (.own _) _=>false
 |.v _ c=>noL c
 |.agg _ cs=>Xg noL cs
 |.box cs=>Xg wl cs
 |_=>false
def Pn(s:Nat):Env->Bool
 |[]=>true
 |(n,a)::r=>(aau n s||okL a)&&Pn s r
theorem vQ{s:Nat}:∀ {e:Env},Pn s e=true->∀n,n≠s->okL (da e n)=true
 |[],_,_,_=>rfl
 |(m,a)::r,h,n,hn=>by
  simp only[Pn,aam,aaF]at h;simp only[da];cases hb:aau m n with
  |true=>
   have:=aan hb;subst this;rcases h.1 with h1|h1
   .exact absurd (aan h1) hn
   .exact h1
  |false=>exact vQ h.2 n hn
theorem J3{a:AV}(h:okL a=true):fc a=true:=by
 cases a<;>first|rfl|(simp[okL]at h)
theorem wQ{t:Ty}(ht:t.nol=true){x:t.T}{j:Nat}{c:C}(h:(cells t x)[j]? = some c):noL c=true:=by
 cases t<;>simp[Ty.nol]at ht
 all_goals
  (match j,h with
   |0,h=>simp[cells]at h;subst h;rfl
   |1,h=>first|(simp[cells]at h;done)|(simp[cells]at h;subst h;rfl)
   |2,h=>first|(simp[cells]at h;done)|(simp[cells]at h;subst h;rfl)
   |3,h=>first|(simp[cells]at h;done)|(simp[cells]at h;subst h;rfl)
   |4,h=>first|(simp[cells]at h;done)|(simp[cells]at h;subst h;rfl)
   |j+5,h=>simp[cells]at h)
def Qj:Value->Bool
 |.slice _ _ _=>true
 |_=>false
theorem L3{F:Fz}{lo:Nat}{w:World}{t:Ty}(ht:t.nol=true){x:t.T}{c:C}{v:Value}(h:(cells t x)[0]? = some c)(hr:RC F lo w c v):Qj v=false:=by
 cases t<;>simp[Ty.nol]at ht<;>simp[cells]at h<;>subst h<;>cases hr<;>rfl
theorem P3{t:Ty}(ht:t.sl=true):t.size=1:=by
 cases t<;>first|rfl|(simp[Ty.sl]at ht)
theorem R3{F:Fz}{lo:Nat}{w:World}{t:Ty}(ht:t.sl=true){x:t.T}{j:Nat}{c:C}{v:Value}(h:(cells t x)[j]? = some c)(hr:RC F lo w c v):Qj v=true:=by
 cases t<;>simp[Ty.sl]at ht
 all_goals
  (match j,h with
   |0,h=>simp[cells]at h;subst h;cases hr<;>rfl
   |j+1,h=>simp[cells]at h)
theorem xQ{t:Ty}(ht:t.sl=true){x:t.T}{j:Nat}{c:C}(h:(cells t x)[j]? = some c):noL c=true:=by
 cases t<;>simp[Ty.sl]at ht
 all_goals
  (match j,h with
   |0,h=>simp[cells]at h;subst h;rfl
   |j+1,h=>simp[cells]at h)
theorem RC.drop{F:Fz}{w:World}{b:Nat}(hb:∀o u,F b o->w.cell? ⟨b,o,none⟩=some u->Qj u=true){lo:Nat}{c:C}{v:Value}(h:RC F lo w c v):noL c=true->RC (λb' o=>F b' o/\b'≠b) lo w c v:=by
 induction h with
 |int k n=>exact λ_=>.int k n
 |bool b=>exact λ_=>.bool b
 |str s=>exact λ_=>.str s
 |nl t=>exact λ_=>.nl t
 |nil t=>exact λ_=>.nil t
 |lst t xs b2 o cap vs hb2 hcap hf hc hr ih=>
  intro hn;have hn:t.nol=true:=hn;refine .lst t xs b2 o cap vs hb2 hcap (λi j hi hj=>⟨hf i j hi hj,λe=>?_⟩) hc (λi j x c hx hcc=>ih i j x c hx hcc (wQ hn hcc));subst e;have hp:=Yk t;have h1:=hb _ _ (hf i 0 hi hp) (hc i 0 hi hp);have hh:(cells t xs[i])[0]? = some ((cells t xs[i])[0]'(by rw[We];exact hp)):=aap _;rw[L3 hn hh (hr i 0 _ _ (aap hi) hh)]at h1;cases h1
section
variable {P:aav}{N:NP}{B:Nat}{IoB:List Nat}{W0:World}{F0:Fz}{obs:List (Nat×Obj)}{e:Env}{a:Act}{w:World}
theorem MS.freeze(hs:MS N B IoB W0 F0 obs e a w)(s:Nat):MS N B IoB W0 F0 obs (Ej e s) a w:=by
 obtain⟨F,ow,hx⟩:=hs.sim.rep;obtain⟨F',hi,hh⟩:=hx.freeze hs.sim.base s;exact⟨⟨hs.sim.defers,hs.sim.tmps,hs.sim.base,hs.sim.f0,hs.sim.kept,F',hi,hh⟩,hs.kept,hs.ob,hs.hB⟩
end
abbrev OkF(P:aav)(tt:TT)(fn:Func)(F:Fnn)(R:Type)(fr:Fr){A X Y Z:Type}(S:ac R A X Y Z):Prop:=ld P tt ⟨fn.ntmps,F.rd,[]⟩ fr (pg fn) F S
abbrev AV.B(l:List Int):AV:=.box (l.map λi=>(.fr,.i i))
abbrev AV.R(b:LB)(p:Int):AV:=.box [(.sh,.lst .byte b),(.fr,.i p)]
abbrev rvF(F:Fnn):F.rt.T->RV:=λq=>(some (F.rt.av q),.dead)
abbrev bs(l:List UInt8):ByteArray:=⟨l.toArray⟩
abbrev pE(p:Plan):Plan:=.mk p.Kind p.Num p.Kids
abbrev sE(s:Sess):Sess:=.mk (pE s.Plan) s.Ins s.Front s.Told
def pcT{R A X Y Z:Type}(t:Tr R A X Y Z)(path:List Nat)(env:Env)(rv:R->RV)(pn:A->Env:=by exact nE)(px:X->Nat×Env:=by exact nE)(py:Y->Nat×Env:=by exact nE)(pz:Z->Nat×Env:=by exact nE):ac R A X Y Z:=⟨t.val,t.ob,path,env,rv,pn,px,py,pz⟩
def pcR{R A X Y Z:Type}(t:Tr R A X Y Z)(path:List Nat)(I:A->Env)(s:A)(rv:R->RV)(px:X->Nat×Env:=by exact nE)(py:Y->Nat×Env:=by exact nE)(pz:Z->Nat×Env:=by exact nE):ac R A X Y Z:=⟨t.val,t.ob,path,I s,rv,I,px,py,pz⟩
noncomputable def pcL{σ R X Y Z:Type}[Inhabited R](S:σ->ac R σ X Y Z)(s:σ):ac R Empty X Y Z:=lpS (S s) (lpV (λs=>na (S s).o) s) (LpT (λs=>na (S s).o) (λs=>(S s).ob) s)
def If:abJ->Nat
 |.tmp t=>abE 1 t
 |_=>0
def Dt:List abJ->Nat
 |[]=>0
 |x::r=>aaV (If x) (Dt r)
def Et:Option abJ->Nat
 |some x=>If x
 |none=>0
def yQ:List (Nat×abJ)->Nat
 |[]=>0
 |x::r=>aaV (If x.2) (yQ r)
def U3:Callee->Nat
 |.value f=>If f
 |.invoke r _=>If r
 |.builtin _=>0
def opM:Op->Nat
 |.move x|.assign x|.box _ x|.load _ x|.unOp _ _ x|.convert _ _ x|.makeInterface _ x|.fieldAddr _ x _|.field _ x _|.range _ x|.next x _|.entry x|.extract x _|.nilCheck x=>If x
 |.store _ x y|.binOp _ _ x y _|.makeSlice _ x y|.indexAddr _ x y|.index _ x y|.lookup _ x y _|.mapEntry _ x y=>aaV (If x) (If y)
 |.pick x y z|.insert _ x y z|.mapUpdate _ x y z|.entryStore _ x y z=>aaV (If x) (aaV (If y) (If z))
 |.build _ ps|.buildSlice _ _ ps=>yQ ps.toList
 |.makeFunc _ a b=>aaV (Dt a.toList) (Dt b.toList)
 |.makeMap _ x=>Et x
 |.slice _ x a b c=>aaV (If x) (aaV (Et a) (aaV (Et b) (Et c)))
 |.call c=>aaV (U3 c.callee) (Dt c.args.toList)
 |_=>0
def lessM(a b:Nat):Nat:=Nat.xor a (Nat.land a b)
def zQ:List Oper->Nat->Nat->Nat->Nat
 |[],m,n,out=>aaV n (lessM out m)
 |o::r,m,n,out=>zQ r (match o.dst with
  |some d=>aaV m (abE 1 d)
  |none=>m) (aaV n (lessM (opM o.op) m)) out
def AQ:List (Nat×Nat)->Nat->Nat
 |[],_=>0
 |(i,a)::l,n=>match aau i n with
  |true=>a
  |false=>AQ l n
def Ii(ret:Nat):Code->Nat->List (Nat×Nat)->Nat
 |.region _ ops _,out,_=>zQ ops.toList 0 0 out
 |.exit i,_,ex=>AQ ex i
 |.ret,_,_=>ret
 |.seq a b,out,ex=>Ii ret a (Ii ret b out ex) ex
 |.cond c a b,out,ex=>aaV (If c) (aaV (Ii ret a out ex) (Ii ret b out ex))
 |.block i a,out,ex=>Ii ret a out ((i,out)::ex)
 |.loop a,_,ex=>Ii ret a 0 ex
 |_,out,_=>out
def eE:Nat->Nat->Nat->List Nat
 |0,_,_=>[]
 |f+1,i,m=>match acW m i with
  |true=>i::eE f (i+1) m
  |false=>eE f (i+1) m
def Rj(ret n:Nat):Code->Nat->List (Nat×Nat)->List (Nat×List Nat)->List (Nat×List Nat)
 |.region id _ _,out,_,k=>(id,eE n 0 out)::k
 |.seq a b,out,ex,k=>Rj ret n a (Ii ret b out ex) ex (Rj ret n b out ex k)
 |.cond _ a b,out,ex,k=>Rj ret n a out ex (Rj ret n b out ex k)
 |.block i a,out,ex,k=>Rj ret n a out ((i,out)::ex) k
 |.loop a,_,ex,k=>Rj ret n a (Ii ret a 0 ex) ex k
 |_,_,_,k=>k
def rsM:List aaG->Nat
 |[]=>0
 |.tmp t::r=>aaV (abE 1 t) (rsM r)
 |.cell t _::r=>aaV (abE 1 t) (rsM r)
def V3(F:Fnn):Nat:=match F.rd with
 |some d=>aaV (rsM F.rs) (abE 1 d)
 |none=>rsM F.rs
def kpF(n:Nat)(F:Fnn)(c:Code):List (Nat×List Nat):=Rj (V3 F) n c 0 [] []
section
variable {P:aav}{tt:TT}{N:NP}{sp:SP}{fr:Fr}{C:Code}{F:Fnn}{R:Type}
section
variable {A X Y Z:Type} [Dft A] [Dft X] [Dft Y] [Dft Z] {t:Tr R A X Y Z}{path:List Nat}{env:Env}{rv:R->RV}{pn:A->Env}{px:X->Nat×Env}{py:Y->Nat×Env}{pz:Z->Nat×Env}
theorem X3(G:Good P tt sp)(subs:Gi R)(hs:Pj P tt N fr C F subs)(tb:List (Nat×Nat))(af:List (Nat×Bool×Nat))
  (h:runT tt sp N F (kpF N.n F C) tb af subs (Ba C path) path env (kn0 pn) (kx0 px py pz)=t.toE rv pn px py pz:=by kernel_rfl):ld P tt N fr C F (pcT t path env rv pn px py pz):=Bt G subs hs _ tb af t rfl rfl h
theorem Yc(G:Good P tt sp)(subs:Gi R)(hs:Pj P tt N fr C F subs)
  (h:runT tt sp N F (kpF N.n F C) [] [] subs (Ba C path) path env (kn0 pn) (kx0 px py pz)=t.toE rv pn px py pz:=by kernel_rfl):ld P tt N fr C F (pcT t path env rv pn px py pz):=Bt G subs hs _ [] [] t rfl rfl h
theorem ia(G:Good P tt sp)(S:Env->ut R)(hs:∀e,ld P tt N fr C F (S e).S)
  (h:runT tt sp N F (kpF N.n F C) [] [] [S] (Ba C path) path env (kn0 pn) (kx0 px py pz)=t.toE rv pn px py pz:=by kernel_rfl):ld P tt N fr C F (pcT t path env rv pn px py pz):=Bt G [S] ⟨hs,trivial⟩ _ [] [] t rfl rfl h
theorem ka(G:Good P tt sp)(h:runT tt sp N F (kpF N.n F C) [] [] [] (Ba C path) path env (kn0 pn) (kx0 px py pz)=t.toE rv pn px py pz:=by kernel_rfl):ld P tt N fr C F (pcT t path env rv pn px py pz):=Bt G [] trivial _ [] [] t rfl rfl h
end
theorem ra{σ X Y Z:Type}[Inhabited R]{Sr:σ->ac R σ X Y Z}{s0:σ}(hb:∀s,ld P tt N fr C F (Sr s))(hpn:∀s,(Sr s).pn=λs'=>(Sr s').env:=by exact λ_=>rfl)
  (hp:∀s,(Sr s).path=0::(Sr s0).path.tail/\(Sr s).rv=(Sr s0).rv/\(Sr s).px=(Sr s0).px/\(Sr s).py=(Sr s0).py/\(Sr s).pz=(Sr s0).pz:=by exact λ_=>⟨rfl,rfl,rfl,rfl,rfl⟩)
  (hc:Ct (Ba C (Sr s0).path.tail)=true:=by kernel_rfl):ld P tt N fr C F (pcL Sr s0):=D3 Sr s0 hpn hp hc hb
end
@[reducible] def Cur:List PT->Type->Type
  |[],T=>T
  |p::r,T=>p.T->Cur r T
@[reducible] def unc {T:Type}:(l:List PT)->Cur l T->Ab l->T
  |[],v,_=>v
  |_::r,v,x=>unc r (v x.1) x.2
abbrev spF(pts:List PT)(rt:RT)(v:Cur pts rt.T)(p:Cur pts Prop):Spec:=⟨pts,rt,false,λx=>(unc pts v x,0),λx=>unc pts p x⟩
abbrev spR(pts:List PT)(rt:RT)(v:Cur pts (rt.T×Int))(p:Cur pts Prop):Spec:=⟨pts,rt,true,λx=>unc pts v x,λx=>unc pts p x⟩
section
variable {P:aav}{tt:TT}{sp:SP}
theorem ma{pts:List PT}{F:Fnn}{o:Ab pts->Oc Empty F.rt.T Empty Empty Empty}{ob:Ab pts->Prop}{f:Nat}{fn:Func}(G:Good P tt sp)
  (h:∀(x:Ab pts) (fr:Fr),OkF P tt fn F F.rt.T fr (ac.mk (o x) (ob x) [] (nc pts x 0) (λq=>(some (F.rt.av q),.dead)) nE nE nE nE)) (hF:(P.funcs[f]?,fn.name == "runtime.NumGoroutine",fn.body,fn.results,abT pts.length fn.ntmps,pb pts 0)=(some fn,false,some (pg fn),F.rs.toArray,true,F.rd):=by kernel_rfl) (hn:F.rd=none:=by exact rfl):Con P f ⟨pts,F.rt,false,λx=>(ocR (o x),0),ob⟩:=by
 obtain⟨rs,rt,rd,fz⟩:=F;cases hn;simp only[aaD]at hF;obtain⟨h1,h2,h3,h4,h5,h6⟩:=hF;exact H3 G h1 h2 h3 h4 h5 (λ_=>h6) h6 (λx=>ac.mk (o x) (ob x) [] (nc pts x 0) (λq=>(some (rt.av q),.dead)) nE nE nE nE) (λ_=>⟨rfl,rfl,rfl,rfl,rfl⟩) h
theorem fE{pts:List PT}{F:Fnn}{k:Nat}{o:Ab pts->Oc Empty (F.rt.T×Int) Empty Empty Empty}{ob:Ab pts->Prop}{f:Nat}{fn:Func}(G:Good P tt sp)(bs:Ab pts->List Int)
  (h:∀(x:Ab pts) (fr:Fr),OkF P tt fn F (F.rt.T×Int) fr (ac.mk (o x) (ob x) [] (nc pts x 0) (λq=>(some (F.rt.av q.1),.box [(.sh,.lst .byte (bs x)),(.fr,.int .i64 q.2)])) nE nE nE nE)) (hF:(P.funcs[f]?,fn.name == "runtime.NumGoroutine",fn.body,fn.results,abT pts.length fn.ntmps,pb pts 0)=(some fn,false,some (pg fn),F.rs.toArray,true,F.rd):=by kernel_rfl) (hn:F.rd=some k:=by exact rfl) (hr:Ij F.rt=false:=by exact rfl)
  (hb:∀x,rdB pts x=some (bs x):=by exact λ_=>rfl):Con P f ⟨pts,F.rt,true,λx=>ocR (o x),ob⟩:=by
 obtain⟨rs,rt,rd,fz⟩:=F;cases hn;simp only[aaD]at hF;obtain⟨h1,h2,h3,h4,h5,h6⟩:=hF;exact I3 G h1 h2 h3 h4 h5 (λh=>by rw[show Ij rt=false from hr]at h;cases h) h6 bs hb (λx=>ac.mk (o x) (ob x) [] (nc pts x 0) (λq=>(some (rt.av q.1),.box [(.sh,.lst .byte (bs x)),(.fr,.int .i64 q.2)])) nE nE nE nE) (λ_=>⟨rfl,rfl,rfl,rfl,rfl⟩) h
end
abbrev bp0:AV:=.box [(.fr,.i 0),(.fr,.i 0),(.fr,.nl .plan)]
abbrev bx0:AV:=.box [(.fr,.i 0),(.fr,.i 0),(.fr,.nl .plan),(.fr,.nl .lrow),(.fr,.nl .time),(.fr,.nl .row)]
abbrev bxP(a b:Int)(c:LP):AV:=.box [(.fr,.i a),(.fr,.i b),(.sh,.lst .plan c)]
abbrev bxS(a b:Int)(c:LP)(d:List LR)(e:List Time)(f:LR):AV:=.box [(.fr,.i a),(.fr,.i b),(.sh,.lst .plan c),(.sh,.lst .lrow d),(.sh,.lst .time e),(.sh,.lst .row f)]
section
variable {N:NP}{B:Nat}{IoB:List Nat}{W0:World}{F0:Fz}{obs:List (Nat×Obj)}{e:Env}{a:Act}{w:World}
end
section
variable {F:Fz}{B:Nat}{w w1:World}{b:Nat}{o:Option Nat->Option Nat}
theorem Ca.dropL(hsl:∀o u,F b o->w.cell? ⟨b,o,none⟩=some u->Qj u=true){lo:Nat}{ob:Option Nat}{t:Ty}{ys:List t.T}{v:Value}(ht:t.nol=true)(h:Ca F lo w ob (.lst t ys) v):Ca (λb' o=>F b' o/\b'≠b) lo w ob (.lst t ys) v:=by
 refine⟨RC.drop hsl h.1 ht,?_⟩;rcases h.2 with h2|⟨t3,zs,b2,cap2,hh,q1,q2,q3,q4,q5,q6⟩
 .exact .inl h2
 .exact .inr ⟨t3,zs,b2,cap2,hh,q1,q2,q3,q4,q5,λo ho hF=>q6 o ho hF.1⟩
theorem Eb.dropL(hsl:∀o u,F b o->w.cell? ⟨b,o,none⟩=some u->Qj u=true){ob:Option Nat}{kc:K×C}{v:Value}(hk:wl kc=true)(h:Eb F B w ob kc v):Eb (λb' o=>F b' o/\b'≠b) B w ob kc v:=by
 obtain⟨k,c⟩:=kc;cases k with
 |sh=>exact RC.drop hsl h hk
 |fr=>exact RC.drop hsl h hk
 |acc f=>
  cases c with
  |lst t ys=>exact Ca.dropL hsl hk h
  |_=>simp[wl]at hk
 |own f=>simp[wl]at hk
theorem VR.dropL(hsl:∀o u,F b o->w.cell? ⟨b,o,none⟩=some u->Qj u=true){av:AV}{v:Value}(ha:okL av=true)(h:VR F B w o av v):VR (λb' o=>F b' o/\b'≠b) B w o av v:=by
 cases av with
 |dead=>trivial
 |v k c=>
  cases k with
  |sh=>exact RC.drop hsl h ha
  |fr=>exact RC.drop hsl h ha
  |acc f=>
   cases c with
   |lst t2 ys=>exact Ca.dropL hsl ha h
   |_=>simp[okL]at ha
  |own f2=>
   cases c with
   |lst t2 ys=>
    rcases h with h|⟨t3,zs,b2,cap2,hh,hj,q1,q2,q3,q4,q5,hi,q6,q7,q8,q9⟩
    .exact .inl h
    .refine .inr ⟨t3,zs,b2,cap2,hh,hj,q1,q2,q3,q4,q5,hi,q6,λo hF=>q7 o hF.1,q8,λi j x c hx hcc=>?_⟩;cases q1;exact RC.drop hsl (q9 i j x c hx hcc) (wQ ha hcc)
   |_=>simp[okL]at ha
 |agg f2 hh=>
  obtain⟨us,q1,q2⟩:=h;refine⟨us,q1,RCs.mk q2.length (λj c v hc hv=>?_)⟩;obtain⟨v2,q3,q4⟩:=q2.get hc;rw[hv]at q3;cases q3;exact RC.drop hsl q4 (xn ha hc)
 |box hh=>
  obtain⟨b2,us,q1,q2,q3,q4,q5,q6⟩:=h;exact⟨b2,us,q1,q2,q3,λo hF=>q4 o hF.1,q5,λj kc u hk hu=>Eb.dropL hsl (xn ha hk) (q6 j kc u hk hu)⟩
 |_=>simp[okL]at ha
theorem Ca.extL{F':Fz}(h1:∀b o,F' b o->F b o)(h2:∀b' o,F b' o->F' b' o\/b'=b){lo:Nat}{ob:Option Nat}(hob:ob≠some b){c:C}{v:Value}(h:Ca F' lo w ob c v):Ca F lo w ob c v:=by
 refine⟨h.1.mono h1 (aaz _) (λ_ _ _=>rfl),?_⟩;rcases h.2 with h|⟨t3,zs,b2,cap2,hh,q1,q2,q3,q4,q5,q6⟩
 .exact .inl h
 .exact .inr ⟨t3,zs,b2,cap2,hh,q1,q2,q3,q4,q5,λo ho hF=>(h2 _ _ hF).elim (q6 o ho) λe=>hob (e▸q3)⟩
theorem Eb.extL{F':Fz}(h1:∀b o,F' b o->F b o)(h2:∀b' o,F b' o->F' b' o\/b'=b){ob:Option Nat}(hob:ob≠some b){kc:K×C}{v:Value}(h:Eb F' B w ob kc v):Eb F B w ob kc v:=by
 have rc:∀ {lo:Nat}{c:C}{v:Value},RC F' lo w c v->RC F lo w c v:=λh=>h.mono h1 (aaz _) (λ_ _ _=>rfl);obtain⟨k,c⟩:=kc;cases k with
 |sh=>exact rc h
 |fr=>exact rc h
 |acc f=>exact Ca.extL h1 h2 hob h
 |own f=>exact h
theorem VR.extL{F':Fz}(h1:∀b o,F' b o->F b o)(h2:∀b' o,F b' o->F' b' o\/b'=b)(hob:∀i,o i≠some b){av:AV}{v:Value}(h:VR F' B w o av v):VR F B w o av v:=by
 have rc:∀ {lo:Nat}{c:C}{v:Value},RC F' lo w c v->RC F lo w c v:=λh=>h.mono h1 (aaz _) (λ_ _ _=>rfl);cases av with
 |dead=>trivial
 |v k c=>
  cases k with
  |sh=>exact rc h
  |fr=>exact rc h
  |acc f=>exact Ca.extL h1 h2 (hob none) h
  |own f2=>
   rcases h with h|⟨t3,zs,b2,cap2,hh,hj,q1,q2,q3,q4,q5,hi,q6,q7,q8,q9⟩
   .exact .inl h
   .exact .inr ⟨t3,zs,b2,cap2,hh,hj,q1,q2,q3,q4,q5,hi,q6,λo hF=>(h2 _ _ hF).elim (q7 o) λe=>hob none (e▸q3),q8,λi j x c hx hcc=>rc (q9 i j x c hx hcc)⟩
 |agg f2 hh=>obtain⟨us,q1,q2⟩:=h;exact⟨us,q1,q2.mono h1 (aaz _) (λ_ _ _=>rfl)⟩
 |tup l=>obtain⟨us,q1,q2⟩:=h;exact⟨us,q1,q2.mono h1 (aaz _) (λ_ _ _=>rfl)⟩
 |box hh=>
  obtain⟨b2,us,q1,q2,q3,q4,q5,q6⟩:=h;exact⟨b2,us,q1,q2,q3,λo hF=>(h2 _ _ hF).elim (q4 o) λe=>hob none (e▸q2),q5,λj kc u hk hu=>Eb.extL h1 h2 (hob _) (q6 j kc u hk hu)⟩
 |cond k a=>exact h.elim
 |view s i=>exact h.elim
 |baddr s i=>exact h.elim
 |faddr f cs=>exact h.elim
 |oaddr s i j=>exact h.elim
end
def Qn(j:Nat):Nat->List (K×C)->Bool
 |_,[]=>true
 |i,kc::r=>(aau i j||wl kc)&&Qn j (i+1) r
theorem BQ{j:Nat}:∀ {l:List (K×C)}{i n:Nat}{kc:K×C},Qn j i l=true->l[n]? = some kc->i+n≠j->wl kc=true
 |[],_,_,_,_,h,_=>by simp at h
 |x::r,i,0,kc,h,hx,hn=>by
  simp only[Qn,aam,aaF]at h;simp at hx;subst hx;exact h.1.resolve_left λe=>hn (aan e)
 |x::r,i,n+1,kc,h,hx,hn=>by
  simp only[Qn,aam]at h;exact BQ h.2 (by simpa using hx) (by omega)
theorem ja.pokeL{B:Nat}{IoB:List Nat}{F0 F:Fz}{e:Env}{tm:Nat->Value}{w w1:World}{ow:Nat->Option Nat->Option Nat}(hs:ja B IoB F0 e tm w F ow)(_hf0:∀b o,F0 b o->b<B/\b ∉ IoB){s j:Nat}{cs:List (K×C)}{f:Bool}{t:Ty}{xs:List t.T}
  (hg:da e s=.box cs) (hj:cs[j]? = some (.acc f,.lst t xs)) (ht:t.sl=true) (hok:Pn s e=true) (hno:Qn j 0 cs=true) {bx:Nat} (hbx:tm s=.pointer (some ⟨bx,0,none⟩)) {b cap:Nat}{u:Value} (hu:w.cell? ⟨bx,j,none⟩=some u) (hub:u=.slice (some ⟨b,0,none⟩) xs.length cap)
  {i:Nat} (hi:i<xs.length) {y:t.T}{vy:Value} (hy:∀c,(cells t y)[0]? = some c->RC F (lof B f) w c vy) (hp:Pk w b w1) (hc1:∀k,k≠i->w1.cell? ⟨b,k,none⟩=w.cell? ⟨b,k,none⟩) (hci:w1.cell? ⟨b,i,none⟩=some vy)
  (hbl:∀vs,Blk w b vs->∃vs',Blk w1 b vs'/\vs'.length=vs.length) :
  ja B IoB F0 (Ta e s (.box (cs.set j (.acc f,.lst t (xs.set i y))))) tm w1 F ow:=by
 obtain⟨hh,us,q1,q2,q3,q4,q5,q6⟩:=hs.box hg;rw[hbx]at q1;have ie:hh=bx:=by simpa using q1.symm
 subst ie;have kj:j<us.length:=by rw[q5];exact(aaO.1 hj).1
 have kz:us[j]? = some u:=by
  rw[q3.cell]at hu;exact hu
 have it:Ca F (lof B f) w (ow s (some j)) (.lst t xs) u:=q6 j _ u hj kz;obtain⟨kr,hd⟩:=it;rcases hd with⟨t0,e1,e2⟩|⟨t0,kb,b0,hl,cb,e1,e2,e3,e4,e5,e6⟩
 .rw[hub]at e2;cases e2
 have e1:C.lst t xs=.lst t0 kb:=e1;cases e1;rw[hub]at e2;have ix:b0=b/\hl=cap:=by simp at e2;exact⟨e2.1.symm,e2.2.symm⟩
 obtain⟨rfl,rfl⟩:=ix;have hsz:t.size=1:=P3 ht;rw[hub]at kr;cases kr with
 |lst _ _ _ o cap' vs hb hcap hf hc hr=>
  have hz:Mn B IoB b0:=(hs.bd s (some j) b0 e3).2
  have ky:∀o u,F b0 o->w.cell? ⟨b0,o,none⟩=some u->Qj u=true:=by
   intro o u io hu
   have ho:o<xs.length:=by
    by_cases h:o<xs.length
    .exact h
    .exact absurd io (e6 o (by rw[hsz];omega))
   have h1:=hc o 0 ho (by omega);rw[hsz,aaw,aca,acn]at h1;rw[h1]at hu;cases hu;have ju:(cells t xs[o])[0]? = some ((cells t xs[o])[0]'(by rw[We];omega)):=aap _;exact R3 ht ju (hr _ _ _ _ (aap ho) ju)
  let F':Fz:=λb' o=>F b' o/\b'≠b0;have he:∀b o,F' b o->F b o:=λ_ _ h=>h.1
  have ih:∀b' o,F b' o->F' b' o\/b'=b0:=λb' o h=>by
   by_cases e:b'=b0
   .exact .inr e
   .exact .inl ⟨h,e⟩
  have kx:Df F' w w1:=hp.same λo h=>h.2 rfl;have ks:∀ {lo:Nat}{c:C}{v:Value},noL c=true->RC F lo w c v->RC F lo w1 c v:=λhc h=>((RC.drop ky h hc).poke hp kx).mono he (aaz _) (λ_ _ _=>rfl);have kn:hh≠b0:=λe=>by have:=(hs.inj s none s (some j) b0 (e▸q2) e3).2;cases this
  have kk:Live F w1:=hs.sub.live hs.live (λk hk _=>hp.block k λe=>hk (e▸(hs.bd s (some j) b0 e3).2)) λb' o h=>by
   by_cases e:b'=b0
   .subst e
    have ho:o<xs.length:=by
     by_cases h2:o<xs.length
     .exact h2
     .exact absurd h (e6 o (by rw[hsz];omega))
    by_cases e2:o=i
    .rw[e2,hci];rfl
    .rw[hc1 o e2];exact hs.live _ _ h
   .rw[cell_of_heap (hp.block b' e)];exact hs.live _ _ h
  refine⟨hs.sub,hs.new,kk,hs.inj,λn k b hn=>by rw[hp.size];exact hs.bd n k b hn,λn=>?_⟩;have ki:∀m,m≠s->da (Ta e s (.box (cs.set j (.acc f,.lst t (xs.set i y))))) m=da e m:=λm hm=>by rw[Ka,if_neg hm]
  rw[Ka];by_cases hn:n=s
  .rw[if_pos hn,hn];refine⟨hh,us,hbx,q2,q3.same (hp.block hh kn),q4,by rw[abO];exact q5,λk kc v hk hv=>?_⟩;by_cases hkj:k=j
   .subst hkj;rw[abn (by rw[<-q5];exact kj)]at hk;cases hk;rw[kz]at hv;cases hv;rw[hub];obtain⟨hw,g1,g2⟩:=hbl cb e4;refine⟨?_,.inr ⟨t,xs.set i y,b0,hl,hw,rfl,by rw[abO],e3,g1,g2.trans e5,λo ho=>e6 o (by rwa [abO]at ho)⟩⟩;have km:(xs.set i y).length=xs.length:=abO
    have hL:=RC.lst (F:=F) (lo:=lof B f) (w:=w1) t (xs.set i y) b0 0 hl (λk q=>if k=i then vy else vs k q) hb (by rw[km];exact hcap) (λk q hk hq=>hf k q (by omega) hq) (λk q hk hq=>by
     have kq:q=0:=by omega
     subst kq;by_cases hki:k=i
     .subst hki;simp only[if_true];rw[hsz,aaw,aca,acn];exact hci
     .simp only[hki,if_false];have h1:=hc k 0 (by omega) hq;rw[hsz,aaw,aca,acn]at h1⊢;rw[hc1 k hki];exact h1) (λk q x c hx hcc=>by
     have kq:q=0:=by have:=(aaO.1 hcc).1;rw[We]at this;omega
     subst kq;by_cases hki:k=i
     .subst hki;rw[abn hi]at hx;cases hx;simp only[if_true];exact ks (xQ ht hcc) (hy c hcc)
     .simp only[hki,if_false];rw[abc (by omega)]at hx;exact ks (xQ ht hcc) (hr k 0 x c hx hcc))
    rw[km]at hL;exact hL
   .rw[abc (by omega)]at hk;have kp:ow s (some k)≠some b0:=λe=>hkj (by have:=(hs.inj s (some k) s (some j) b0 e e3).2;simpa using this);exact Eb.extL he ih kp ((Eb.dropL ky (BQ hno hk (by omega)) (q6 k kc v hk hv)).poke hp kx kp)
  .rw[if_neg hn];have ha:=vQ hok n hn;have jb:=J3 ha;have h:=hs.sr n;rw[Ze jb]at h⊢;have kp:∀k,ow n k≠some b0:=λk e=>hn (hs.inj n k s (some j) b0 e e3).1;exact VR.extL he ih kp ((VR.dropL ky ha h).poke hp kx kp)
structure xl(P:aav)(f:Nat)(v:Sess->Sess)(p:Sess->Prop):Prop where
 fn:∃fn,P.funcs[f]? = some fn/\(fn.name == "runtime.NumGoroutine")=false/\fn.body.isNone=false
 call:∀(y:Sess),p y->∀(w:World) (F:Fz) (us:List Value),Live F w->RCs F 0 w (cells .sess y) us ->
  Calls P f #[.agg us.toArray] w (λe w'=>∃vs F' ob,e=.returned (.agg vs.toArray)/\Left F w none F' w'/\RCs F' 0 w' (cells .sess (v y)) vs/\(∀b,ob=some b->w.heap.size<=b/\b<w'.heap.size)/\∃u,vs[3]? = some u/\Ca F' 0 w' ob (.lst .lrow (v y).Ins) u)
abbrev Od(y:Sess):AV:=.box [(.fr,.i y.Plan.Kind),(.fr,.i y.Plan.Num),(.sh,.lst .plan y.Plan.Kids),(.acc false,.lst .lrow y.Ins),(.sh,.lst .time y.Front),(.sh,.lst .row y.Told)]
abbrev boxS(y:Sess):AV:=.box [(.fr,.i y.Plan.Kind),(.fr,.i y.Plan.Num),(.sh,.lst .plan y.Plan.Kids),(.sh,.lst .lrow y.Ins),(.sh,.lst .time y.Front),(.sh,.lst .row y.Told)]
abbrev Sj:AV:=.box [(.fr,.i 0),(.fr,.i 0),(.fr,.nl .plan),(.fr,.nl .lrow),(.fr,.nl .time),(.fr,.nl .row)]
theorem CQ{cs us:List Value}(h:us.length=cs.length):Bb cs 0 us=us:=by
 unfold Bb;rw[h,aaw,List.drop_length,acy,List.nil_append,List.append_nil]
section
variable {P:aav}{tt:TT}{sp:SP}{a:Act}{w:World}
theorem DQ{o:Oper}{t x:Nat}(hop:o.op=.load t (.tmp x)){b:Nat}(hx:a.tmps.getD x undef=.pointer (some ⟨b,0,none⟩)){d:TD}(hd:Sb P t d)(ha:isAgg d=true){us:List Value}(hb:Blk w b us)(hl:us.length=d.size) :
  (execOp a.eval o).run P w=.ok (.value (.agg us.toArray)) w:=by
 obtain⟨hh,op,ty,pos,aft,gd⟩:=o;simp only[]at hop;subst hop;have hl:=xj hd ha (w:=w) (b:=b) (o:=0) hl (λj u h=>by rw[aaw,hb.cell];exact h);exact ze (s:=abL t (a.tmps.getD x undef)) rfl (by rw[hx];exact hl)
theorem gE{o:Oper}{t x y:Nat}(hop:o.op=.store t (.tmp x) (.tmp y)){b p:Nat}(hx:a.tmps.getD x undef=.pointer (some ⟨b,p,none⟩)){d:TD}(hd:Sb P t d){cs:List Value}(hb:Blk w b cs){v:Value}(hv:a.tmps.getD y undef=v)(hl:v.cells.toList.length=d.size)(hfit:p+v.cells.toList.length<=cs.length)(h1:∀u∈v.cells.toList,u.oneCell'=true) :
  (execOp a.eval o).run P w=.ok .skip (w.setRow b (Bb cs p v.cells.toList).toArray):=by
 obtain⟨hh,op,ty,pos,aft,gd⟩:=o;simp only[]at hop;subst hop;have hr:=UO hd hb hl hfit h1;have hj:a.eval (.tmp x)=.pointer (some ⟨b,p,none⟩):=hx;have hi:a.eval (.tmp y)=v:=hv;simp[execOp,hj,hi,hr]
theorem Y3{o:Oper}{t:Nat}(hop:o.op=.alloc t){d:TD}(hd:Sb P t d):∃zs:List Value,zs.length=d.zero.length/\(execOp a.eval o).run P w=.ok (.value (.pointer (some ⟨w.heap.size,0,none⟩))) (w.alloc (.cells zs.toArray t)):=by
 obtain⟨hh,op,ty,pos,aft,gd⟩:=o;simp only[]at hop;subst hop;obtain⟨z,hz,hi⟩:=hd.zeroV w;exact⟨z.cells.toList,by rw[al hi,List.length_map],by simp[execOp,Instr.alloc,hz,newVar,newRow]⟩
theorem Z3{o:Oper}{t x m:Nat}{i:Int}{k:IntKind}(hop:o.op=.indexAddr t (.tmp x) (.tmp m))(hm:a.tmps.getD m undef=.int k i){b f len cap:Nat}(hx:a.tmps.getD x undef=.slice (some ⟨b,f,none⟩) len cap)(h0:0<=i)(hn:i<len)
  {e sz:Nat} (he:P.underlying t=some (.slice e)) (hz:∀w,(sizeOf e).run P w=.ok sz w):(execOp a.eval o).run P w=.ok (.value (.pointer (some ⟨b,f+i.toNat*sz,none⟩))) w:=by
 obtain⟨hh,op,ty,pos,aft,gd⟩:=o;simp only[]at hop;subst hop;refine ze (s:=Instr.indexAt t (a.tmps.getD x undef) (a.tmps.getD m undef)) rfl ?_;rw[hx,hm];exact nn he hz h0 hn
theorem Eb.rcZ{F:Fz}{B:Nat}{ob:Option Nat}{kc:K×C}{v:Value}(h:Eb F B w ob kc v):RC F 0 w kc.2 v:=by
 obtain⟨k,c⟩:=kc;cases k with
 |sh=>exact h
 |fr=>exact acb h
 |acc f=>exact acb h.1
 |own f=>exact h.elim
theorem EQ{F:Fz}{cs:List C}{us:List Value}(hl:cs.length=us.length)(h:∀(j:Nat) (c:C) (u:Value),cs[j]? = some c->us[j]? = some u->RC F 0 w c u):RCs F 0 w cs us:=RCs.mk hl (λj c v hc hv=>h j c v hc hv)
theorem FQ{F:Fz}{cs:List C}{us:List Value}(h:RCs F 0 w cs us):∀u∈us,u.oneCell'=true:=by
 induction h with
 |nil=>intro u hu;cases hu
 |cons h _ ih=>
  intro u hu;rcases aaA.1 hu with rfl|hu
  .exact RC.one h
  .exact ih u hu
theorem GQ(htt:dc P tt){t:Nat}{d:TD}(hlk:lk tt t=some d)(hag:isAgg d=true)(hsz:d.size=6){fn:Func}{X R d0:Nat}(hrs:fn.results=[ResultVar.cell R t].toArray)(hXR:X≠R)(hd0:d0≠R)(_hdX:d0≠X)
  {c c1 c2:Code} (hc:c=.seq c1 c2) (hc1:c1=.region (ah c1) (opsOf c1) false) (hr:acG (opsOf c1).size=[0,1]) {o0 o1:Oper} (h0:(opsOf c1)[0]? = some o0) (h1:(opsOf c1)[1]? = some o1)
  (p0:o0.op=.load t (.tmp X)) (q0:o0.dst=some d0) (g0:o0.guard=none) (p1:o1.op=.store t (.tmp R) (.tmp d0)) (q1:o1.dst=none) (g1:o1.guard=none) (hc2:c2=.ret)
  {N:NP}{W0:World}{F0:Fz}{y:Sess} (hs:Sim N W0.heap.size [] W0 F0 [(R,Sj),(X,Od y)] a w) (hd0n:d0<a.tmps.size) {Q:Exit->Act->World->Prop}
  (hQ:∀a' w',a'.defers=[]->(∃vs F' ob,(acj fn a'.tmps).run P w'=.ok (.agg vs.toArray) w'/\Left F0 W0 none F' w'/\RCs F' 0 w' (cells .sess y) vs/\(∀b,ob=some b->W0.heap.size<=b/\b<w'.heap.size)/\∃u,vs[3]? = some u/\Ca F' 0 w' ob (.lst .lrow y.Ins) u)->Q .ret a' w'):c.wp P Q a w:=by
 have hq:=htt.td _ _ hlk;obtain⟨F,ow,hx⟩:=hs.rep;have gR:da ([(R,Sj),(X,Od y)]:Env) R=Sj:=by simp[da,aaW]
 have gX:da ([(R,Sj),(X,Od y)]:Env) X=Od y:=by simp[da,aaW,Qf (n:=R) (d:=X) (λe=>hXR e.symm)]
 obtain⟨bX,us,e1,e2,e3,e4,e5,e6⟩:=hx.box gX;obtain⟨bR,zs,f1,f2,f3,f4,f5,_⟩:=hx.box gR;have e1:a.tmps.getD X undef=.pointer (some ⟨bX,0,none⟩):=e1;have f1:a.tmps.getD R undef=.pointer (some ⟨bR,0,none⟩):=f1;have ha:us.length=6:=e5;have he:zs.length=6:=f5
 have hy:RCs F 0 w (cells .sess y) us:=by
  refine EQ ha.symm λj c u hc hu=>?_
  match j,hc with
  |0,hc=>simp[cells]at hc;subst hc;exact(e6 0 _ u rfl hu).rcZ
  |1,hc=>simp[cells]at hc;subst hc;exact(e6 1 _ u rfl hu).rcZ
  |2,hc=>simp[cells]at hc;subst hc;exact(e6 2 _ u rfl hu).rcZ
  |3,hc=>simp[cells]at hc;subst hc;exact(e6 3 _ u rfl hu).rcZ
  |4,hc=>simp[cells]at hc;subst hc;exact(e6 4 _ u rfl hu).rcZ
  |5,hc=>simp[cells]at hc;subst hc;exact(e6 5 _ u rfl hu).rcZ
  |j+6,hc=>simp[cells]at hc
 obtain⟨u,hu⟩ : ∃u,us[3]? = some u:=⟨_,aap (by omega)⟩;have hm:Ca F 0 w (ow X (some 3)) (.lst .lrow y.Ins) u:=e6 3 _ u rfl hu;refine dh hc ?_;refine Kc hc1 hr ?_;rw[aaQ];refine va h0 g0 ?_;refine Xa (DQ p0 e1 hq hag e3 (ha.trans hsz.symm)) ?_;rw[q0,aaQ];have hw:=Ja a d0 (Value.agg us.toArray) hd0n;have hh:(a.put (some d0) (.agg us.toArray)).tmps.getD R undef=.pointer (some ⟨bR,0,none⟩):=by rw[hw R,if_neg (λe=>hd0 e.symm)];exact f1
 have hj:(a.put (some d0) (.agg us.toArray)).tmps.getD d0 undef=.agg us.toArray:=by rw[hw d0,if_pos rfl]
 have ho:(Value.agg us.toArray).cells.toList=us:=rfl;refine va h1 g1 ?_;refine Nj (gE p1 hh hq f3 hj (by rw[ho];exact ha.trans hsz.symm) (by rw[ho];omega) (by rw[ho];exact FQ hy)) ?_;rw[q1,ho,CQ (ha.trans he.symm)];refine xc _ ?_;have hp:=Blk.poke f3 us;have hz:Df F w (w.setRow bR us.toArray):=hp.same f4;have ht:ow X (some 3)≠some bR:=λe=>hXR (hx.inj _ _ _ _ _ e f2).1;have hn:∀ {s i b},ow s i=some b->W0.heap.size<=b/\b<w.heap.size:=λh=>⟨(hx.bd _ _ _ h).2.elim id λh=>by simp at h,(hx.bd _ _ _ h).1⟩;show c2.wp P Q _ _;refine Ih hc2 (hQ _ _ hs.defers ⟨us,F,ow X (some 3),?_,⟨hp.os.trans hs.kept.os,hp.tape.trans hs.kept.tape,hp.output.trans hs.kept.output,by rw[hp.size];exact hs.kept.size,λk hk _=>?_,hx.sub.out,λb o hb=>?_,hx.sub.pk hx.live hp.toPk (hx.bd _ _ _ f2).2 λb o hb=>?_⟩,hy.poke hp.toPk hz,λb hb=>?_,u,hu,Ca.poke hp.toPk hz ht hm⟩)
 .refine Vs hrs (vs:=[.agg us.toArray]) rfl (λj rv v hr hv=>?_);cases j with
  |zero=>
   simp at hr hv;subst hr;subst hv;have hl:=xj (P:=P) hq hag (w:=w.setRow bR us.toArray) (b:=bR) (o:=0) (ha.trans hsz.symm) (λj u h=>by rw[aaw,hp.blk.cell];exact h);have hl:(loadVar t ⟨bR,0,none⟩).run P (w.setRow bR us.toArray)=.ok (.agg us.toArray) (w.setRow bR us.toArray):=by simpa [abL,abS] using hl
   have hi:((a.put (some d0) (.agg us.toArray)).put none undef).tmps.getD R undef=.pointer (some ⟨bR,0,none⟩):=hh;simp only[og,hi,asAddr,aaC,aba,aat,hl]
  |succ j=>simp at hr
 .rw[hp.block k (λe=>by have:=(hn f2).1;omega)];exact hs.kept.block k hk (by simp)
 .exact (hx.new b o hb).imp_right λh=>h.elim id λh=>by simp at h
 .rw[hz b o hb];exact hx.live b o hb
 .rw[hp.size];exact hn hb
theorem HQ(G:Good P tt sp){v:Sess->Sess}{p:Sess->Prop}{f:Nat}(hK:xl P f v p)(t s d0 d1 x:Nat){N:NP}{fr:Fr}{Cd:Code}{F:Fnn}{R A X Y Z:Type}{S:ac R A X Y Z}{y:Sess}{q:A}(pat:List (Nat×Tk))(T:Tr R A X Y Z)
  (hT:T=.w [p y] (.l (.n q)):=by exact rfl) (ho:S.o=T.val:=by exact rfl) (hb:S.ob=T.ob:=by exact rfl)
  (hlk:(lk tt t).map (λd=>(isAgg d,d.size,d.zero.length))=some (true,6,6):=by kernel_rfl)
  (hC:Ba Cd S.path=.region (ah (Ba Cd S.path)) (opsOf (Ba Cd S.path)) false:=by kernel_rfl)
  (hops:(opsOf (Ba Cd S.path)).toList.map (λo=>(o.op,o.dst,o.guard))=[(.load t (.tmp s),some d0,none),(.call ⟨.value (.func f),#[.tmp d0],#[t]⟩,some d1,none),(.alloc t,some x,none),(.store t (.tmp x) (.tmp d1),none,none)]:=by kernel_rfl)
  (hok:(Ie S.env&&(Ga (da S.env d0)&&(Ga (da S.env d1)&&(Ga (da S.env x)&&(N.ok d0&&(N.ok d1&&(N.ok x&&(!(aau d0 d1)&&(!(aau d0 x)&&!(aau d1 x))))))))))=true:=by kernel_rfl)
  (hg:da S.env s=boxS y:=by kernel_rfl) (hpn:Wg ((x,Od (v y))::S.env) pat=some (S.pn q):=by kernel_rfl):ld P tt N fr Cd F S:=by
 intro lo a w hs;subst hT;rw[hb]at lo;have mp:p y:=lo.1.1;simp only[aam,aaM]at hok;obtain⟨k1,k2,k3,k4,k5,k6,k7,k8,k9,py⟩:=hok;have li:∀ {m n:Nat},aau m n=false->m≠n:=λh e=>by rw[e,aaW]at h;cases h
 obtain⟨d,hd,it⟩:=aaT.1 hlk;simp only[aaD]at it;obtain⟨ht,hsz,hz⟩:=it;have ix:=G.htt.td _ _ hd;obtain⟨F1,ow,hx⟩:=hs.rep;obtain⟨bS,us,e1,e2,e3,e4,e5,e6⟩:=hx.box hg;have e1:a.tmps.getD s undef=.pointer (some ⟨bS,0,none⟩):=e1;have ox:us.length=6:=e5
 have nm:RCs F1 0 w (cells .sess y) us:=by
  refine EQ ox.symm λj c u hc hu=>?_
  match j,hc with
  |0,hc=>simp[cells]at hc;subst hc;exact(e6 0 _ u rfl hu).rcZ
  |1,hc=>simp[cells]at hc;subst hc;exact(e6 1 _ u rfl hu).rcZ
  |2,hc=>simp[cells]at hc;subst hc;exact(e6 2 _ u rfl hu).rcZ
  |3,hc=>simp[cells]at hc;subst hc;exact(e6 3 _ u rfl hu).rcZ
  |4,hc=>simp[cells]at hc;subst hc;exact(e6 4 _ u rfl hu).rcZ
  |5,hc=>simp[cells]at hc;subst hc;exact(e6 5 _ u rfl hu).rcZ
  |j+6,hc=>simp[cells]at hc
 have hlen:(opsOf (Ba Cd S.path)).toList.length=4:=by have:=congrArg List.length hops;simpa using this
 have hv:∀(j:Nat) q,[((.load t (.tmp s):Op),some d0,(none:Option (Nat×Bool))),(.call ⟨.value (.func f),#[.tmp d0],#[t]⟩,some d1,none),(.alloc t,some x,none),(.store t (.tmp x) (.tmp d1),none,none)][j]? = some q->∃o,(opsOf (Ba Cd S.path))[j]? = some o/\o.op=q.1/\o.dst=q.2.1/\o.guard=q.2.2:=λj q hq=>by
  rw[<-hops,ach]at hq;obtain⟨o,h1,h2⟩:=aaT.1 hq;exact⟨o,by rw[<-aar];exact h1,by rw[<-h2],by rw[<-h2],by rw[<-h2]⟩
 obtain⟨o0,a0,p0,q0,g0⟩:=hv 0 _ rfl;obtain⟨o1,a1,p1,q1,g1⟩:=hv 1 _ rfl;obtain⟨o2,a2,p2,q2,g2⟩:=hv 2 _ rfl;obtain⟨o3,a3,p3,q3,g3⟩:=hv 3 _ rfl;have nl:acG (opsOf (Ba Cd S.path)).size=[0,1,2,3]:=by rw[show(opsOf (Ba Cd S.path)).size=4 by simpa using hlen];rfl
 refine Kc hC nl ?_;rw[aaQ];refine va a0 g0 ?_;refine Xa (DQ p0 e1 ix ht e3 (ox.trans hsz.symm)) ?_;rw[q0,aaQ];refine va a1 g1 ?_;have l0:d0<a.tmps.size:=by rw[hs.tmps.size];exact abW k5
 have l1:d1<a.tmps.size:=by rw[hs.tmps.size];exact abW k6
 have lx:x<a.tmps.size:=by rw[hs.tmps.size];exact abW k7
 have oj:∀(a:Act) (n:Nat) (v:Value),(a.put (some n) v).tmps.size=a.tmps.size:=λa n v=>by simp[Act.put]
 have hh:(a.put (some d0) (.agg us.toArray)).tmps.getD d0 undef=.agg us.toArray:=by rw[Ja a d0 _ l0 d0,if_pos rfl]
 generalize hae:a.put (some d0) (.agg us.toArray)=aa at hh;have ih:=hK.call y mp w F1 us hx.live nm;obtain⟨fn,ju,kb,ha⟩:=hK.fn
 have nq:(execOp aa.eval o1).run P w=.ok (.enter f #[.agg us.toArray]) w:=by
  obtain⟨dst,op,ty,pos,aft,gd⟩:=o1;simp only[]at p1;subst p1;have ke:¬ fn.name="runtime.NumGoroutine":=by simpa using kb
  have he:¬ fn.body=none:=by intro e;rw[e]at ha;simp at ha
  rw[aaq]at hh;simp[execOp,resolve,acY,Deferred.ofValue,invoke,callFunc,ju,ke,he,hh]
 unfold Oper.wp;rw[nq,Oper.upon_enter];refine ih.mono ?_;rintro e w1 ⟨vs,F2,ob,rfl,kr,pp,lp,u,ou,hr⟩;have hi:fr.B<=w.heap.size:=aaL hs.base hs.kept.size;have km:Ua F1 w F2 w1:=⟨kr.os,kr.tape,kr.output,kr.size,λj hj=>kr.block j hj (by simp),kr.sub,kr.new⟩;have hx1:=hx.grow hi km kr.live;show wpOps P _ _ _ (aa.put o1.dst (.agg vs.toArray)) w1;rw[q1,aaQ];refine va a2 g2 ?_;obtain⟨zs,px,mt⟩:=Y3 (a:=aa.put (some d1) (.agg vs.toArray)) (w:=w1) p2 ix;refine Xa mt ?_;rw[q2,aaQ];have ki:=Ua.alloc F2 w1 (.cells zs.toArray t);have kq:Live F2 (w1.alloc (.cells zs.toArray t)):=Live.grow kr.live ki;have pt:=hx1.grow (aaL hi kr.size) ki kq;have hy:Blk (w1.alloc (.cells zs.toArray t)) w1.heap.size zs:=Blk.new zs t;generalize hw2:w1.alloc (.cells zs.toArray t)=w2 at ki kq pt hy;have ks:aa.tmps.size=a.tmps.size:=by rw[<-hae];exact oj _ _ _
 have hm:((aa.put (some d1) (.agg vs.toArray)).put (some x) (.pointer (some ⟨w1.heap.size,0,none⟩))).tmps.getD x undef=.pointer (some ⟨w1.heap.size,0,none⟩):=by rw[Ja _ x _ (by rw[oj,ks];exact lx) x,if_pos rfl]
 have hl:((aa.put (some d1) (.agg vs.toArray)).put (some x) (.pointer (some ⟨w1.heap.size,0,none⟩))).tmps.getD d1 undef=.agg vs.toArray:=by rw[Ja _ x _ (by rw[oj,ks];exact lx) d1,if_neg (li py),Ja _ d1 _ (by rw[ks];exact l1) d1,if_pos rfl]
 have io:(Value.agg vs.toArray).cells.toList=vs:=rfl;have pi:vs.length=6:=pp.length.symm;have ps:RCs F2 0 w2 (cells .sess (v y)) vs:=pp.grow ki kr.live;refine va a3 g3 ?_;refine Nj (gE p3 hm ix hy hl (by rw[io];exact pi.trans hsz.symm) (by rw[io];omega) (by rw[io];exact FQ ps)) ?_;rw[q3,io,CQ (by omega)];refine xc _ ?_;have hp:=Blk.poke hy vs;have jb:∀s' i,ow s' i≠some w1.heap.size:=λs' i h=>by have:=(hx1.bd _ _ _ h).1;omega
 have kz:∀o,¬ F2 w1.heap.size o:=λo h=>by have:=kr.live.lt h;omega
 have nt:Df F2 w2 (w2.setRow w1.heap.size vs.toArray):=hp.same kz;let ow':Nat->Option Nat->Option Nat:=λn i=>if n=x then(match i with|none=>some w1.heap.size|some j=>if j=3 then ob else none) else ow n i
 have ot:∀n,Ga (da S.env n)=false->n≠x->((((aa.put (some d1) (.agg vs.toArray)).put (some x) (.pointer (some ⟨w1.heap.size,0,none⟩))).put none undef).tmps.getD n undef)=a.tmps.getD n undef:=λn hn hnx=>by
  show(((aa.put (some d1) (.agg vs.toArray)).put (some x) (.pointer (some ⟨w1.heap.size,0,none⟩))).tmps.getD n undef)=_;have ky:n≠d1:=λe=>by rw[e,k3]at hn;cases hn
  have kx:n≠d0:=λe=>by rw[e,k2]at hn;cases hn
  rw[Ja _ x _ (by rw[oj,ks];exact lx) n,if_neg hnx,Ja _ d1 _ (by rw[ks];exact l1) n,if_neg ky,<-hae,Ja _ d0 _ l0 n,if_neg kx]
 have lb:∀b,ob=some b->(∀s i,ow s i≠some b)/\b<w1.heap.size/\fr.B<=b:=λb hb=>by
  obtain⟨h1,h2⟩:=lp b hb;exact⟨λs' i h=>by have:=(hx.bd _ _ _ h).1;omega,h2,by omega⟩
 have pv:ja fr.B fr.IoB fr.F0 ((x,Od (v y))::S.env) (λn=>(((aa.put (some d1) (.agg vs.toArray)).put (some x) (.pointer (some ⟨w1.heap.size,0,none⟩))).put none undef).tmps.getD n undef) (w2.setRow w1.heap.size vs.toArray) F2 ow':=by
  refine⟨pt.sub,pt.new,pt.sub.pk pt.live hp.toPk (.inl (aaL hi kr.size)) λb o hb=>by rw[nt b o hb];exact pt.live b o hb,λn i n' i' b h h'=>?_,λn i b h=>?_,λn=>?_⟩
  .by_cases h1:n=x
   .by_cases h2:n'=x
    .refine⟨h1.trans h2.symm,?_⟩;simp only[ow',h1,h2,if_true]at h h';cases i with
     |none=>
      cases i' with
      |none=>rfl
      |some j=>
       simp only[aal]at h;subst h;simp only[]at h';split at h'
       .have:=(lb _ h').2.1;omega
       .cases h'
     |some j=>
      cases i' with
      |none=>
       simp only[aal]at h';subst h';simp only[]at h;split at h
       .have:=(lb _ h).2.1;omega
       .cases h
      |some j'=>
       simp only[]at h h';split at h
       .split at h'
        .rename_i hj hj';rw[hj,hj']
        .cases h'
       .cases h
    .simp only[ow',h1,h2,if_true,if_false]at h h';cases i with
     |none=>simp only[aal]at h;subst h;exact absurd h' (jb _ _)
     |some j=>
      simp only[]at h;split at h
      .exact absurd h' ((lb _ h).1 _ _)
      .cases h
   .by_cases h2:n'=x
    .simp only[ow',h1,h2,if_true,if_false]at h h';cases i' with
     |none=>simp only[aal]at h';subst h';exact absurd h (jb _ _)
     |some j=>
      simp only[]at h';split at h'
      .exact absurd h ((lb _ h').1 _ _)
      .cases h'
    .simp only[ow',h1,h2,if_false]at h h';exact hx.inj _ _ _ _ _ h h'
  .rw[hp.size];by_cases h1:n=x
   .simp only[ow',h1,if_true]at h;cases i with
    |none=>simp only[aal]at h;subst h;exact⟨hy.lt,.inl (aaL hi kr.size)⟩
    |some j=>
     simp only[]at h;split at h
     .obtain⟨_,h2,h3⟩:=lb _ h;exact⟨abg h2 ki.size,.inl h3⟩
     .cases h
   .simp only[ow',h1,if_false]at h;exact pt.bd _ _ _ h
  .by_cases h1:n=x
   .rw[h1];have kn:da ((x,Od (v y))::S.env) x=Od (v y):=by simp[da,aaW]
    rw[kn];have oy:=ps.poke hp.toPk nt;refine⟨w1.heap.size,vs,hm,by simp[ow'],hp.blk,kz,pi,λj kc u' hk hu'=>?_⟩
    have kj:∀ {c:C},(cells .sess (v y))[j]? = some c->RC F2 0 (w2.setRow w1.heap.size vs.toArray) c u':=λhc=>by
     obtain⟨v2,r1,r2⟩:=oy.get hc;rw[hu']at r1;cases r1;exact r2
    match j,hk with
    |0,hk=>simp at hk;subst hk;have h:=kj (c:=.int .i64 (v y).Plan.Kind) rfl;cases h;exact .int _ _
    |1,hk=>simp at hk;subst hk;have h:=kj (c:=.int .i64 (v y).Plan.Num) rfl;cases h;exact .int _ _
    |2,hk=>simp at hk;subst hk;exact kj rfl
    |3,hk=>
     simp at hk;subst hk;rw[ou]at hu';cases hu';have hw:(if x=x then(if(3:Nat)=3 then ob else none) else ow x (some 3))=ob:=by simp
     show Ca F2 0 _ (ow' x (some 3)) _ _;simp only[ow',if_true];exact Ca.poke hp.toPk nt (λe=>by have:=(lb _ e).2.1;omega) (hr.grow ki kr.live)
    |4,hk=>simp at hk;subst hk;exact kj rfl
    |5,hk=>simp at hk;subst hk;exact kj rfl
    |j+6,hk=>simp at hk
   .have kk:da ((x,Od (v y))::S.env) n=da S.env n:=by simp[da,Qf (n:=x) (d:=n) (λe=>h1 e.symm)]
    rw[kk];have hf:=kl k1 n;have h2:=pt.sr n;rw[Ze hf]at h2⊢;have how:ow' n=ow n:=by simp[ow',h1]
    rw[how];cases hdn:Ga (da S.env n) with
    |true=>cases kk:da S.env n<;>rw[kk]at hdn<;>first|trivial|(simp[Ga]at hdn)
    |false=>
     rw[ot n hdn h1];exact VR.poke hp.toPk nt (λi=>jb n i) h2
 have kp:Kept fr.B fr.IoB fr.W0 (w2.setRow w1.heap.size vs.toArray):=by
  refine hs.kept.trans ⟨hp.os.trans (ki.os.trans km.os),hp.tape.trans (ki.tape.trans km.tape),hp.output.trans (ki.output.trans km.output),by rw[hp.size];exact aaL km.size ki.size,λk hk _=>?_,λk o hk _=>?_⟩
  .have h1:k<w.heap.size:=abg hk hi;have h2:k<w1.heap.size:=abg h1 km.size;rw[hp.block k (by omega),ki.block k h2,km.block k h1]
  .have h1:k<w.heap.size:=(aaB.1 hk).1;have h2:k<w1.heap.size:=abg h1 km.size;rw[hp.block k (by omega),ki.block k h2,km.block k h1];exact hk
 have ie:Ie ((x,Od (v y))::S.env)=true:=by simp only[Ie,k1,acM];rfl
 have oo:=(hs.tmps.put k5 (.agg us.toArray)).put (a:=a.put (some d0) (.agg us.toArray)) k6 (.agg vs.toArray);refine⟨_,⟨?_,?_,hs.base,hs.f0,kp,F2,ow',pv⟩,q,ho,wa.cast ie hpn⟩
 .show aa.defers=[];rw[<-hae];exact hs.defers
 .rw[hae]at oo;exact oo.put (a:=aa.put (some d1) (.agg vs.toArray)) k7 _
theorem ja.tmD{B:Nat}{IoB:List Nat}{F0 F:Fz}{e:Env}{tm tm':Nat->Value}{w:World}{ow:Nat->Option Nat->Option Nat}(hs:ja B IoB F0 e tm w F ow)(hf:∀n,fc (da e n)=true)(h:∀n,Ga (da e n)=false->tm' n=tm n):ja B IoB F0 e tm' w F ow:=by
 refine⟨hs.sub,hs.new,hs.live,hs.inj,hs.bd,λn=>?_⟩;have h1:=hs.sr n;rw[Ze (hf n)]at h1⊢;cases hd:Ga (da e n) with
 |true=>cases hg:da e n<;>rw[hg]at hd<;>first|trivial|(simp[Ga]at hd)
 |false=>rw[h n hd];exact h1
def B4:K->Bool
 |.own _=>false
 |_=>true
theorem IQ(G:Good P tt sp)(t ti tr x m r f0 d m1 r1 ad:Nat)(fs:List (Nat×Nat))(n3:Nat){N:NP}{fr:Fr}{Cd:Code}{F:Fnn}{R A X Y Z:Type}{S:ac R A X Y Z}{y:Sess}{i:Int}{kr:K}{z:List Row}{q:A}(pat:List (Nat×Tk))(T:Tr R A X Y Z)
  (hT:T=.w [inb i (ba .lrow y.Ins)] (.l (.n q)):=by exact rfl) (ho:S.o=T.val:=by exact rfl) (hb:S.ob=T.ob:=by exact rfl)
  (hlk:(lk tt t).map (·.sh)=some (.struct fs):=by kernel_rfl) (hfs:fs[1]? = some (3,n3):=by kernel_rfl) (hli:(lk tt ti).map (λd=>(isAgg d,d.sh))=some (false,.slice tr):=by kernel_rfl) (hlr:(lk tt tr).map (·.size)=some 1:=by kernel_rfl)
  (hC:Ba Cd S.path=.region (ah (Ba Cd S.path)) (opsOf (Ba Cd S.path)) false:=by kernel_rfl)
  (hops:(opsOf (Ba Cd S.path)).toList.map (λo=>(o.op,o.dst,o.guard))=[(.fieldAddr t (.tmp x) 1,some f0,none),(.load ti (.tmp f0),some d,none),(.move (.tmp m),some m1,none),(.move (.tmp r),some r1,none),(.indexAddr ti (.tmp d) (.tmp m1),some ad,none),(.store tr (.tmp ad) (.tmp r1),none,none)]:=by kernel_rfl)
  (hok:(Pn x S.env&&(Ie S.env&&(Xg (λj=>Ga (da S.env j)&&N.ok j) [f0,d,m1,r1,ad]&&(!(Ga (da S.env x))&&(!(Ga (da S.env m))&&(!(Ga (da S.env r))&&(B4 kr&&(!(aau m1 r1)&&(!(aau m1 d)&&(!(aau r1 d)&&(!(aau r1 ad)&&(!(aau d f0)))))))))))))=true:=by kernel_rfl)
  (hg:da S.env x=Od y:=by kernel_rfl) (hm:da S.env m=.I i:=by kernel_rfl) (hr:da S.env r=.v kr (.lst .row z):=by kernel_rfl)
  (hpn:Wg (Ta S.env x (Od ⟨y.Plan,y.Ins.set i.toNat z,y.Front,y.Told⟩)) pat=some (S.pn q):=by kernel_rfl):ld P tt N fr Cd F S:=by
 intro lp a w hs;subst hT;rw[hb]at lp;obtain⟨kq,ks⟩ : inb i (ba .lrow y.Ins):=lp.1.1;simp only[aam,aaM,Xg,acM]at hok;obtain⟨kT,kF,⟨⟨u1,v1⟩,⟨u2,v2⟩,⟨u3,v3⟩,⟨u4,v4⟩,⟨u5,v5⟩⟩,kx,km,pp,kn,n1,n2,n4,n5,n6⟩:=hok;have lo:∀ {m n:Nat},aau m n=false->m≠n:=λh e=>by rw[e,aaW]at h;cases h
 have jb:∀ {m n:Nat},Ga (da S.env m)=true->Ga (da S.env n)=false->n≠m:=λh h' e=>by rw[e,h]at h';cases h'
 obtain⟨dt,io,it⟩:=aaT.1 hlk;obtain⟨di,ky,kz⟩:=aaT.1 hli;obtain⟨dr,mp,mt⟩:=aaT.1 hlr;simp only[aaD]at kz;have ix:=G.htt.td _ _ io;have ju:=G.htt.td _ _ ky;have hdr:=G.htt.td _ _ mp;obtain⟨F1,ow,hx⟩:=hs.rep;obtain⟨bX,us,e1,e2,e3,e4,e5,e6⟩:=hx.box hg;have e1:a.tmps.getD x undef=.pointer (some ⟨bX,0,none⟩):=e1;have ot:us.length=6:=e5;obtain⟨u,hu⟩ : ∃u,us[3]? = some u:=⟨_,aap (by omega)⟩;have hv:Ca F1 0 w (ow x (some 3)) (.lst .lrow y.Ins) u:=e6 3 _ u rfl hu;have kb:i.toNat<y.Ins.length:=by unfold ba at ks;omega
 obtain⟨b,cap,cb,oo,lx,hz,hf,ha⟩ : ∃b cap cb,u=.slice (some ⟨b,0,none⟩) y.Ins.length cap/\ow x (some 3)=some b/\Blk w b cb/\cb.length=cap/\y.Ins.length<=cap:=by
  obtain⟨nm,hd⟩:=hv;generalize y.Ins=ins at nm hd kb⊢;rcases hd with⟨t0,q1,q2⟩|⟨t0,ps,b,cap,cb,q1,q2,q3,q4,q5,q6⟩
  .have q1:C.lst .lrow ins=.lst t0 []:=q1;have h:=congrArg (λc=>match c with|C.lst _ xs=>xs.length|_=>0) q1;simp at h;rw[h]at kb;simp at kb
  .have q1:C.lst .lrow ins=.lst t0 ps:=q1;cases q1;rw[q2]at nm;cases nm with
   |lst _ _ _ _ _ _ _ ha _ _ _=>exact⟨b,cap,cb,q2,q3,q4,by rw[q5];exact aca _,ha⟩
 have li:a.tmps.getD m undef=.int .i64 i:=by
  have h:=hx.sr m;rw[hm]at h;have h:RC F1 fr.B w (.int .i64 i) (a.tmps.getD m undef):=h;exact h.ofInt
 have nq:RC F1 0 w (.lst .row z) (a.tmps.getD r undef):=by
  have h:=hx.sr r;rw[hr]at h;cases kr with
  |sh=>exact h
  |fr=>exact acb h
  |acc f=>exact acb h.1
  |own f=>cases kn
 generalize hvz:a.tmps.getD r undef=vz at nq;have lb:vz.oneCell'=true:=RC.one nq;have ox:vz.cells.toList=[vz]:=by cases nq<;>rfl
 have hw:∀(j:Nat) q,[((.fieldAddr t (.tmp x) 1:Op),some f0,(none:Option (Nat×Bool))),(.load ti (.tmp f0),some d,none),(.move (.tmp m),some m1,none),(.move (.tmp r),some r1,none),(.indexAddr ti (.tmp d) (.tmp m1),some ad,none),(.store tr (.tmp ad) (.tmp r1),none,none)][j]? = some q->∃o,(opsOf (Ba Cd S.path))[j]? = some o/\o.op=q.1/\o.dst=q.2.1/\o.guard=q.2.2:=λj q hq=>by
  rw[<-hops,ach]at hq;obtain⟨o,h1,h2⟩:=aaT.1 hq;exact⟨o,by rw[<-aar];exact h1,by rw[<-h2],by rw[<-h2],by rw[<-h2]⟩
 have hlen:(opsOf (Ba Cd S.path)).toList.length=6:=by have:=congrArg List.length hops;simpa using this
 obtain⟨o0,a0,p0,q0,g0⟩:=hw 0 _ rfl;obtain⟨o1,a1,p1,q1,g1⟩:=hw 1 _ rfl;obtain⟨o2,a2,p2,q2,g2⟩:=hw 2 _ rfl;obtain⟨o3,a3,p3,q3,g3⟩:=hw 3 _ rfl;obtain⟨o4,a4,p4,q4,g4⟩:=hw 4 _ rfl;obtain⟨o5,a5,p5,q5,g5⟩:=hw 5 _ rfl;have nl:acG (opsOf (Ba Cd S.path)).size=[0,1,2,3,4,5]:=by rw[show(opsOf (Ba Cd S.path)).size=6 by simpa using hlen];rfl
 have nt:∀(a:Act) (n:Nat) (v:Value),(a.put (some n) v).tmps.size=a.tmps.size:=λa n v=>by simp[Act.put]
 have ke:∀ {j:Nat},N.ok j=true->j<a.tmps.size:=λh=>by rw[hs.tmps.size];exact abW h
 refine Kc hC nl ?_;rw[aaQ];refine va a0 g0 ?_;refine Xa (Fi p0 e1 ix it hfs) ?_;rw[q0,aaQ,aaw];generalize hA1:a.put (some f0) (.pointer (some ⟨bX,3,none⟩))=A1;have hh:A1.tmps.size=a.tmps.size:=by rw[<-hA1];exact nt _ _ _
 have G1:∀n,A1.tmps.getD n undef=if n=f0 then .pointer (some ⟨bX,3,none⟩) else a.tmps.getD n undef:=λn=>by rw[<-hA1];exact Ja a f0 _ (ke v1) n
 refine va a1 g1 ?_;refine Xa (sg p1 (by rw[G1 f0,if_pos rfl]) ju kz.1 (u:=u) (by rw[e3.cell];exact hu)) ?_;rw[q1,aaQ];generalize hA2:A1.put (some d) u=A2;have hi:A2.tmps.size=a.tmps.size:=by rw[<-hA2,nt];exact hh
 have G2:∀n,A2.tmps.getD n undef=if n=d then u else A1.tmps.getD n undef:=λn=>by rw[<-hA2];exact Ja A1 d _ (by rw[hh];exact ke v2) n
 refine va a2 g2 ?_;refine Xa (cf p2) ?_;rw[q2,aaQ,G2 m,if_neg (jb u2 km),G1 m,if_neg (jb u1 km),li];generalize hA3:A2.put (some m1) (.int .i64 i)=A3;have hj:A3.tmps.size=a.tmps.size:=by rw[<-hA3,nt];exact hi
 have G3:∀n,A3.tmps.getD n undef=if n=m1 then .int .i64 i else A2.tmps.getD n undef:=λn=>by rw[<-hA3];exact Ja A2 m1 _ (by rw[hi];exact ke v3) n
 refine va a3 g3 ?_;refine Xa (cf p3) ?_;rw[q3,aaQ,G3 r,if_neg (jb u3 pp),G2 r,if_neg (jb u2 pp),G1 r,if_neg (jb u1 pp),hvz];generalize hA4:A3.put (some r1) vz=A4;have hl:A4.tmps.size=a.tmps.size:=by rw[<-hA4,nt];exact hj
 have G4:∀n,A4.tmps.getD n undef=if n=r1 then vz else A3.tmps.getD n undef:=λn=>by rw[<-hA4];exact Ja A3 r1 _ (by rw[hj];exact ke v4) n
 have ou:P.underlying ti=some (.slice tr):=by
  obtain⟨uu,h1,h2⟩:=ju.und;rw[kz.2]at h2;rw[h1,h2]
 refine va a4 g4 ?_;refine Xa (Z3 p4 (k:=.i64) (i:=i) (b:=b) (f:=0) (len:=y.Ins.length) (cap:=cap) (sz:=1) (by rw[G4 m1,if_neg (lo n1),G3 m1,if_pos rfl]) (by rw[G4 d,if_neg (λe=>lo n4 e.symm),G3 d,if_neg (λe=>lo n2 e.symm),G2 d,if_pos rfl];exact oo) kq (by unfold ba at ks;exact ks) ou (λw=>by rw[<-mt];exact hdr.size w)) ?_;rw[q4,aaQ,aaw,aca];generalize hA5:A4.put (some ad) (.pointer (some ⟨b,i.toNat,none⟩))=A5;have ht:A5.tmps.size=a.tmps.size:=by rw[<-hA5,nt];exact hl
 have G5:∀n,A5.tmps.getD n undef=if n=ad then .pointer (some ⟨b,i.toNat,none⟩) else A4.tmps.getD n undef:=λn=>by rw[<-hA5];exact Ja A4 ad _ (by rw[hl];exact ke v5) n
 refine va a5 g5 ?_;refine Nj (gE p5 (by rw[G5 ad,if_pos rfl]) hdr hz (v:=vz) (by rw[G5 r1,if_neg (lo n5),G4 r1,if_pos rfl]) (by rw[ox];exact mt.symm) (by rw[ox,hf];simp only[abI];omega) (by rw[ox];intro u' oj;simp at oj;subst oj;exact lb)) ?_;rw[q5,ox];refine xc _ ?_;have hp:=Blk.poke hz (Bb cb i.toNat [vz]);have kj:i.toNat+[vz].length<=cb.length:=by rw[hf];simp only[abI];omega
 have he:∀k,(w.setRow b (Bb cb i.toNat [vz]).toArray).cell? ⟨b,k,none⟩=if i.toNat<=k/\k<i.toNat+1 then [vz][k - i.toNat]? else cb[k]?:=λk=>by
  rw[hp.blk.cell,As kj k];rfl
 have ih:(Od y)=.box [(.fr,.i y.Plan.Kind),(.fr,.i y.Plan.Num),(.sh,.lst .plan y.Plan.Kids),(.acc false,.lst .lrow y.Ins),(.sh,.lst .time y.Front),(.sh,.lst .row y.Told)]:=rfl
 have oy:=hx.pokeL hs.f0 (s:=x) (j:=3) (f:=false) (t:=.lrow) (xs:=y.Ins) (hg.trans ih) rfl rfl kT rfl e1 (u:=u) (by rw[e3.cell];exact hu) oo (i:=i.toNat) kb (y:=z) (vy:=vz) (λc hc=>by simp[cells]at hc;subst hc;exact nq) hp.toPk
  (λk hk=>by rw[he k,if_neg (by omega),hz.cell]) (by rw[he,if_pos (by omega),acl];rfl) (λvs hvs=>⟨Bb cb i.toNat [vz],hp.blk,by rw[dl kj,Blk.inj hvs hz]⟩)
 have ki:da (Ta S.env x (.box ([(K.fr,C.i y.Plan.Kind),(.fr,.i y.Plan.Num),(.sh,.lst .plan y.Plan.Kids),(.acc false,.lst .lrow y.Ins),(.sh,.lst .time y.Front),(.sh,.lst .row y.Told)].set 3 (.acc false,.lst .lrow (y.Ins.set i.toNat z)))))=da (Ta S.env x (Od ⟨y.Plan,y.Ins.set i.toNat z,y.Front,y.Told⟩)):=rfl
 have kk:∀n,fc (da (Ta S.env x (Od ⟨y.Plan,y.Ins.set i.toNat z,y.Front,y.Told⟩)) n)=true:=λn=>by
  rw[Ka];split
  .rfl
  .exact kl kF n
 have ie:∀ {n j:Nat},Ga (da S.env j)=true->Ga (da (Ta S.env x (Od ⟨y.Plan,y.Ins.set i.toNat z,y.Front,y.Told⟩)) n)=false->n≠j:=λ{n j} h h' e=>by
  subst e;rw[Ka]at h';split at h'
  .rename_i e2;subst e2;rw[h]at kx;cases kx
  .rw[h]at h';cases h'
 have pi:=(oy:ja fr.B fr.IoB fr.F0 (Ta S.env x (Od ⟨y.Plan,y.Ins.set i.toNat z,y.Front,y.Told⟩)) (λn=>a.tmps.getD n undef) _ F1 ow).tmD (tm':=λn=>(A5.put none undef).tmps.getD n undef) kk (λn hn=>by
  show A5.tmps.getD n undef=_;rw[G5 n,if_neg (ie u5 hn),G4 n,if_neg (ie u4 hn),G3 n,if_neg (ie u3 hn),G2 n,if_neg (ie u2 hn),G1 n,if_neg (ie u1 hn)])
 have hy:Mn fr.B fr.IoB b:=(hx.bd _ _ _ lx).2
 have kc:Kept fr.B fr.IoB fr.W0 (w.setRow b (Bb cb i.toNat [vz]).toArray):=by
  refine hs.kept.trans ⟨hp.os,hp.tape,hp.output,by rw[hp.size];exact aaz _,λk hk hio=>hp.block k (λe=>?_),λk o hk hc=>by
   rw[hp.block k (λe=>by rw[e]at hk;rw[hz.isC hk]at hc;cases hc)];exact hk⟩
  subst e;exact hy.elim (λh=>by omega) hio
 have kp:Ie (Ta S.env x (Od ⟨y.Plan,y.Ins.set i.toNat z,y.Front,y.Told⟩))=true:=by simp only[Ta,Ie,kF,acM];rfl
 have T1:=hs.tmps.put v1 (.pointer (some ⟨bX,3,none⟩));rw[hA1]at T1;have T2:=T1.put (a:=A1) v2 u;rw[hA2]at T2;have T3:=T2.put (a:=A2) v3 (.int .i64 i);rw[hA3]at T3;have T4:=T3.put (a:=A3) v4 vz;rw[hA4]at T4;have T5:=T4.put (a:=A4) v5 (.pointer (some ⟨b,i.toNat,none⟩));rw[hA5]at T5;refine⟨_,⟨?_,T5,hs.base,hs.f0,kc,F1,ow,pi⟩,q,ho,wa.cast kp hpn⟩;show A5.defers=[];rw[<-hA5,<-hA4,<-hA3,<-hA2,<-hA1];exact hs.defers
end
abbrev Tab:=List (List Bool×Env)
def eqL:List Bool->List Bool->Bool
 |[],[]=>true
 |true::r,true::s=>eqL r s
 |false::r,false::s=>eqL r s
 |_,_=>false
theorem iE:∀ {a b:List Bool},eqL a b=true->a=b
 |[],[],_=>rfl
 |true::r,true::s,h=>by rw[iE (a:=r) (b:=s) h]
 |false::r,false::s,h=>by rw[iE (a:=r) (b:=s) h]
 |true::_,false::_,h=>by simp[eqL]at h
 |false::_,true::_,h=>by simp[eqL]at h
 |[],_::_,h=>by simp[eqL]at h
 |_::_,[],h=>by simp[eqL]at h
def lkT:Tab->List Bool->Option Env
 |[],_=>none
 |(K,e)::r,L=>match eqL K L with
  |true=>some e
  |false=>lkT r L
theorem JQ:∀ {T:Tab}{L:List Bool}{e:Env},lkT T L=some e->(L,e)∈T
 |[],_,_,h=>by cases h
 |(K,e1)::r,L,e,h=>by
  simp only[lkT]at h;split at h
  .rename_i hb;cases h;rw[iE hb];exact abl
  .exact abP _ (JQ h)
def eh(e:Env):List Nat->Env
 |[]=>[]
 |k::r=>(k,da e k)::eh e r
def inK(n:Nat):List Nat->Bool
 |[]=>false
 |k::r=>aau k n||inK n r
def yl(ks:List Nat):Env->Bool
 |[]=>true
 |(n,_)::r=>inK n ks&&yl ks r
theorem LQ{e:Env}{n:Nat}:∀ {ks:List Nat},da (eh e ks) n=match inK n ks with
  |true=>da e n
  |false=>.dead
 |[]=>rfl
 |k::r=>by
  simp only[eh,da,inK];cases hb:aau k n with
  |true=>rw[aan hb];rfl
  |false=>exact LQ (ks:=r)
theorem MQ{ks:List Nat}{n:Nat}(hn:inK n ks=false):∀ {e:Env},yl ks e=true->da e n=.dead
 |[],_=>rfl
 |(m,a)::r,h=>by
  simp only[yl,aam]at h;simp only[da];cases hb:aau m n with
  |true=>rw[aan hb,hn]at h;cases h.1
  |false=>exact MQ hn h.2
theorem NQ{ks:List Nat}{e:Env}(h:yl ks e=true):da e=da (eh e ks):=funext λn=>by
 rw[LQ];cases hn:inK n ks with
 |true=>rfl
 |false=>exact MQ hn h
theorem ja.sameE{B:Nat}{IoB:List Nat}{F0 F:Fz}{e e':Env}{tm:Nat->Value}{w:World}{ow:Nat->Option Nat->Option Nat}(hs:ja B IoB F0 e tm w F ow)(h:da e=da e'):ja B IoB F0 e' tm w F ow:=⟨hs.sub,hs.new,hs.live,hs.inj,hs.bd,λs=>by rw[<-h];exact hs.sr s⟩
theorem Sim.sameE{N:NP}{B:Nat}{IoB:List Nat}{W0:World}{F0:Fz}{e e':Env}{a:Act}{w:World}(hs:Sim N B IoB W0 F0 e a w)(h:da e=da e'):Sim N B IoB W0 F0 e' a w:=⟨hs.defers,hs.tmps,hs.base,hs.f0,hs.kept,by obtain⟨F,ow,hx⟩:=hs.rep;exact⟨F,ow,hx.sameE h⟩⟩
def prs(all:List Oper):Tab->List (List Bool×Env×Nat)
 |[]=>[]
 |(L,e)::r=>(yc L all 0).map (λi=>(L,e,i))++prs all r
theorem PQ{all:List Oper}{L:List Bool}{e:Env}{i:Nat}(hi:i∈yc L all 0):∀ {T:Tab},(L,e)∈T->(L,e,i)∈prs all T
 |(K,d)::r,h=>by
  simp only[prs,aaX];rcases aaA.1 h with h|h
  .cases h;exact .inl (aaP.2 ⟨i,hi,rfl⟩)
  .exact .inr (PQ hi h)
abbrev Rw:=Option (Env×Bool×List Prop)
def RQ(tt:TT)(sp:SP)(ds:List (Option Nat))(all:List Oper)(ks:List Nat):List Bool×Env×Nat->Rw
 |(_,e,i)=>match all[i]? with
  |some o=>match stepF tt sp ds e o with
   |some (e1,p)=>some (eh e1 ks,yl ks e1,p)
   |none=>some ([],false,[])
  |none=>some ([],false,[])
def SQ(T:Tab)(obs:List (List Prop)):List Bool×Env×Nat->Rw
 |(L,_,i)=>match lkT T (L.set i true) with
  |some e=>some (e,true,obs.getD i [])
  |none=>none
def Tj(tt:TT)(sp:SP)(ds:List (Option Nat))(all:List Oper)(ks:List Nat):Tab->List (List Bool×Env×Nat)->Tab
 |T,[]=>T
 |T,(L,e,i)::r=>match lkT T (L.set i true) with
  |some _=>Tj tt sp ds all ks T r
  |none=>match all[i]? with
   |some o=>match stepF tt sp ds e o with
    |some (e1,_)=>Tj tt sp ds all ks (T++[(L.set i true,eh e1 ks)]) r
    |none=>Tj tt sp ds all ks T r
   |none=>Tj tt sp ds all ks T r
def ends(keep:List Nat)(all:List Oper):Tab->List Env
 |[]=>[]
 |(L,e)::r=>match yc L all 0 with
  |[]=>mask (clean (settle keep keep e)) keep::ends keep all r
  |_=>ends keep all r
theorem jE{keep:List Nat}{all:List Oper}{L:List Bool}{e:Env}(hr:yc L all 0=[]):∀ {T:Tab},(L,e)∈T->mask (clean (settle keep keep e)) keep∈ends keep all T
 |(K,d)::r,h=>by
  simp only[ends];rcases aaA.1 h with h|h
  .cases h;rw[hr];exact abl
  .split
   .exact abP _ (jE hr h)
   .exact jE hr h
def Rn(tt:TT)(sp:SP)(keep ks:List Nat)(ds:List (Option Nat))(all:List Oper):Nat->Tab->List (List Rw×List Env)
 |0,T=>[([],ends keep all T)]
 |n+1,T=>((prs all T).map (RQ tt sp ds all ks),ends keep all T)::Rn tt sp keep ks ds all n (Tj tt sp ds all ks [] (prs all T))
def Sn(tt:TT)(sp:SP)(keep ks:List Nat)(ds:List (Option Nat))(all:List Oper)(obs:List (List Prop))(fin:Env):Nat->Tab->List (List Rw×List Env)
 |0,T=>[([],(ends keep all T).map λ_=>fin)]
 |n+1,T=>((prs all T).map (SQ (Tj tt sp ds all ks [] (prs all T)) obs),(ends keep all T).map λ_=>fin)::Sn tt sp keep ks ds all obs fin n (Tj tt sp ds all ks [] (prs all T))
def kE(tt:TT)(sp:SP)(ds:List (Option Nat)):List Oper->Env->List (List Prop)
 |[],_=>[]
 |o::r,e=>match stepF tt sp ds e o with
  |some (e1,p)=>p::kE tt sp ds r e1
  |none=>[]
def zl:List (List Prop)->List Prop
 |[]=>[]
 |p::r=>p++zl r
theorem TQ:∀ {l:List (List Prop)}{i:Nat}{x:Prop},x∈l.getD i []->x∈zl l
 |[],i,x,h=>by simp at h
 |p::r,0,x,h=>by simp only[zl,aaX];exact .inl h
 |p::r,i+1,x,h=>by simp only[zl,aaX];exact .inr (TQ (l:=r) (i:=i) (by simpa using h))
theorem VQ{α β:Type}{f g:α->β}:∀ {l:List α},l.map f=l.map g->∀x∈l,f x=g x
 |y::r,h,x,hx=>by
  simp only[aby,abQ]at h;rcases aaA.1 hx with rfl|hx
  .exact h.1
  .exact VQ h.2 x hx
theorem lE{α:Type}{c:α}:∀ {l:List α},l=l.map (λ_=>c)->∀x∈l,x=c
 |y::r,h,x,hx=>by
  simp only[aby,abQ]at h;rcases aaA.1 hx with rfl|hx
  .exact h.1
  .exact lE h.2 x hx
theorem mE{j:Nat}:∀ {L:List Bool},L.getD j true=false->0<L.count false/\(L.set j true).count false+1=L.count false:=by
 induction j with
 |zero=>
  intro L h;cases L with
  |nil=>simp at h
  |cons a r=>
   have h:a=false:=by simpa using h
   subst h;simp
 |succ j ih=>
  intro L h;cases L with
  |nil=>simp at h
  |cons a r=>
   obtain⟨h1,h2⟩:=ih (L:=r) (by simpa using h);simp only[acP,List.count_cons];omega
section
variable {P:aav}{tt:TT}{sp:SP}{B:Nat}{IoB:List Nat}{F0:Fz}{N:NP}{W0:World}
theorem C4(htt:dc P tt)(hsp:∀f s,spk sp f=some s->Con P f s){ops:Array Oper}(hdst:Sf N ops.toList=true){keep ks:List Nat}{fin:Env}{obs:List (List Prop)}(hps:∀p∈zl obs,p)
  {Q:Exit->Act->World->Prop} (hQ:∀a w,Sim N B IoB W0 F0 fin a w->Q .normal a w) :
  ∀ (n:Nat) (T:Tab) (listed:Array Bool) (e:Env) (a:Act) (w:World),Rn tt sp keep ks (ops.toList.map (·.dst)) ops.toList n T=Sn tt sp keep ks (ops.toList.map (·.dst)) ops.toList obs fin n T->(listed.toList,e)∈T->listed.toList.count false<=n ->
    Sim N B IoB W0 F0 e a w->wpAny P .any ops Q n listed a w:=by
 have hn:∀(listed:Array Bool) j,j∈yc listed.toList ops.toList 0↔j∈aaI .any ops listed:=by
  intro listed j;rw[Nn,mem_ready]
  have hL:∀k b,listed.toList.getD k b=listed.getD k b:=λk b=>by
   rw[aaq,aao,aar]
  simp only[hL];constructor
  .rintro⟨k,o,h1,h2,h3,h4⟩;rw[aaw]at h1;subst h1;exact⟨h3,o,by rw[<-aar];exact h2,λe he=>h4 e (by simpa using he)⟩
  .rintro⟨h1,o,h2,h3⟩;exact⟨j,o,by omega,by rw[aar];exact h2,h1,λe he=>h3 e (by simpa using he)⟩
 have hh:∀ {T:Tab}{listed:Array Bool}{e:Env}{a:Act}{w:World},ends keep ops.toList T=(ends keep ops.toList T).map (λ_=>fin)->(listed.toList,e)∈T->yc listed.toList ops.toList 0=[]->Sim N B IoB W0 F0 e a w->Q .normal a w:=by
  intro T listed e a w h hm hr hs;have h1:=lE h _ (jE hr hm);have:=hs.settle.cleanMask (e:=settle keep keep e) keep;rw[h1]at this;exact hQ a w this
 have hq:∀ {listed:Array Bool},aaI .any ops listed=[]->yc listed.toList ops.toList 0=[]:=by
  intro listed h;cases hr:yc listed.toList ops.toList 0 with
  |nil=>rfl
  |cons j r=>
   have:j∈yc listed.toList ops.toList 0:=by rw[hr];simp
   rw[hn,h]at this;cases this
 intro n
 induction n with
 |zero=>
  intro T listed e a w h hm hc hs;simp only[Rn,Sn,abQ,aaD]at h
  have hr:yc listed.toList ops.toList 0=[]:=by
   cases hr:yc listed.toList ops.toList 0 with
   |nil=>rfl
   |cons j r=>
    have hj:j∈yc listed.toList ops.toList 0:=by rw[hr];simp
    obtain⟨k,o,h1,h2,h3,h4⟩:=Nn.1 hj;have:=(mE h3).1;omega
  refine⟨?_,hh h.1.2 hm hr hs⟩;cases hr':aaI .any ops listed with
  |nil=>rfl
  |cons j r=>
   have:j∈aaI .any ops listed:=by rw[hr'];simp
   rw[<-hn,hr]at this;cases this
 |succ n ih=>
  intro T listed e a w h hm hc hs;simp only[Rn,Sn,abQ,aaD]at h;obtain⟨⟨h1,h2⟩,h3⟩:=h;refine⟨λhr=>hh h2 hm (hq hr) hs,λi hi=>?_⟩;have hk:=(hn listed i).2 hi;obtain⟨_,_,_,_,hl,_⟩:=Nn.1 hk;have hu:=VQ h1 _ (PQ hk hm);obtain⟨_,o,ho,_⟩:=mem_ready.1 hi;have ht:ops.toList[i]? = some o:=by rw[aar];exact ho
  simp only[RQ,SQ,ht]at hu;cases hst:stepF tt sp (ops.toList.map (·.dst)) e o with
  |none=>
   rw[hst]at hu;simp only[]at hu;split at hu
   .simp at hu
   .cases hu
  |some q=>
   obtain⟨e1,p⟩:=q;rw[hst]at hu;simp only[]at hu;split at hu
   .rename_i e2 hlk;simp only[aal,aaD]at hu;obtain⟨r1,r2,r3⟩:=hu;have hp:∀x∈p,x:=λx hx=>hps x (TQ (i:=i) (by rw[<-r3];exact hx))
    have h4:=qn htt hsp hs hst hp (λd hd=>Dj hdst i o ht d hd) (Q:=Q) (next:=wpAny P .any ops Q n (listed.setIfInBounds i true))
     (λa' w' hs'=>ih _ (listed.setIfInBounds i true) e2 a' w' h3 (by rw[aaK];exact JQ hlk) (by rw[aaK];have:=(mE hl).2;omega) (by rw[<-r1];exact hs'.sameE (NQ r2)))
    unfold wpOp;rw[ho];simp only[];by_cases hw:aaU o (abZ ops a.tmps)=true
    .rw[if_pos hw]at h4⊢;exact .inl h4
    .rw[if_neg hw]at h4⊢;exact h4
   .cases hu
theorem Ft(G:Good P tt sp){fr:Fr}{C:Code}{F:Fnn}{R A X Y Z:Type}{S:ac R A X Y Z}(keep ks:List Nat){q:A}{ps:List Prop}(T:Tr R A X Y Z)(hT:T=.w ps (.l (.n q)):=by exact rfl)(ho:S.o=T.val:=by exact rfl)(hb:S.ob=T.ob:=by exact rfl)
  (hC:Ba C S.path=.region (ah (Ba C S.path)) (opsOf (Ba C S.path)) true:=by kernel_rfl) (hd:Sf N (opsOf (Ba C S.path)).toList=true:=by kernel_rfl) (hk:yl ks (clean S.env)=true:=by kernel_rfl)
  (hps:zl (kE tt sp ((opsOf (Ba C S.path)).toList.map (·.dst)) (opsOf (Ba C S.path)).toList (eh (clean S.env) ks))=ps:=by kernel_rfl)
  (h:Rn tt sp keep ks ((opsOf (Ba C S.path)).toList.map (·.dst)) (opsOf (Ba C S.path)).toList (opsOf (Ba C S.path)).size [(abu (opsOf (Ba C S.path)).size false,eh (clean S.env) ks)] =
    Sn tt sp keep ks ((opsOf (Ba C S.path)).toList.map (·.dst)) (opsOf (Ba C S.path)).toList (kE tt sp ((opsOf (Ba C S.path)).toList.map (·.dst)) (opsOf (Ba C S.path)).toList (eh (clean S.env) ks)) (S.pn q) (opsOf (Ba C S.path)).size [(abu (opsOf (Ba C S.path)).size false,eh (clean S.env) ks)]:=by kernel_rfl) :
  ld P tt N fr C F S:=by
 intro hh a w hs;subst hT;rw[hb]at hh;rw[hC];refine acf G.hm (C4 (keep:=keep) (ks:=ks) G.htt G.hsp hd (by rw[hps];exact ga.all hh.1) (λa w hs=>⟨_,hs,q,ho,λ_ _ _ _ _ _ _ hs=>hs⟩) _ _ _ _ a _ h (by rw[aaS];exact aaZ _) ?_ ((hs.clean.drew _).sameE (NQ hk)));rw[aaS];exact aaL List.count_le_length (by rw[List.length_replicate];exact aaz _)
end
def Hd(n:Nat):List Oper->Nat->Option Nat
 |[],_=>none
 |o::r,i=>match o.dst with
  |some d=>match aau d n with
   |true=>some i
   |false=>Hd n r (i+1)
  |none=>Hd n r (i+1)
def Uj(j:Nat):List Edge->Bool
 |[]=>false
 |e::r=>(aay .any e&&aau e.on j)||Uj j r
def hasK(n:Nat):Env->Bool
 |[]=>false
 |(m,_)::r=>aau m n||hasK n r
def Tn(Wa:List Oper)(e0 hl:Env)(o:Oper):Get:=λn=>match Hd n Wa 0 with
 |some j=>match Uj j o.after.toList with
  |true=>da hl n
  |false=>.dead
 |none=>da e0 n
def mkH(tt:TT)(sp:SP)(ds:List (Option Nat))(Wa:List Oper)(e0:Env):List Oper->Nat->Env->List (Nat×List Prop)->Option (Env×List (Nat×List Prop))
 |[],_,hl,ps=>some (hl,ps)
 |o::r,i,hl,ps=>match o.guard,o.dst with
  |none,some d=>match hasK d hl,stepW tt sp ds Qg (Tn Wa e0 hl o) [] o with
   |false,some ([(d',v)],p)=>match aau d d' with
    |true=>mkH tt sp ds Wa e0 r (i+1) ((d',v)::hl) (tg i p ps)
    |false=>none
   |_,_=>none
  |_,_=>none
def Un(Wa:List Oper):List Oper->Nat->Bool
 |[],_=>true
 |o::r,i=>(match o.dst with
  |some d=>match Hd d Wa 0 with
   |some j=>aau j i
   |none=>false
  |none=>false)&&Un Wa r (i+1)
def Vn(i:Nat):List Edge->Bool
 |[]=>true
 |e::r=>(!Region.binds .any e||Nat.blt e.on i)&&Vn i r
def Al:List Oper->Nat->Bool
 |[],_=>true
 |o::r,i=>Vn i o.after.toList&&Al r (i+1)
def Wn(x:Nat)(l:List Edge):Nat->Bool
 |0=>true
 |j+1=>(aau j x||Uj j l)&&Wn x l j
def Xn(x m:Nat):List Oper->Bool
 |[]=>true
 |o::r=>Wn x o.after.toList m&&Xn x m r
theorem oE{j:Nat}:∀ {l:List Edge},Uj j l=true->∃e∈l,aay .any e=true/\e.on=j
 |e::r,h=>by
  simp only[Uj,aaF,aam]at h;rcases h with h|h
  .exact⟨e,abl,h.1,aan h.2⟩
  .obtain⟨e',h1,h2⟩:=oE h;exact⟨e',abP _ h1,h2⟩
theorem Gt{n j:Nat}:∀ {l:List Oper}{i:Nat},Hd n l i=some j->∃k o,j=i+k/\l[k]? = some o/\o.dst=some n
 |o::r,i,h=>by
  have step:Hd n r (i+1)=some j->∃k o',j=i+k/\(o::r)[k]? = some o'/\o'.dst=some n:=λh=>by
   obtain⟨k,o',h1,h2,h3⟩:=Gt h;exact⟨k+1,o',by omega,by simpa using h2,h3⟩
  simp only[Hd]at h;split at h
  .rename_i d hd;split at h
   .rename_i hb;cases h;exact⟨0,o,rfl,rfl,by rw[hd,aan hb]⟩
   .exact step h
  .exact step h
theorem D4{Wa l:List Oper}:∀ {i k:Nat}{o:Oper},Un Wa l i=true->l[k]? = some o->∃d,o.dst=some d/\Hd d Wa 0=some (i+k):=by
 induction l with
 |nil=>intro i k o _ ho;cases ho
 |cons o1 r ih=>
  intro i k o h ho;rw[Un,aam]at h;cases k with
  |zero=>
   rw[aaJ]at ho;cases ho;have h:=h.1;split at h
   .rename_i d hd;split at h
    .rename_i j hj;exact⟨d,hd,by rw[hj,aan h];rfl⟩
    .cases h
   .cases h
  |succ k=>
   rw[aaH]at ho;obtain⟨d,h1,h2⟩:=ih h.2 ho;exact⟨d,h1,by rw[h2];congr 1;omega⟩
theorem WQ{i:Nat}:∀ {l:List Edge},Vn i l=true->∀e∈l,aay .any e=true->e.on<i
 |e::r,h,e',he,hb=>by
  simp only[Vn,aam,aaF,aaM]at h;rcases aaA.1 he with rfl|he
  .rcases h.1 with h1|h1
   .rw[h1]at hb;cases hb
   .exact of_decide_eq_true (by simpa [Nat.blt_eq] using h1)
  .exact WQ h.2 e' he hb
theorem E4{l:List Oper}:∀ {i k:Nat}{o:Oper},Al l i=true->l[k]? = some o->Vn (i+k) o.after.toList=true:=by
 induction l with
 |nil=>intro i k o _ ho;cases ho
 |cons o1 r ih=>
  intro i k o h ho;rw[Al,aam]at h;cases k with
  |zero=>
   rw[aaJ]at ho;cases ho;exact h.1
  |succ k=>
   rw[aaH]at ho;have:=ih h.2 ho;rwa [show i+1+k=i+(k+1) by omega]at this
theorem XQ{x:Nat}{l:List Edge}:∀ {m j:Nat},Wn x l m=true->j<m->j≠x->Uj j l=true
 |m+1,j,h,hj,hx=>by
  simp only[Wn,aam,aaF]at h;by_cases e:j=m
  .rw[<-e]at h;exact h.1.resolve_left λh=>hx (aan h)
  .exact XQ h.2 (by omega) hx
theorem H4{x m:Nat}{l:List Oper}:∀ {k:Nat}{o:Oper},Xn x m l=true->l[k]? = some o->Wn x o.after.toList m=true:=by
 induction l with
 |nil=>intro k o _ ho;cases ho
 |cons o1 r ih=>
  intro k o h ho;rw[Xn,aam]at h;cases k with
  |zero=>
   rw[aaJ]at ho;cases ho;exact h.1
  |succ k=>
   rw[aaH]at ho;exact ih h.2 ho
theorem YQ{n:Nat}:∀ {e:Env},hasK n e=false->da e n=.dead
 |[],_=>rfl
 |(m,a)::r,h=>by
  simp only[hasK,acH]at h;simp only[da,h.1];exact YQ h.2
section
variable {P:aav}{tt:TT}{sp:SP}{B:Nat}{IoB:List Nat}{F0:Fz}{N:NP}{W0:World}
theorem ZQ{ds:List (Option Nat)}{Wa:List Oper}{e0:Env}:∀ {l:List Oper}{i:Nat}{hl hF:Env}{ps pF:List (Nat×List Prop)},mkH tt sp ds Wa e0 l i hl ps=some (hF,pF) ->
  (∀n,hasK n hl=true->da hF n=da hl n)/\∀x∈Ae ps,x∈Ae pF
 |[],i,hl,hF,ps,pF,h=>by
  simp only[mkH,aal,aaD]at h;obtain⟨rfl,rfl⟩:=h;exact⟨λ_ _=>rfl,λ_ h=>h⟩
 |o::r,i,hl,hF,ps,pF,h=>by
  simp only[mkH]at h;split at h
  .split at h
   .rename_i d hk1 d' v p hk hst;split at h
    .rename_i hb;obtain⟨h1,h2⟩:=ZQ h;refine⟨λn hn=>?_,λx hx=>h2 x (vl (.inr hx))⟩;rw[h1 n (by simp[hasK,hn])]
     have hh:aau d' n=false:=by
      cases hb2:aau d' n with
      |false=>rfl
      |true=>
       rw[aan hb,aan hb2,hn]at hk;cases hk
     simp only[da,hh]
    .cases h
   .cases h
  .cases h
theorem I4{ds:List (Option Nat)}{Wa:List Oper}{e0:Env}{l:List Oper}:∀ {i k:Nat}{o:Oper}{hl hF:Env}{ps pF:List (Nat×List Prop)},mkH tt sp ds Wa e0 l i hl ps=some (hF,pF)->l[k]? = some o ->
  ∃d v p acc,o.guard=none/\o.dst=some d/\stepW tt sp ds Qg (Tn Wa e0 acc o) [] o=some ([(d,v)],p)/\da hF d=v/\(∀x∈p,x∈Ae pF)/\∀n,da acc n=.dead\/da hF n=da acc n:=by
 induction l with
 |nil=>intro i k o hl hF ps pF _ ho;cases ho
 |cons o1 r ih=>
  intro i k o hl hF ps pF h ho;rw[mkH]at h;split at h
  .rename_i d hg hd;split at h
   .rename_i d' v p hk hst;split at h
    .rename_i hb;obtain rfl:=aan hb;cases k with
     |succ k=>
      rw[aaH]at ho;exact ih h ho
     |zero=>
      rw[aaJ]at ho;cases ho;obtain⟨h1,h2⟩:=ZQ h;refine⟨d,v,p,hl,hg,hd,hst,?_,λx hx=>h2 x (vl (.inl hx)),λn=>?_⟩
      .rw[h1 d (by simp[hasK])];simp[da]
      .cases hn:hasK n hl with
       |false=>exact .inl (YQ hn)
       |true=>
        refine .inr ?_;rw[h1 n (by simp[hasK,hn])]
        have hh:aau d n=false:=by
         cases hb2:aau d n with
         |false=>rfl
         |true=>rw[aan hb2,hn]at hk;cases hk
        simp only[da,hh]
    .cases h
   .cases h
  .cases h
theorem J4{ds:List (Option Nat)}{g:Get}{o:Oper}{d:Nat}{v:AV}{p:List Prop}(hg:o.guard=none)(hd:o.dst=some d)(h:stepW tt sp ds Qg g [] o=some ([(d,v)],p))(e:Env) :
  stepW tt sp ds Qg g e o=some (put e d v,p):=by
 unfold stepW at h⊢;rw[hg,hd]at h⊢;simp only[guardOf]at h⊢;split at h
 .rename_i av obs io d2 hsev hd2;cases hd2;cases io with
  |some q=>
   obtain⟨s,q⟩:=q;simp[Uc,da]at h
  |none=>
   simp only[Uc]at h⊢;have hi:(bears av&&!([]:Key).isEmpty)=false:=by simp
   rw[hi]at h⊢;simp only[]at h⊢;have hi:(!([]:Key).isEmpty&&!Ga (da ([]:Env) d))=false:=by simp
   have hh:(!([]:Key).isEmpty&&!Ga (da e d))=false:=by simp
   rw[hi]at h;rw[hh];cases hos:Bh d (Pg [] av)||false with
   |true=>rw[hos]at h;simp at h
   |false=>
    rw[hos]at h;simp only[Qg,aal,aaD]at h⊢;obtain⟨h1,h2⟩:=h
    have:Pg [] av=v:=by
     simp[put,Ga,da,Ta]at h1;exact h1
    rw[this];exact⟨rfl,h2⟩
 .cases h
def LpI(Wa:List Oper)(e0 hF:Env)(L:List Bool)(e:Env):Prop:=∀n,da e n=match Hd n Wa 0 with
 |some j=>match L.getD j false with
  |true=>da hF n
  |false=>.dead
 |none=>da e0 n
theorem L4{all:List Oper}{m:Nat}(hlow:Al (all.take m) 0=true){L:List Bool}(_hL:L.length=all.length):∀(k:Nat),k<m->k<all.length->L.getD k false=false->∃i,i<m/\i<all.length/\L.getD i false=false/\∀e∈(all.getD i (opN #[] 0)).after.toList,aay .any e=true->L.getD e.on false=true:=by
 intro k
 induction k using abK with
 |_ k ih=>
  intro hk hh hf;by_cases h:∃e∈(all.getD k (opN #[] 0)).after.toList,aay .any e=true/\L.getD e.on false=false
  .obtain⟨e,he,hb,hn⟩:=h
   have ho:(all.take m)[k]? = some (all.getD k (opN #[] 0)):=by
    rw[acV,if_pos hk,aao,aap hh];rfl
   have h1:=WQ (E4 hlow ho) e he hb;rw[aaw]at h1;exact ih e.on h1 (by omega) (by omega) hn
  .refine⟨k,hk,hh,hf,λe he hb=>?_⟩;cases hx:L.getD e.on false with
   |true=>rfl
   |false=>exact(h ⟨e,he,hb,hx⟩).elim
theorem P4(htt:dc P tt)(hsp:∀f s,spk sp f=some s->Con P f s){ops:Array Oper}(hdst:Sf N ops.toList=true)(m x:Nat){e0 hF:Env}{pF:List (Nat×List Prop)}
  (hidx:Un (ops.toList.take m) (ops.toList.take m) 0=true) (hlow:Al (ops.toList.take m) 0=true) (htl:Xn x m (ops.toList.drop m)=true)
  (hmk:mkH tt sp (ops.toList.map (·.dst)) (ops.toList.take m) e0 (ops.toList.take m) 0 [] []=some (hF,pF)) (hpF:∀x∈Ae pF,x) {Q:Exit->Act->World->Prop}
  (hQ:∀(listed:Array Bool) a w,listed.size=ops.size->(∀j,m<=j->j<ops.size->listed.toList.getD j true=false)->(∀j,j<m->j<ops.size->j≠x->listed.toList.getD j false=true) ->
    ∀e,LpI (ops.toList.take m) e0 hF listed.toList e->Sim N B IoB W0 F0 e a w->wpAny P .any ops Q (listed.toList.count false) listed a w) :
  ∀ (f:Nat) (listed:Array Bool) (e:Env) (a:Act) (w:World),listed.size=ops.size->(∀j,m<=j->j<ops.size->listed.toList.getD j true=false)->listed.toList.count false=f ->
    LpI (ops.toList.take m) e0 hF listed.toList e->Sim N B IoB W0 F0 e a w->wpAny P .any ops Q f listed a w:=by
 have ht:∀(listed:Array Bool) k b,listed.toList.getD k b=listed.getD k b:=λlisted k b=>by
  rw[aaq,aao,aar]
 intro f
 induction f with
 |zero=>
  intro listed e a w hsz kr hl hI hs;rw[<-hl];refine hQ listed a w hsz kr (λj _ hj _=>?_) e hI hs;have hf:j<listed.toList.length:=by simp[hsz,hj]
  rw[aao,aap hf];show listed.toList[j]=true;cases hx:listed.toList[j] with
  |true=>rfl
  |false=>
   have:=abi.2 (abb.2 ⟨j,by rw[aap hf,hx]⟩);omega
 |succ k ih=>
  intro listed e a w hsz kr hl hI hs;have hh:listed.toList.length=ops.toList.length:=by simp[hsz]
  by_cases hdone:∀j,j<m->j<ops.size->j≠x->listed.toList.getD j false=true
  .rw[<-hl];exact hQ listed a w hsz kr hdone e hI hs
  obtain⟨k0,io,it,ie,ix⟩ : ∃k0,k0<m/\k0<ops.toList.length/\k0≠x/\listed.toList.getD k0 false=false:=by
   refine Classical.byContradiction λh=>hdone λj h1 h2 h3=>?_;cases hx:listed.toList.getD j false with
   |true=>rfl
   |false=>exact(h ⟨j,h1,by simpa using h2,h3,hx⟩).elim
  refine⟨λhr=>?_,λi hi=>?_⟩
  .obtain⟨i,h1,h2,h3,h4⟩:=L4 hlow hh k0 io it ix
   have:i∈aaI .any ops listed:=by
    rw[mem_ready];have hy:i<ops.size:=by simpa using h2
    have kk:ops.toList.getD i (opN #[] 0)=ops[i]:=by
     rw[aao,aar,aas hy];rfl
    rw[kk]at h4;refine⟨?_,ops[i],aas hy,λe he hb=>?_⟩
    .rw[<-ht];have hf:i<listed.toList.length:=by rw[hh];exact h2
     rw[aao,aap hf]at h3⊢;exact h3
    .rw[<-ht];exact h4 e (by simpa using he) hb
   rw[hr]at this;cases this
  .obtain⟨hn,o,ho,hpre⟩:=mem_ready.1 hi;have hpre:∀e∈o.after.toList,aay .any e=true->listed.toList.getD e.on false=true:=λe he hb=>by rw[ht];exact hpre e (by simpa using he) hb
   have hz:i<ops.size:=(aaB.1 ho).1;have kj:ops.toList[i]? = some o:=by rw[aar];exact ho
   have ha:i<m:=by
    by_cases h:i<m
    .exact h
    .have h1:(ops.toList.drop m)[i - m]? = some o:=by rw[abD,show m+(i - m)=i by omega];exact kj
     obtain⟨e1,h2,h3,h4⟩:=oE (XQ (H4 htl h1) io ie);have:=hpre e1 h2 h3;rw[h4,ix]at this;cases this
   have km:(ops.toList.take m)[i]? = some o:=by rw[acV,if_pos ha];exact kj
   obtain⟨d,v,p,acc,hu,hd,kq,hv,hp,hk⟩:=I4 hmk km;obtain⟨d2,hm,hc⟩:=D4 hidx km;rw[hd]at hm;cases hm;rw[aaw]at hc;have jb:listed.toList.getD i true=false:=by rw[ht];exact hn
   have ki:listed.toList.getD i false=false:=by
    have hf:i<listed.toList.length:=by rw[hh];simpa using hz
    rw[aao,aap hf]at jb⊢;exact jb
   have hq:da e d=.dead:=by
    rw[hI d,hc];simp only[ki]
   have kn:∀n,da (put e d v) n=if n=d then v else da e n:=λn=>by
    unfold put;rw[hq];simp only[Ga];exact Ka ..
   have ju:∀n,Tn (ops.toList.take m) e0 acc o n=.dead\/Tn (ops.toList.take m) e0 acc o n=da e n:=λn=>by
    unfold Tn;rw[hI n];cases hx:Hd n (ops.toList.take m) 0 with
    |none=>exact .inr rfl
    |some j=>
     simp only[];cases he:Uj j o.after.toList with
     |false=>exact .inl rfl
     |true=>
      obtain⟨e1,h2,h3,h4⟩:=oE he;have:=hpre e1 h2 h3;rw[h4]at this;rw[this];simp only[];exact(hk n).imp id Eq.symm
   have h3:=qs htt hsp hs ju (ops:=ops) (.inl rfl) (J4 hu hd kq e) (λx hx=>hpF x (hp x hx)) (λd' hd'=>Dj hdst i o kj d' hd') (Q:=Q) (next:=wpAny P .any ops Q k (listed.setIfInBounds i true))
    (λa' w' hs'=>by
      have kp:(listed.setIfInBounds i true).toList=listed.toList.set i true:=aaK ..;refine ih (listed.setIfInBounds i true) (put e d v) a' w' (by simp[hsz]) (λj h1 h2=>?_) ?_ (λn=>?_) hs'
      .rw[kp,aao,abc (by omega),<-aao];exact kr j h1 h2
      .rw[kp];have:=(mE jb).2;omega
      .rw[kn,kp];by_cases hnd:n=d
       .rw[if_pos hnd,hnd,hc];have hf:i<listed.toList.length:=by rw[hh];simpa using hz
        have:(listed.toList.set i true).getD i false=true:=by
         rw[aao,abn hf];rfl
        simp only[this];exact hv.symm
       .rw[if_neg hnd,hI n];cases hx:Hd n (ops.toList.take m) 0 with
        |none=>rfl
        |some j=>
         have hg:j≠i:=λe2=>by
          subst e2;obtain⟨k1,o1,e3,e4,e5⟩:=Gt hx;rw[aaw]at e3;subst e3;rw[km]at e4;cases e4;rw[hd]at e5;cases e5;exact hnd rfl
         simp only[];rw[aao,aao,abc (λe2=>hg e2.symm)])
   unfold wpOp;rw[ho];simp only[];by_cases hw:aaU o (abZ ops a.tmps)=true
   .rw[if_pos hw]at h3⊢;exact .inl h3
   .rw[if_neg hw]at h3⊢;exact h3
def Bl(n:Nat):List Oper->Bool
 |[]=>false
 |o::r=>(match o.dst with
  |some d=>aau d n
  |none=>false)||Bl n r
theorem R4{n:Nat}{l:List Oper}:∀ {i:Nat},(Hd n l i).isSome=Bl n l:=by
 induction l with
 |nil=>intro i;rfl
 |cons o r ih=>
  intro i;rw[Hd,Bl];cases o.dst with
  |none=>simpa using ih
  |some d=>
   simp only[];cases hb:aau d n with
   |true=>rfl
   |false=>simpa using ih
theorem U4{ds:List (Option Nat)}{Wa:List Oper}{e0:Env}{l:List Oper}{n:Nat}:∀ {i:Nat}{hl hF:Env}{ps pF:List (Nat×List Prop)},mkH tt sp ds Wa e0 l i hl ps=some (hF,pF)->hasK n hF=(hasK n hl||Bl n l):=by
 induction l with
 |nil=>
  intro i hl hF ps pF h;simp only[mkH,aal,aaD]at h;obtain⟨rfl,rfl⟩:=h;simp[Bl]
 |cons o1 r ih=>
  intro i hl hF ps pF h;rw[mkH]at h;split at h
  .rename_i d hg hd;split at h
   .rename_i d' v p hk hst;split at h
    .rename_i hb;obtain rfl:=aan hb;rw[ih h,Bl,hd];simp only[hasK];cases aau d n<;>cases hasK n hl<;>rfl
    .cases h
   .cases h
  .cases h
def It(e0:Env):List Oper->Bool
 |[]=>true
 |o::r=>(match o.dst with
  |some d=>Ga (da e0 d)
  |none=>true)&&It e0 r
theorem aR{e0:Env}{n:Nat}:∀ {l:List Oper}{k:Nat}{o:Oper},It e0 l=true->l[k]? = some o->o.dst=some n->da e0 n=.dead:=by
 intro l
 induction l with
 |nil=>intro k o _ ho;cases ho
 |cons o1 r ih=>
  intro k o h ho hd;rw[It,aam]at h;cases k with
  |zero=>
   rw[aaJ]at ho;cases ho;rw[hd]at h;have h:=h.1;simp only[]at h;cases hx:da e0 n<;>rw[hx]at h<;>first|rfl|cases h
  |succ k=>
   rw[aaH]at ho;exact ih h.2 ho hd
def Ke(Wa:List Oper)(L:List Bool):Env->Env
 |[]=>[]
 |(n,v)::r=>match Hd n Wa 0 with
  |some j=>match L.getD j false with
   |true=>(n,v)::Ke Wa L r
   |false=>Ke Wa L r
  |none=>(n,v)::Ke Wa L r
theorem cR{Wa:List Oper}{L:List Bool}{e0:Env}{n:Nat}:∀ {e:Env},da (Ke Wa L e++e0) n=match hasK n e,(match Hd n Wa 0 with
   |some j=>L.getD j false
   |none=>true) with
  |true,true=>da e n
  |_,_=>da e0 n
 |[]=>rfl
 |(m,v)::r=>by
  have ih:=cR (Wa:=Wa) (L:=L) (e0:=e0) (n:=n) (e:=r)
  have hh:da ((m,v)::(Ke Wa L r++e0)) n=match aau m n with
   |true=>v
   |false=>da (Ke Wa L r++e0) n:=rfl
  cases hb:aau m n with
  |true=>
   obtain rfl:=aan hb;rw[hb]at hh;have e1:hasK m ((m,v)::r)=true:=by simp[hasK]
   have e2:da ((m,v)::r) m=v:=by simp[da]
   rw[e1,e2];cases hx:Hd m Wa 0 with
   |none=>simp only[Ke,hx];exact hh
   |some j=>
    cases hl:L.getD j false with
    |true=>simp only[Ke,hx,hl];exact hh
    |false=>
     simp only[Ke,hx,hl];rw[ih,hx];simp only[hl];cases hasK m r<;>rfl
  |false=>
   rw[hb]at hh;have e1:hasK n ((m,v)::r)=hasK n r:=by simp[hasK,hb]
   have e2:da ((m,v)::r) n=da r n:=by simp only[da,hb]
   rw[e1,e2,<-ih];simp only[Ke];split
   .split
    .exact hh
    .rfl
   .exact hh
def lpL(m n x:Nat)(b:Bool):List Bool:=(abu m true++abu (n - m) false).set x b
def qE(tt:TT)(sp:SP)(keep:List Nat)(m x:Nat)(ops:Array Oper)(e0:Env):List (Option (Env×List Prop)):=
 match mkH tt sp (ops.toList.map (·.dst)) (ops.toList.take m) e0 (ops.toList.take m) 0 [] [] with
 |some (hF,pF)=>Hf tt sp keep (ops.toList.map (·.dst)) ops.toList ((lpL m ops.size x true).count false) (lpL m ops.size x true) pF (Ke (ops.toList.take m) (lpL m ops.size x true) hF++e0) ++
  Hf tt sp keep (ops.toList.map (·.dst)) ops.toList ((lpL m ops.size x false).count false) (lpL m ops.size x false) pF (Ke (ops.toList.take m) (lpL m ops.size x false) hF++e0)
 |none=>[none]
def eR(N:NP)(m x:Nat)(ops:Array Oper)(e0:Env):Bool:=Sf N ops.toList&&(abT m ops.size&&(Nat.blt x m&&(Un (ops.toList.take m) (ops.toList.take m) 0&&(Al (ops.toList.take m) 0&&(Xn x m (ops.toList.drop m)&&It e0 (ops.toList.take m))))))
theorem pure_ok(G:Good P tt sp){fr:Fr}{C:Code}{F:Fnn}{R A X Y Z:Type}{S:ac R A X Y Z}(keep:List Nat)(m x:Nat){ps:List Prop}{q:A}(T:Tr R A X Y Z)
  (hT:T=.w ps (.l (.n q)):=by exact rfl) (ho:S.o=T.val:=by exact rfl) (hb:S.ob=T.ob:=by exact rfl)
  (hC:Ba C S.path=.region (ah (Ba C S.path)) (opsOf (Ba C S.path)) true:=by kernel_rfl) (hc:eR N m x (opsOf (Ba C S.path)) (clean S.env)=true:=by kernel_rfl)
  (h:qE tt sp keep m x (opsOf (Ba C S.path)) (clean S.env)=(qE tt sp keep m x (opsOf (Ba C S.path)) (clean S.env)).map (λ_=>some (S.pn q,ps)):=by kernel_rfl) :
  ld P tt N fr C F S:=by
 intro hn a w hs;subst hT;rw[hb]at hn;rw[hC];have hu:=ga.all hn.1;generalize opsOf (Ba C S.path)=ops at *;unfold eR at hc;simp only[aam]at hc;obtain⟨c1,c2,c0,c3,c4,c5,c6⟩:=hc;have hm:=abH c2;have hx:x<m:=of_decide_eq_true (by simpa [Nat.blt_eq] using c0);unfold qE at h;cases hmk:mkH tt sp (ops.toList.map (·.dst)) (ops.toList.take m) (clean S.env) (ops.toList.take m) 0 [] [] with
 |none=>
  rw[hmk]at h;simp at h
 |some hp=>
  obtain⟨hF,pF⟩:=hp;rw[hmk]at h;simp only[]at h;have hk:∀n,hasK n hF=(Hd n (ops.toList.take m) 0).isSome:=λn=>by rw[U4 hmk,R4];rfl
  have hh:∀b,∀r∈Hf tt sp keep (ops.toList.map (·.dst)) ops.toList ((lpL m ops.size x b).count false) (lpL m ops.size x b) pF (Ke (ops.toList.take m) (lpL m ops.size x b) hF++clean S.env),r=some (S.pn q,ps):=λb r hr=>by
   refine lE h r ?_;rw[aaX];cases b with
   |true=>exact .inl hr
   |false=>exact .inr hr
  have hq:∀x∈Ae pF,x:=by
   obtain⟨y,hy,hz⟩:=dE (tt:=tt) (sp:=sp) (keep:=keep) (ds:=ops.toList.map (·.dst)) (all:=ops.toList) (fuel:=(lpL m ops.size x true).count false) (L:=lpL m ops.size x true) (pre:=pF) (e:=Ke (ops.toList.take m) (lpL m ops.size x true) hF++clean S.env);exact λx hx=>hu x (hz _ _ (hh _ y hy) x hx)
  refine acf G.hm ?_;refine P4 G.htt G.hsp c1 m x c3 c4 c5 hmk hq (λlisted a w hsz ht hd e hI hs=>?_) ops.size (abA ops.size false) (clean S.env) a _ (by simp) (λj _ hj=>?_) ?_ (λn=>?_) (hs.clean.drew _)
  .obtain⟨b,hl⟩ : ∃b,listed.toList=lpL m ops.size x b:=by
    refine⟨listed.toList.getD x false,acg λj=>?_⟩;unfold lpL;by_cases hj:j<ops.size
    .have hi:j<listed.toList.length:=by simp[hsz,hj]
     rw[aap hi];by_cases hjx:x=j
     .subst hjx;rw[abn (by simp;omega),aao,aap hi];rfl
     .rw[abc hjx];by_cases hjm:j<m
      .rw[abz (by simp[hjm]),abf,if_pos hjm];have h1:=hd j hjm hj (λe=>hjx e.symm);rw[aao,aap hi]at h1;exact congrArg some h1
      .rw[ace (by simp;omega),abf,if_pos (by simp;omega)];have h1:=ht j (by omega) hj;rw[aao,aap hi]at h1;exact congrArg some h1
    .rw[abo (by simp[hsz];omega),abo (by simp;omega)]
   have he:da e=da (Ke (ops.toList.take m) listed.toList hF++clean S.env):=funext λn=>by
    rw[hI n,cR,hk n];cases hx:Hd n (ops.toList.take m) 0 with
    |none=>rfl
    |some j=>
     simp only[Option.isSome_some];cases hl:listed.toList.getD j false with
     |true=>rfl
     |false=>
      obtain⟨k1,o1,e3,e4,e5⟩:=Gt hx;exact(aR c6 e4 e5).symm
   rw[hl]at he⊢;refine uQ (keep:=keep) G.htt G.hsp c1 hu (λa w hs=>⟨_,hs,q,ho,λ_ _ _ _ _ _ _ hs=>hs⟩) _ listed pF _ a w (λr hr=>?_) (hs.sameE he);rw[hl]at hr;exact hh b r hr
  .rw[aaS,aao,abf,if_pos hj];rfl
  .rw[aaS,List.count_replicate_self]
  .cases hx:Hd n (ops.toList.take m) 0 with
   |none=>rfl
   |some j=>
    obtain⟨k1,o1,e3,e4,e5⟩:=Gt hx
    have:(abA ops.size false).toList.getD j false=false:=by
     rw[aaS,aao,abf];split<;>rfl
    simp only[this];exact aR c6 e4 e5
end
def kI(x:Item):List Int:=[x.Key,x.Val,0]
def mkI(p:List Int×Int):Item:=match p.1 with
 |[k,v,_]=>⟨k,v,p.2⟩
 |_=>⟨0,0,p.2⟩
def chI(xs:List Item):List (List Int×Int):=xs.map λx=>(kI x,x.Count)
def gathI(xs:List Item):List Item:=(Xc (chI xs)).map mkI
def Db(m:MP)(S:List Nat):List Item:=((S.map λi=>m.getD i ([0,0,0],0)).filter λp=>p.2 != 0).map mkI
noncomputable def Jt(a0:List Item):List Item:=gathI a0
def eo(a0:List Item):Prop:=lim (ba .item a0) 1
noncomputable def SE:Spec:=⟨[.lst .item],.one .fr (.lst .item),false,λx=>(Jt x.1,0),λx=>eo x.1⟩
section
open Go Go.Proofs Go.Shelf Go.RowKit Go.Lib Go.Sort
def l6:Go.Shelf.Ren:=⟨fun|6=>129|10=>144|11=>145|12=>146|13=>147|14=>148|24=>170|25=>155|26=>171|27=>172|28=>173|29=>174|30=>175|31=>176|32=>177|33=>178|34=>187|35=>188|36=>189|37=>190|38=>191|39=>192|n=>n,fun|20=>20|26=>141|35=>158|0=>0|37=>160|3=>3|41=>127|44=>166|49=>136|51=>145|4=>4|54=>180|53=>179|58=>70|5=>5|9=>9|60=>187|64=>191|66=>195|67=>196|17=>17|32=>97|33=>156|82=>209|12=>12|75=>203|76=>204|77=>205|78=>73|79=>206|80=>207|n=>n,fun|n=>n⟩
theorem sl6:Go.Proofs.LaysGg.n6 aaR l6:={
 mixed:=by kernel_rfl,
 f6:=Tryz.func129.trans (congrArg some (by kernel_rfl)),
 f10:=Tryz.func144.trans (congrArg some (by kernel_rfl)),
 f11:=Tryz.func145.trans (congrArg some (by kernel_rfl)),
 f12:=Tryz.func146.trans (congrArg some (by kernel_rfl)),
 f13:=Tryz.func147.trans (congrArg some (by kernel_rfl)),
 f14:=Tryz.func148.trans (congrArg some (by kernel_rfl)),
 f24:=Tryz.func170.trans (congrArg some (by kernel_rfl)),
 f25:=Tryz.func155.trans (congrArg some (by kernel_rfl)),
 f26:=Tryz.func171.trans (congrArg some (by kernel_rfl)),
 f27:=Tryz.func172.trans (congrArg some (by kernel_rfl)),
 f28:=Tryz.func173.trans (congrArg some (by kernel_rfl)),
 f29:=Tryz.func174.trans (congrArg some (by kernel_rfl)),
 f30:=Tryz.func175.trans (congrArg some (by kernel_rfl)),
 f31:=Tryz.func176.trans (congrArg some (by kernel_rfl)),
 f32:=Tryz.func177.trans (congrArg some (by kernel_rfl)),
 f33:=Tryz.func178.trans (congrArg some (by kernel_rfl)),
 f34:=Tryz.func187.trans (congrArg some (by kernel_rfl)),
 f35:=Tryz.func188.trans (congrArg some (by kernel_rfl)),
 f36:=Tryz.func189.trans (congrArg some (by kernel_rfl)),
 f37:=Tryz.func190.trans (congrArg some (by kernel_rfl)),
 f38:=Tryz.func191.trans (congrArg some (by kernel_rfl)),
 f39:=Tryz.func192.trans (congrArg some (by kernel_rfl)),
 t0:=Tryz.underlying0,
 a0:=Tryz.isAgg0,
 z0:=Tryz.sizeOf0,
 v0:=Tryz.zeroValue0,
 i0:=by kernel_rfl,
 t3:=Tryz.underlying3,
 a3:=Tryz.isAgg3,
 z3:=Tryz.sizeOf3,
 v3:=Tryz.zeroValue3,
 i3:=by kernel_rfl,
 t4:=Tryz.underlying4,
 a4:=Tryz.isAgg4,
 z4:=Tryz.sizeOf4,
 v4:=Tryz.zeroValue4,
 i4:=by kernel_rfl,
 t5:=Tryz.underlying5,
 a5:=Tryz.isAgg5,
 z5:=Tryz.sizeOf5,
 v5:=Tryz.zeroValue5,
 i5:=by kernel_rfl,
 t9:=Tryz.underlying9,
 a9:=Tryz.isAgg9,
 z9:=Tryz.sizeOf9,
 v9:=Tryz.zeroValue9,
 i9:=by kernel_rfl,
 t12:=Tryz.underlying12,
 a12:=Tryz.isAgg12,
 z12:=Tryz.sizeOf12,
 v12:=Tryz.zeroValue12,
 i12:=by kernel_rfl,
 t17:=Tryz.underlying17,
 a17:=Tryz.isAgg17,
 z17:=Tryz.sizeOf17,
 v17:=Tryz.zeroValue17,
 i17:=by kernel_rfl,
 t20:=Tryz.underlying20,
 a20:=Tryz.isAgg20,
 z20:=Tryz.sizeOf20,
 v20:=Tryz.zeroValue20,
 i20:=by kernel_rfl,
 t26:=Tryz.underlying141,
 a26:=Tryz.isAgg141,
 z26:=Tryz.sizeOf141,
 v26:=Tryz.zeroValue141,
 i26:=by kernel_rfl,
 t32:=Tryz.underlying97,
 a32:=Tryz.isAgg97,
 z32:=Tryz.sizeOf97,
 v32:=Tryz.zeroValue97,
 i32:=by kernel_rfl,
 t33:=Tryz.underlying156,
 a33:=Tryz.isAgg156,
 z33:=Tryz.sizeOf156,
 v33:=Tryz.zeroValue156,
 i33:=by kernel_rfl,
 t35:=Tryz.underlying158,
 a35:=Tryz.isAgg158,
 z35:=Tryz.sizeOf158,
 v35:=Tryz.zeroValue158,
 i35:=by kernel_rfl,
 t37:=Tryz.underlying160,
 a37:=Tryz.isAgg160,
 z37:=Tryz.sizeOf160,
 v37:=Tryz.zeroValue160,
 i37:=by kernel_rfl,
 t41:=Tryz.underlying127,
 a41:=Tryz.isAgg127,
 z41:=Tryz.sizeOf127,
 v41:=Tryz.zeroValue127,
 i41:=by kernel_rfl,
 t44:=Tryz.underlying166,
 a44:=Tryz.isAgg166,
 z44:=Tryz.sizeOf166,
 v44:=Tryz.zeroValue166,
 i44:=by kernel_rfl,
 t49:=Tryz.underlying136,
 a49:=Tryz.isAgg136,
 z49:=Tryz.sizeOf136,
 v49:=Tryz.zeroValue136,
 i49:=by kernel_rfl,
 t51:=Tryz.underlying145,
 a51:=Tryz.isAgg145,
 z51:=Tryz.sizeOf145,
 v51:=Tryz.zeroValue145,
 i51:=by kernel_rfl,
 t53:=Tryz.underlying179,
 a53:=Tryz.isAgg179,
 z53:=Tryz.sizeOf179,
 v53:=Tryz.zeroValue179,
 i53:=by kernel_rfl,
 t54:=Tryz.underlying180,
 a54:=Tryz.isAgg180,
 z54:=Tryz.sizeOf180,
 v54:=Tryz.zeroValue180,
 i54:=by kernel_rfl,
 t58:=Tryz.underlying70,
 a58:=Tryz.isAgg70,
 z58:=Tryz.sizeOf70,
 v58:=Tryz.zeroValue70,
 i58:=by kernel_rfl,
 t60:=Tryz.underlying187,
 a60:=Tryz.isAgg187,
 z60:=Tryz.sizeOf187,
 v60:=Tryz.zeroValue187,
 i60:=by kernel_rfl,
 t64:=Tryz.underlying191,
 a64:=Tryz.isAgg191,
 z64:=Tryz.sizeOf191,
 v64:=Tryz.zeroValue191,
 i64:=by kernel_rfl,
 t66:=Tryz.underlying195,
 a66:=Tryz.isAgg195,
 z66:=Tryz.sizeOf195,
 v66:=Tryz.zeroValue195,
 i66:=by kernel_rfl,
 t67:=Tryz.underlying196,
 a67:=Tryz.isAgg196,
 z67:=Tryz.sizeOf196,
 v67:=Tryz.zeroValue196,
 i67:=by kernel_rfl,
 t75:=Tryz.underlying203,
 a75:=Tryz.isAgg203,
 z75:=Tryz.sizeOf203,
 v75:=Tryz.zeroValue203,
 i75:=by kernel_rfl,
 t76:=Tryz.underlying204,
 a76:=Tryz.isAgg204,
 z76:=Tryz.sizeOf204,
 v76:=Tryz.zeroValue204,
 i76:=by kernel_rfl,
 t77:=Tryz.underlying205,
 a77:=Tryz.isAgg205,
 z77:=Tryz.sizeOf205,
 v77:=Tryz.zeroValue205,
 i77:=by kernel_rfl,
 t78:=Tryz.underlying73,
 a78:=Tryz.isAgg73,
 z78:=Tryz.sizeOf73,
 v78:=Tryz.zeroValue73,
 i78:=by kernel_rfl,
 t79:=Tryz.underlying206,
 a79:=Tryz.isAgg206,
 z79:=Tryz.sizeOf206,
 v79:=Tryz.zeroValue206,
 i79:=by kernel_rfl,
 t80:=Tryz.underlying207,
 a80:=Tryz.isAgg207,
 z80:=Tryz.sizeOf207,
 v80:=Tryz.zeroValue207,
 i80:=by kernel_rfl,
 t82:=Tryz.underlying209,
 a82:=Tryz.isAgg209,
 z82:=Tryz.sizeOf209,
 v82:=Tryz.zeroValue209,
 i82:=by kernel_rfl }
def ltI(x y:Item):Bool:=decide (x.Key<y.Key)||(decide (x.Key=y.Key)&&decide (x.Val<y.Val))
def encI(x:Item):List Value:=[.int .i64 x.Key,.int .i64 x.Val,.int .i64 x.Count]
theorem tE:SWO ltI:=by
 constructor
 .intro x;simp[ltI]
 .intro x y z h1 h2;simp only[ltI,aaF,aam,decide_eq_true_eq]at h1 h2⊢;omega
 .intro x y z h1 h2;simp only[ltI,acH,Bool.and_eq_false_iff,decide_eq_false_iff_not]at h1 h2⊢;omega
set_option maxHeartbeats 4000000 in
theorem uE(blk off c Bs size:Nat)(W:World)(G:Nat->Item)(hs:W.cell? ⟨Bs,0,none⟩=some (.slice (some ⟨blk,off,none⟩) size c))
  (hk:∀t,t<size->W.cell? ⟨blk,off+t*3,none⟩=some (.int .i64 (G t).Key)) (hv:∀t,t<size->W.cell? ⟨blk,off+t*3+1,none⟩=some (.int .i64 (G t).Val)) (i j:Nat) (hi:i<size) (hj:j<size) (_hsz:size<4611686018427387904) :
  Calls aaR 139 #[.int .i64 i,.int .i64 j,.pointer (some ⟨Bs,0,none⟩)] W λe w'=>e=.returned (.bool (ltI (G i) (G j)))/\∃q,w'=W.drewN q:=by
 have ki:=hk i hi;have kj:=hk j hj;have vi:=hv i hi;have vj:=hv j hj;by_cases h1:(G i).Key<(G j).Key
 .have e1:decide ((G i).Key<(G j).Key)=true:=decide_eq_true h1;have hl:ltI (G i) (G j)=true:=by simp[ltI,h1]
  rw[hl]
  go_enter Tryz.func139,Tryz.ntmps139
  go_wp2
  go_quiet (fail)
  go_wp2
  go_ret
  exact⟨rfl,nq,rfl⟩
 .have e1:decide ((G i).Key<(G j).Key)=false:=decide_eq_false h1;by_cases h2:(G i).Key=(G j).Key
  .have e2:((G i).Key == (G j).Key)=true:=by simp[h2]
   have hl:ltI (G i) (G j)=decide ((G i).Val<(G j).Val):=by simp[ltI,h2]
   rw[hl]
   go_enter Tryz.func139,Tryz.ntmps139
   go_wp2
   go_quiet (fail)
   go_wp2
   go_ret
   exact⟨rfl,nq,rfl⟩
  .have e2:((G i).Key == (G j).Key)=false:=by simp[h2]
   have hl:ltI (G i) (G j)=false:=by simp[ltI,h1,h2]
   rw[hl]
   go_enter Tryz.func139,Tryz.ntmps139
   go_wp2
   go_quiet (fail)
   go_wp2
   go_ret
   exact⟨rfl,nq,rfl⟩
noncomputable def svT:TypeInfo:=(aaR.info? 85).get (by kernel_rfl)
noncomputable def svE:TypeInfo:=(aaR.info? 96).get (by kernel_rfl)
theorem vE(n:Nat)(h2:2<=n):abR n svE 25=9:=by
 have a:svE.hasPointers=false:=by kernel_rfl
 have b:svE.bytes=24:=by kernel_rfl
 have c:(n == 0)=false:=by simp;omega
 have d:(n == 1)=false:=by simp;omega
 simp[abR,a,b,c,d]
theorem xE(blk off c Bs:Nat)(d:Array Item)(hsz:d.size<4611686018427387904)(w:World)(hH:HoldsK encI 3 w blk off d)(hblk:blk<w.heap.size)
  (hBs:w.cell? ⟨Bs,0,none⟩=some (.slice (some ⟨blk,off,none⟩) d.size c)) (hB1:Bs<w.heap.size) (hB2:Bs≠blk) :
  Calls aaR 129 #[.iface 85 (.slice (some ⟨blk,off,none⟩) d.size c),.func (.func 139) #[] #[.pointer (some ⟨Bs,0,none⟩)]] w λe w'=>
   e=.returned (.tuple #[])/\∃(d':Array Item) (n:Nat) (os:Array Obj),d'.toList.Perm d.toList/\(∀i j,i<j->j<d'.size->ltI d'[j]! d'[i]! = false)/\w'=grow (putRowK encI 3 (aci w n) blk off d') os:=by
 by_cases h2:2<=d.size
 .have hl:LessReadsK aaR 139 #[.pointer (some ⟨Bs,0,none⟩)] encI 3 ltI blk off d.size w:=by
   intro m os dk hs i j hi hj
   have e:sortWorldK encI 3 w blk off m dk os=putRowK encI 3 (grow (aci w m) os) blk off dk:=by
    unfold sortWorldK;rw[putRowK_grow _ _ (aci w m) _ blk off _ hblk]
   have hh:HoldsK encI 3 (grow (aci w m) os) blk off d:=holdsK_grow _ _ _ _ blk off d hblk (holdsK_ahead _ _ _ _ _ _ _ hH);refine uE blk off c Bs d.size _ (λt=>dk[t]!) ?_ (λt ht=>?_) (λt ht=>?_) i j hi hj (by omega)
   .rw[e,cell?_putRowK_other _ _ _ blk off dk _ (by exact hB2),cell?_grow _ _ _ (by exact hB1)];exact hBs
   .rw[e];exact((holdsK_putRowK _ _ _ blk off d dk hh hs).cell (i:=t) (c:=0) (by omega) (by omega)).1
   .rw[e];exact((holdsK_putRowK _ _ _ blk off d dk hh hs).cell (i:=t) (c:=1) (by omega) (by omega)).1
  refine(Any.sort_Slice_cells_sorted sl6 85 96 svT svE (by kernel_rfl) (by kernel_rfl) (by kernel_rfl) (by kernel_rfl) 25 (λ_=>by kernel_rfl) encI 3 (λ_=>rfl) (by kernel_rfl) (λ_=>by kernel_rfl)
   (λx v hv=>by simp[encI]at hv;rcases hv with rfl|rfl|rfl<;>rfl) ltI tE 139 _
   (enters_of Tryz.func139 (by kernel_rfl) rfl) blk off c d h2 hsz 169 (by rw[vE _ h2];kernel_rfl) false
   (λargs W=>run_callFunc_extern Tryz.func169 (by kernel_rfl) (by kernel_rfl) (by kernel_rfl) (e:=adb false) (by kernel_rfl) args W) w hl hH hblk).mono ?_
  rintro e w' ⟨rfl,d',n,os,hp,hs,rfl⟩;refine⟨rfl,d',n,os,?_,λi j hij hj=>hs i j (acu _) hij (by rw[<-hp.1];exact hj),rfl⟩;have h3:=hp.2.2;have h4:d'.extract 0 d.size=d':=by rw[<-hp.1];simp
  rw[h4]at h3;simpa using h3
 .have hK:∃k,aaR.funcs.findIdx? (·.name == "internal/reflectlite"++".Swapper$"++toString (abR d.size svE 25))=some k:=by
   rcases Nat.lt_or_ge d.size 1 with h|h
   .have hd:d.size=0:=by omega
    exact⟨161,by rw[hd,show abR 0 svE 25=1 by kernel_rfl];kernel_rfl⟩
   .have hd:d.size=1:=by omega
    exact⟨162,by rw[hd,show abR 1 svE 25=2 by kernel_rfl];kernel_rfl⟩
  obtain⟨k,hk⟩:=hK;refine(Any.sort_Slice_tiny sl6 85 96 svT svE (by kernel_rfl) (by kernel_rfl) (by kernel_rfl) (by kernel_rfl) 25 (λ_=>by kernel_rfl) (some ⟨blk,off,none⟩) d.size c (by omega) k hk (.func 139) #[] _ w).mono ?_;rintro e w' ⟨rfl,os,rfl⟩;refine⟨rfl,d,0,os,.refl _,λi j hij hj=>by omega,?_⟩;rw[show aci w 0=w from rfl,putRowK_self encI 3 w blk off d hH]
end
def ttg:TT:=[(3,⟨.scalar,1,[.int .i64 0],some .int,false⟩),(4,⟨.scalar,1,[.bool false],some .bool,false⟩),(85,⟨.slice 96,1,[.nl .item],none,false⟩),
 (96,⟨.struct [(0,1),(1,1),(2,1)],3,[.int .i64 0,.int .i64 0,.int .i64 0],some .item,true⟩)]
theorem ef:dc aaR ttg:=Cn (by kernel_rfl)
theorem gg:Good aaR ttg []:=⟨ef,(λ_ _ h=>by cases h),by kernel_rfl⟩
theorem tdE:Sb aaR 96 ⟨.struct [(0,1),(1,1),(2,1)],3,[.int .i64 0,.int .i64 0,.int .i64 0],some .item,true⟩:=ef.td _ _ (by kernel_rfl)
theorem td3:Sb aaR 3 ⟨.scalar,1,[.int .i64 0],some .int,false⟩:=ef.td _ _ (by kernel_rfl)
noncomputable def fsG:Array Field:=match aaR.underlying 96 with
 |some (.struct fs)=>fs
 |_=>#[]
noncomputable def sv3:TypeInfo:=(aaR.info? 3).get (by kernel_rfl)
theorem Kh:ID aaR 150 96 3 3:=by
 refine⟨by kernel_rfl,⟨fsG,by kernel_rfl⟩,ef.eq _ ⟨.struct [(0,1),(1,1),(2,1)],3,[.int .i64 0,.int .i64 0,.int .i64 0],some .item,true⟩ (by kernel_rfl) rfl,
  JD (fs:=fsG) (i:=svE) (by kernel_rfl) (by kernel_rfl) (by kernel_rfl) (by kernel_rfl),λw=>?_⟩
 have hi : aaR.info? 3=some sv3:=by kernel_rfl
 have hz:sv3.zero=some (.int .i64 0):=by kernel_rfl
 simp[zeroValue,acI,hi,hz]
noncomputable def C0:Code:=pg Tryz.f121
noncomputable def o1(i:Nat):Oper:=opN (opsOf (nav C0 [1,0])) i
noncomputable def o5(i:Nat):Oper:=opN (opsOf (nav C0 [1,1,0,1,0,0,1,1,0,0,1])) i
noncomputable def o8(i:Nat):Oper:=opN (opsOf (nav C0 [1,1,1,1,0,0])) i
noncomputable def o9(i:Nat):Oper:=opN (opsOf (nav C0 [1,1,1,1,0,1,0,0,0])) i
noncomputable def o10(i:Nat):Oper:=opN (opsOf (nav C0 [1,1,1,1,0,1,0,0,1,1,0,0])) i
noncomputable def o14(i:Nat):Oper:=opN (opsOf (nav C0 [1,1,1,1,1,0])) i
theorem chk:(opsOf (nav C0 [1,0])).size=2/\(opsOf (nav C0 [1,1,0,1,0,0,1,1,0,0,1])).size=13/\(opsOf (nav C0 [1,1,1,1,0,0])).size=2/\(opsOf (nav C0 [1,1,1,1,0,1,0,0,0])).size=2 /\
 (opsOf (nav C0 [1,1,1,1,0,1,0,0,1,1,0,0])).size=6/\(opsOf (nav C0 [1,1,1,1,1,0])).size=4:=(by and_intros<;>kernel_rfl)
end Go.Proofs.YteogppapbognjaaGreatDoor
