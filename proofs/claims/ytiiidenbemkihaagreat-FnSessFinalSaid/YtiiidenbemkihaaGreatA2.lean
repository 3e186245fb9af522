/-
  A region whose operations come in any order that its edges allow. A region, run: in any order that it may take. Regions, and the rules of the code around them. The rules of code, over abstract environments. From a body's run to a function's contract. A body's run is a contract. What the printed proofs lean on: code by its path, outcomes, loops over outcomes. Code by a table: what a piece of code does is a tree of decisions; that the tree is the code's is shown by computation. '==' on structs of numbers, and a check of the table of types. Steps that the evaluator does not know: objects that are no rows of cells. Maps whose keys are structs of numbers and whose values are numbers: how the machine's operations on them run. Keys may be keys; sums by keys, in order. No statement is proved here.
-/
import Derived.Test.YtiiidenbemkihaaGreatA1
import Derived.Laws.StructEq
import Derived.Test.YtiiidenbemkihaaGreatProg
import Derived.Shelf.SlSortFuncK.WholeK
import Derived.Shelf.GgSortFunc.Tiny
import Derived.Tactics2
namespace Go.Proofs.YtiiidenbemkihaaGreat
open Go
def Ei(acc:List Nat):List Edge->Nat
 |[]=>0
 |e::r=>match Region.binds .any e with
  |true=>(2 ^ e.on ||| acc.getD e.on 0) ||| Ei acc r
  |false=>Ei acc r
def uh:List Oper->List Nat->List Nat
 |[],acc=>acc
 |o::r,acc=>uh r (acc++[Ei acc o.after.toList])
def Yr(i:Nat):List Edge->Bool
 |[]=>true
 |e::r=>(!Region.binds .any e||Nat.blt e.on i)&&Yr i r
def Xl:List Oper->Nat->Bool
 |[],_=>true
 |o::r,i=>Yr i o.after.toList&&Xl r (i+1)
def Oj:List Nat->List Nat->Bool
 |[],_=>true
 |n::r,l=>!Te n l&&Oj r l
def Zr(m:Nat):Nat->Bool
 |0=>true
 |i+1=>Nat.testBit m i&&Zr m i
def Yl(sp:SP)(all:List Oper)(ds:List (Option Nat)):List Oper->List (List Nat×List Nat)
 |[]=>[]
 |o::r=>(reads sp all ds o,writes sp all ds o)::Yl sp all ds r
def es(m:Nat)(q:List Nat×List Nat):List (List Nat×List Nat)->Nat->Bool
 |[],_=>true
 |p::r,i=>(Nat.testBit m i||(Oj p.2 q.1&&(Oj p.2 q.2&&Oj p.1 q.2)))&&es m q r (i+1)
def js(ms:List Nat):List (List Nat×List Nat)->List (List Nat×List Nat)->Nat->Bool
 |_,[],_=>true
 |done,q::r,j=>es (ms.getD j 0) q done 0&&js ms (done++[q]) r (j+1)
def ns(ms:List Nat)(j:Nat):Nat->Bool
 |0=>true
 |n+1=>Zr (ms.getD j 0) j&&ns ms (j+1) n
def Ve(b:Bool)(sp:SP)(l:List Oper):Bool:=Xl l 0&&(js (uh l []) [] (Yl sp l (l.map (·.dst)) (Uc b l)) 0&&ns (uh l []) (Uc b l).length (l.length - (Uc b l).length))
def Zl(tt:TT)(sp:SP)(keep:List Nat)(ops:List Oper)(draw:Bool)(e:Env):Option (Env×List Prop):=
 match draw with
 |true=>match Ol tt sp (ops.map (·.dst)) ops (Uc (Ve true sp ops) ops) (clean e) with
  |some (e1,p)=>match runF tt sp (ops.map (·.dst)) (xi (Ve true sp ops) ops) e1 with
   |some (e2,q)=>some (mask (clean (settle keep keep e2)) keep,p++q)
   |none=>none
  |none=>none
 |false=>match runF tt sp (ops.map (·.dst)) ops (clean e) with
  |some (e2,q)=>some (mask (clean (settle keep keep e2)) keep,q)
  |none=>none
theorem qs{n:Nat}:∀ {l r:List Nat},Oj l r=true->n∈l->n ∉ r
 |[],r,_,hn=>by simp at hn
 |m::l,r,h,hn=>by
  simp only[Oj,Bool.and_eq_true,Bool.not_eq_true']at h;rcases List.mem_cons.1 hn with rfl|hn
  .intro hr;rw[Xr.2 hr]at h;simp at h
  .exact qs h.2 hn
theorem JJ{m:Nat}:∀ {i:Nat},Zr m i=true->∀j,j<i->m.testBit j=true
 |0,_,j,hj=>by omega
 |i+1,h,j,hj=>by
  simp only[Zr,Bool.and_eq_true]at h;by_cases e:j=i
  .rw[e];exact h.1
  .exact JJ h.2 j (by omega)
theorem LJ{sp:SP}{all:List Oper}{ds:List (Option Nat)}:∀ {l:List Oper}{i:Nat}{o:Oper},l[i]? = some o->(Yl sp all ds l)[i]? = some (reads sp all ds o,writes sp all ds o)
 |[],i,o,h=>by simp at h
 |o'::r,0,o,h=>by simp at h;subst h;rfl
 |o'::r,i+1,o,h=>by simpa [Yl] using LJ (by simpa using h)
theorem MJ{m:Nat}{q:List Nat×List Nat}:∀ {l:List (List Nat×List Nat)}{i:Nat},es m q l i=true->∀k p,l[k]? = some p ->
  m.testBit (i+k)=true\/((∀n,n∈p.2->n ∉ q.1)/\(∀n,n∈p.2->n ∉ q.2)/\(∀n,n∈p.1->n ∉ q.2))
 |[],i,_,k,p,hk=>by simp at hk
 |p0::r,i,h,k,p,hk=>by
  simp only[es,Bool.and_eq_true,Bool.or_eq_true]at h;cases k with
  |zero=>
   simp at hk;subst hk;exact h.1.imp id (λh=>⟨λn=>qs h.1,λn=>qs h.2.1,λn=>qs h.2.2⟩)
  |succ k=>
   have:=MJ h.2 k p (by simpa using hk);rw[show i+1+k=i+(k+1) by omega]at this;exact this
theorem NJ{ms:List Nat}:∀ {l done:List (List Nat×List Nat)}{j:Nat},js ms done l j=true->done.length=j->∀k q i p,l[k]? = some q->(done++l)[i]? = some p->i<j+k ->
  (ms.getD (j+k) 0).testBit i=true\/((∀n,n∈p.2->n ∉ q.1)/\(∀n,n∈p.2->n ∉ q.2)/\(∀n,n∈p.1->n ∉ q.2))
 |[],done,j,_,_,k,q,i,p,hk,_,_=>by simp at hk
 |q0::r,done,j,h,hd,k,q,i,p,hk,hi,hlt=>by
  simp only[js,Bool.and_eq_true]at h;cases k with
  |zero=>
   simp at hk;subst hk;rw[List.getElem?_append_left (by omega)]at hi;have:=MJ h.1 i p hi;rw[Nat.zero_add]at this;exact this
  |succ k=>
   have:=NJ h.2 (by simp[hd]) k q i p (by simpa using hk) (by simpa using hi) (by omega);rw[show j+1+k=j+(k+1) by omega]at this;exact this
theorem LD{ms:List Nat}:∀ {n j:Nat},ns ms j n=true->∀k,k<n->∀i,i<j+k->(ms.getD (j+k) 0).testBit i=true
 |0,j,_,k,hk,i,hi=>by omega
 |n+1,j,h,k,hk,i,hi=>by
  simp only[ns,Bool.and_eq_true]at h;cases k with
  |zero=>exact JJ h.1 i (by omega)
  |succ k=>
   have:=LD h.2 k (by omega) i (by omega);rw[show j+1+k=j+(k+1) by omega]at this;exact this
theorem PJ{i:Nat}:∀ {l:List Edge},Yr i l=true->∀e∈l,Region.binds .any e=true->e.on<i
 |[],_,e,he,_=>by simp at he
 |e0::r,h,e,he,hb=>by
  simp only[Yr,Bool.and_eq_true,Bool.or_eq_true,Bool.not_eq_true']at h;rcases List.mem_cons.1 he with rfl|he
  .rcases h.1 with h1|h1
   .rw[hb]at h1;cases h1
   .exact Nat.lt_of_lt_of_le (Nat.lt_succ_self _) (Nat.le_of_ble_eq_true h1)
  .exact PJ h.2 e he hb
theorem PD:∀ {l:List Oper}{i:Nat},Xl l i=true->∀k o,l[k]? = some o->∀e∈o.after,Region.binds .any e=true->e.on<i+k
 |[],i,_,k,o,hk,_,_,_=>by simp at hk
 |o0::r,i,h,k,o,hk,e,he,hb=>by
  simp only[Xl,Bool.and_eq_true]at h;cases k with
  |zero=>simp at hk;subst hk;exact PJ h.1 e (by simpa using he) hb
  |succ k=>
   have:=PD h.2 k o (by simpa using hk) e he hb;omega
def Closed(ops:Array Oper)(L:Nat->Bool):Prop:=∀i o,ops[i]? = some o->L i=true->∀e∈o.after,Region.binds .any e=true->L e.on=true
theorem RJ{L:Nat->Bool}{acc:List Nat}(hacc:∀i,L i=true->∀j,(acc.getD i 0).testBit j=true->L j=true) :
  ∀ {l:List Edge},(∀e∈l,Region.binds .any e=true->L e.on=true)->∀j,(Ei acc l).testBit j=true->L j=true
 |[],_,j,h=>by simp[Ei]at h
 |e::r,hl,j,h=>by
  simp only[Ei]at h;have ih:=RJ hacc (l:=r) (λe he=>hl e (by simp[he]));cases hb:Region.binds .any e with
  |false=>rw[hb]at h;exact ih j h
  |true=>
   rw[hb]at h;have hh:=hl e (by simp) hb;simp only[Nat.testBit_or,Bool.or_eq_true]at h;rcases h with(h|h)|h
   .rw[Nat.testBit_two_pow]at h;have:e.on=j:=by simpa using h
    rw[<-this];exact hh
   .exact hacc _ hh j h
   .exact ih j h
theorem SJ{ops:Array Oper}{L:Nat->Bool}(hL:Closed ops L):∀ {l:List Oper}{acc:List Nat},(∀k o,l[k]? = some o->ops[acc.length+k]? = some o) ->
  (∀i,(∀o,ops[i]? = some o->∀e∈o.after,Region.binds .any e=true->L e.on=true)->∀j,(acc.getD i 0).testBit j=true->L j=true) ->
  ∀i,(∀o,ops[i]? = some o->∀e∈o.after,Region.binds .any e=true->L e.on=true)->∀j,((uh l acc).getD i 0).testBit j=true->L j=true
 |[],acc,_,h=>h
 |o::r,acc,hl,h=>by
  have ho:=hl 0 o rfl;have hh:∀i,L i=true->∀j,(acc.getD i 0).testBit j=true->L j=true:=λi hi=>h i (λo' ho'=>hL i o' ho' hi);refine SJ hL (l:=r) (acc:=acc++[Ei acc o.after.toList]) (λk o' hk=>?_) (λi hi j hj=>?_)
  .have:=hl (k+1) o' (by simpa using hk);rw[List.length_append,List.length_singleton,show acc.length+1+k=acc.length+(k+1) by omega];exact this
  .rw[List.getD_eq_getElem?_getD]at hj;by_cases hlt:i<acc.length
   .rw[List.getElem?_append_left hlt,<-List.getD_eq_getElem?_getD]at hj;exact h i hi j hj
   .by_cases he:i=acc.length
    .subst he;rw[List.getElem?_append_right (Nat.le_refl _),Nat.sub_self]at hj;exact RJ hh (λe he' hb=>hi o ho e (by simpa using he') hb) j hj
    .rw[List.getElem?_eq_none (by simp;omega)]at hj;simp at hj
def part(E:Nat->Env)(W:Nat->List Nat)(L:Nat->Bool):Nat->Nat->AV
 |0,n=>ca (E 0) n
 |k+1,n=>if L k=true/\n∈W k then ca (E (k+1)) n else part E W L k n
section
variable {E:Nat->Env}{W:Nat->List Nat}{L:Nat->Bool}
theorem TJ{n:Nat}{b:Bool}:∀ {h:Nat},(∀k,k<=h->ve (ca (E k) n)=b)->ve (part E W L h n)=b
 |0,hb=>hb 0 (Nat.le_refl _)
 |h+1,hb=>by
  simp only[part];split
  .exact hb (h+1) (Nat.le_refl _)
  .exact TJ (λk hk=>hb k (by omega))
theorem ws{h:Nat}(hloc:∀k,k<h->∀n,n ∉ W k->ca (E (k+1)) n=ca (E k) n){n:Nat}:∀ {k:Nat},k<=h->(∀j,j<k->n∈W j->L j=true)->part E W L k n=ca (E k) n
 |0,_,_=>rfl
 |k+1,hk,hL=>by
  simp only[part];by_cases hn:n∈W k
  .rw[if_pos ⟨hL k (by omega) hn,hn⟩]
  .rw[if_neg (λh=>hn h.2),hloc k (by omega) n hn];exact ws hloc (by omega) (λj hj=>hL j (by omega))
theorem As{n k:Nat}:∀ {h:Nat},k<=h->(∀j,k<=j->j<h->n∈W j->L j=false)->part E W L h n=part E W L k n
 |0,hk,_=>by rw[show k=0 by omega]
 |h+1,hk,hL=>by
  by_cases e:k=h+1
  .rw[e]
  .simp only[part];rw[if_neg (λhh=>by have:=hL h (by omega) (by omega) hh.2;rw[this]at hh;exact absurd hh.1 (by simp))];exact As (by omega) (λj h1 h2=>hL j h1 (by omega))
theorem UJ{L':Nat->Bool}{n:Nat}:∀ {h:Nat},(∀j,j<h->n∈W j->L' j=L j)->part E W L' h n=part E W L h n
 |0,_=>rfl
 |h+1,hL=>by
  simp only[part];rw[UJ (h:=h) (λj hj=>hL j (by omega))];by_cases hn:n∈W h
  .rw[hL h (by omega) hn]
  .rw[if_neg (λh=>hn h.2),if_neg (λh=>hn h.2)]
end
theorem SD{b:Bool}:∀ {l:List Oper}{i:Nat},i<(Uc b l).length->(Uc b l)[i]? = l[i]?
 |[],i,h=>by simp[Uc]at h
 |o::r,i,h=>by
  simp only[Uc]at h⊢;cases hs:strict b o with
  |true=>rw[hs]at h;simp at h
  |false=>
   rw[hs]at h;cases i with
   |zero=>rfl
   |succ i=>simpa using SD (by simpa using h)
theorem VJ{b:Bool}:∀ {l:List Oper}{i:Nat},(xi b l)[i]? = l[(Uc b l).length+i]?
 |[],i=>rfl
 |o::r,i=>by
  simp only[Uc,xi];cases hs:strict b o with
  |true=>simp
  |false=>
   simp only[List.length_cons];rw[show(Uc b r).length+1+i=(Uc b r).length+i+1 by omega,List.getElem?_cons_succ];exact VJ
theorem UD(b:Bool):∀(l:List Oper),(Uc b l).length+(xi b l).length=l.length
 |[]=>rfl
 |o::r=>by
  simp only[Uc,xi];cases hs:strict b o with
  |true=>simp
  |false=>
   have:=UD b r;simp only[List.length_cons];omega
section
variable {P:Program}{tt:TT}{sp:SP}{B:Nat}{IoB:List Nat}{F0:Fz}{N:NP}{W0:World}
theorem Sim.congr{e e':Env}{a:Act}{w:World}(hs:Sim N B IoB W0 F0 e a w)(h:∀n,ca e' n=ca e n):Sim N B IoB W0 F0 e' a w:=by
 obtain⟨F,ow,hx⟩:=hs.rep;exact⟨hs.defers,hs.tmps,hs.base,hs.f0,hs.kept,F,ow,hx.congr h⟩
def Mid(ops:Array Oper)(h:Nat)(E:Nat->Env)(W:Nat->List Nat)(L:Nat->Bool)(ec:Env):Prop:=((∀j,h<=j->j<ops.size->L j=false)/\∀n,ca ec n=part E W L h n) \/
   ∃k,h<k/\k<=ops.size/\(∀j,j<k->L j=true)/\(∀j,k<=j->j<ops.size->L j=false)/\∀n,ca ec n=ca (E k) n
theorem WJ{l:List Bool}{i:Nat}(h:l[i]? = some false):(l.set i true).count false+1=l.count false:=by
 induction l generalizing i with
 |nil=>simp at h
 |cons b r ih=>
  cases i with
  |zero=>
   simp at h;subst h;simp
  |succ i=>
   have:=ih (by simpa using h);simp only[List.set_cons_succ,List.count_cons];omega
def vh(sp:SP)(ops:Array Oper)(k:Nat):List Nat:=
 match ops[k]? with
 |some o=>writes sp ops.toList (ops.toList.map (·.dst)) o
 |none=>[]
theorem Pj{sp:SP}{ops:Array Oper}{k:Nat}{o:Oper}(h:ops[k]? = some o):vh sp ops k=writes sp ops.toList (ops.toList.map (·.dst)) o:=by
 unfold vh;rw[h]
theorem XJ{sp:SP}{ops:Array Oper}{k:Nat}(h:ops[k]? = none):vh sp ops k=[]:=by
 unfold vh;rw[h]
theorem QU{b:Bool}(htt:Ub P tt)(hsp:∀f s,spk sp f=some s->Con P f s){ops:Array Oper}{h:Nat}{E:Nat->Env}(hdst:∀(i:Nat) (o:Oper),ops[i]? = some o->∀d,o.dst=some d->N.ok d=true)(hh:h=(Uc b ops.toList).length)
  (hhead:∀(i:Nat) (o:Oper),i<h->ops[i]? = some o->∃p,stepS tt sp ops.toList (ops.toList.map (·.dst)) (E i) o=some (E (i+1),p)/\∀q∈p,q)
  (htail:∀(i:Nat) (o:Oper),h<=i->ops[i]? = some o->∃p,stepF tt sp (ops.toList.map (·.dst)) (E i) o=some (E (i+1),p)/\∀q∈p,q) (hok:Ve b sp ops.toList=true)
  {Q:Exit->Act->World->Prop} (hQ:∀a w,Sim N B IoB W0 F0 (E ops.size) a w->Q .normal a w) :
  ∀ (fuel:Nat) (listed:Array Bool) (ec:Env) (a:Act) (w:World),listed.size=ops.size->listed.toList.count false=fuel->Closed ops (λi=>listed.getD i false) ->
    Mid ops h E (vh sp ops) (λi=>listed.getD i false) ec->Sim N B IoB W0 F0 ec a w->wpAny P .any ops Q fuel listed a w:=by
 simp only[Ve,Bool.and_eq_true]at hok;obtain⟨ha,kn,pn⟩:=hok
 have hlen:h<=ops.size:=by
  have h1:=UD b ops.toList;have h2:ops.toList.length=ops.size:=Array.length_toList;omega
 have kk:∀i,ops.toList[i]? = ops[i]?:=λi=>Array.getElem?_toList;intro fuel
 induction fuel with
 |zero=>
  intro listed ec a w hsz ix io lb hs
  have hv:∀i,i<ops.size->listed.getD i false=true:=by
   intro i hi
   have nq:false ∉ listed.toList:=λhm=>by
    have:=List.count_pos_iff.2 hm;omega
   have kq:i<listed.toList.length:=by rw[Array.length_toList];omega
   have lx:=List.getElem_mem kq;cases hb:listed.toList[i] with
   |false=>rw[hb]at lx;exact absurd lx nq
   |true=>
    rw[Array.getD_eq_getD_getElem?,<-Array.getElem?_toList,List.getElem?_eq_getElem kq,hb];rfl
  refine⟨?_,?_⟩
  .cases hr:Region.ready .any ops listed with
   |nil=>rfl
   |cons j r=>
    have hj:j∈Region.ready .any ops listed:=by rw[hr];simp
    obtain⟨h0,o,ho,_⟩:=mem_ready.1 hj;have lp:j<ops.size:=(Array.getElem?_eq_some_iff.1 ho).1;have:=hv j lp;rw[Array.getD_eq_getD_getElem?]at this h0;rw[Array.getElem?_eq_getElem (by omega)]at this h0;simp at this h0;rw[this]at h0;cases h0
  .apply hQ;refine hs.congr λn=>?_;rcases lb with⟨h1,h2⟩|⟨k,h1,h2,h3,h4,h5⟩
   .have kp:h=ops.size:=by
     by_cases e:h=ops.size
     .exact e
     .have h3:=h1 h (Nat.le_refl _) (by omega);have h4:=hv h (by omega);simp only[h4]at h3;cases h3
    rw[h2 n,<-kp];refine(ws (h:=h) (λk hk n hn=>?_) (Nat.le_refl _) (λj hj _=>hv j (by omega))).symm;cases ho:ops[k]? with
    |none=>rw[Array.getElem?_eq_none_iff]at ho;omega
    |some o=>
     obtain⟨p,hp,_⟩:=hhead k o hk ho;rw[Pj ho]at hn;exact(ID hp (e2:=E k) (λ_ _=>rfl) (λ_ _=>rfl)).1 n hn
   .have kc:k=ops.size:=by
     by_cases e:k=ops.size
     .exact e
     .have h6:=h4 k (Nat.le_refl _) (by omega);have h7:=hv k (by omega);simp only[h7]at h6;cases h6
    rw[h5 n,kc]
 |succ fuel ih=>
  intro listed ec a w hsz ix io lb hs
  have lo:∀k,k<h->∀n,n ∉ vh sp ops k->ca (E (k+1)) n=ca (E k) n:=by
   intro k hk n hn;cases ho:ops[k]? with
   |none=>rw[Array.getElem?_eq_none_iff]at ho;omega
   |some o=>
    obtain⟨p,hp,_⟩:=hhead k o hk ho;rw[Pj ho]at hn;exact(ID hp (e2:=E k) (λ_ _=>rfl) (λ_ _=>rfl)).1 n hn
  have hy:∀i,(∀o,ops[i]? = some o->∀e∈o.after,Region.binds .any e=true->listed.getD e.on false=true)->∀j,((uh ops.toList []).getD i 0).testBit j=true->listed.getD j false=true:=λi hi j hj=>SJ (L:=λi=>listed.getD i false) io (l:=ops.toList) (acc:=[]) (λk o hk=>by rw[List.length_nil,Nat.zero_add,<-kk];exact hk)
    (λi _ j hj=>by simp at hj) i hi j hj
  have hz:∀i,listed.getD i false=true->∀j,((uh ops.toList []).getD i 0).testBit j=true->listed.getD j false=true:=λi hi=>hy i (λo ho=>io i o ho hi);refine⟨λhr=>?_,λi hi=>?_⟩
  ·
   exfalso
   have hv:∀i,i<ops.size->listed.getD i false=true:=by
    intro i
    induction i using Nat.strongRecOn with
    |ind i ihi=>
     intro hi;cases hb:listed.getD i false with
     |true=>rfl
     |false=>
      have lx:i∈Region.ready .any ops listed:=by
       refine mem_ready.2 ⟨?_,ops[i],Array.getElem?_eq_getElem hi,λe he hc=>?_⟩
       .rw[Array.getD_eq_getD_getElem?,Array.getElem?_eq_getElem (by omega)]at hb⊢;simpa using hb
       .have:=PD ha i ops[i] (by rw[kk];exact Array.getElem?_eq_getElem hi) e he hc;exact ihi e.on (by omega) (by omega)
      rw[hr]at lx;simp at lx
   have ou:0<listed.toList.count false:=by omega
   have hm:=List.count_pos_iff.1 ou;obtain⟨i,hi⟩:=List.mem_iff_getElem?.1 hm;have lp:=(List.getElem?_eq_some_iff.1 hi).1;rw[Array.length_toList]at lp;have:=hv i (by omega);rw[Array.getD_eq_getD_getElem?,<-Array.getElem?_toList,hi]at this;cases this
  .obtain⟨kr,o,ho,ju⟩:=mem_ready.1 hi;have ky:i<ops.size:=(Array.getElem?_eq_some_iff.1 ho).1
   have hu:listed.getD i false=false:=by
    rw[Array.getD_eq_getD_getElem?,Array.getElem?_eq_getElem (by omega)]at kr⊢;simpa using kr
   have li:listed.toList[i]? = some false:=by
    rw[Array.getElem?_toList,Array.getElem?_eq_getElem (by omega)];rw[Array.getD_eq_getD_getElem?,Array.getElem?_eq_getElem (by omega)]at hu;simpa using hu
   have ox:∀j,(listed.setIfInBounds i true).getD j false=if j=i then true else listed.getD j false:=by
    intro j;by_cases e:j=i
    .subst e;rw[if_pos rfl,Array.getD_eq_getD_getElem?,Array.getElem?_setIfInBounds_self_of_lt (by omega)];rfl
    .rw[if_neg e,getD_set_ne false (Ne.symm e)]
   have it:Closed ops (λi'=>(listed.setIfInBounds i true).getD i' false):=by
    intro j o' nt hj e he hc;simp only[ox]at hj⊢;split
    .rfl
    .split at hj
     .rename_i e';subst e';rw[ho]at nt;cases nt;exact ju e he hc
     .exact io j o' nt hj e he hc
   have ie:(listed.setIfInBounds i true).toList.count false=fuel:=by
    rw[Array.toList_setIfInBounds];have:=WJ li;omega
   have hf:∀j,((uh ops.toList []).getD i 0).testBit j=true->listed.getD j false=true:=hy i (λo' nt=>by rw[ho]at nt;cases nt;exact ju)
   have km:∀hq,(∀a' w',Sim N B IoB W0 F0 hq a' w'->wpAny P .any ops Q fuel (listed.setIfInBounds i true) a' w') ->
     (∀next:Act->World->Prop,(∀a' w',Sim N B IoB W0 F0 hq a' w'->next a' w')->if Region.wanted o (yielded ops a.tmps) then o.wp P a w next Q else next (a.put o.dst undef) w) ->
     wpOp P ops Q i (wpAny P .any ops Q fuel (listed.setIfInBounds i true)) a w:=by
    intro hq h1 h2;have h3:=h2 _ h1;unfold wpOp;rw[ho];simp only[];by_cases hw:Region.wanted o (yielded ops a.tmps)=true
    .rw[if_pos hw]at h3⊢;exact .inl h3
    .rw[if_neg hw]at h3⊢;exact h3
   by_cases hih:i<h
   ·
    rcases lb with⟨m1,m2⟩|⟨k,m1,m2,m3,m4,m5⟩
    .have kj:∀(j:Nat) (oj:Oper),j<h->ops[j]? = some oj->(Yl sp ops.toList (ops.toList.map (·.dst)) (Uc b ops.toList))[j]? = some (reads sp ops.toList (ops.toList.map (·.dst)) oj,writes sp ops.toList (ops.toList.map (·.dst)) oj):=λj oj hj oo=>LJ (by rw[SD (by omega),kk];exact oo)
     have ot:∀(j:Nat) (oj:Oper) (k:Nat) (ok:Oper),j<k->k<h->ops[j]? = some oj->ops[k]? = some ok->((uh ops.toList []).getD k 0).testBit j=true \/
       ((∀n,n∈writes sp ops.toList (ops.toList.map (·.dst)) oj->n ∉ reads sp ops.toList (ops.toList.map (·.dst)) ok)/\(∀n,n∈writes sp ops.toList (ops.toList.map (·.dst)) oj->n ∉ writes sp ops.toList (ops.toList.map (·.dst)) ok) /\
         (∀n,n∈reads sp ops.toList (ops.toList.map (·.dst)) oj->n ∉ writes sp ops.toList (ops.toList.map (·.dst)) ok)):=by
      intro j oj k ok kb hk oo hok;have:=NJ kn rfl k _ j _ (kj k ok hk hok) (by simpa using kj j oj (by omega) oo) (by omega);rw[Nat.zero_add]at this;exact this
     obtain⟨p,oy,hp⟩:=hhead i o hih ho
     have ke:∀n,(n∈reads sp ops.toList (ops.toList.map (·.dst)) o\/n∈writes sp ops.toList (ops.toList.map (·.dst)) o)->∀j,i<j->j<h ->
       n∈vh sp ops j->listed.getD j false=false:=by
      intro n hn j kx kz nl;cases oo:ops[j]? with
      |none=>rw[XJ oo]at nl;simp at nl
      |some oj=>
       rw[Pj oo]at nl;rcases ot i o j oj kx kz ho oo with hb|⟨d1,d2,d3⟩
       .cases hL:listed.getD j false with
        |false=>rfl
        |true=>rw[hz j hL i hb]at hu;cases hu
       .rcases hn with hn|hn
        .exact absurd nl (d3 n hn)
        .exact absurd nl (d2 n hn)
     have jb:∀n,n∈reads sp ops.toList (ops.toList.map (·.dst)) o\/n∈writes sp ops.toList (ops.toList.map (·.dst)) o->ca ec n=ca (E i) n:=by
      intro n hn;rw[m2 n]
      rw[As (h:=h) (k:=i) (by omega) (λj h1 h2 nl=>by
       by_cases e:j=i
       .rw[e];exact hu
       .exact ke n hn j (by omega) h2 nl)]
      refine ws lo (by omega) (λj hj nl=>?_);cases oo:ops[j]? with
      |none=>rw[XJ oo]at nl;simp at nl
      |some oj=>
       rw[Pj oo]at nl;rcases ot j oj i o hj hih oo ho with hb|⟨d1,d2,d3⟩
       .exact hf j hb
       .rcases hn with hn|hn
        .exact absurd hn (d1 n nl)
        .exact absurd hn (d2 n nl)
     have hg:∀n,yf n (ops.toList.map (·.dst))=false->ve (ca ec n)=ve (ca (E i) n):=by
      intro n hn
      have hE:∀k,k<=h->ve (ca (E k) n)=ve (ca (E 0) n):=by
       intro k
       induction k with
       |zero=>exact λ_=>rfl
       |succ k ihk=>
        intro hk;cases hok':ops[k]? with
        |none=>rw[Array.getElem?_eq_none_iff]at hok';omega
        |some ok'=>
         obtain⟨p',os,_⟩:=hhead k ok' (by omega) hok';rw[NU os (n:=n) ?_,ihk (by omega)];intro e;have:yf n (ops.toList.map (·.dst))=true:=FD.2 (List.mem_map.2 ⟨ok',List.mem_of_getElem? ((kk k).trans hok'),e⟩);rw[hn]at this;cases this
      rw[m2 n,TJ (h:=h) hE,hE i (by omega)]
     obtain⟨_,hl,ob,w1,w2⟩:=ID oy jb hg;obtain⟨g',ki,pi⟩:=PU ob;refine km hl (λa' w' hs'=>ih _ hl a' w' (by rw[Array.size_setIfInBounds];exact hsz) ie it (.inl ⟨λj h1 h2=>?_,λn=>?_⟩) hs') (λnext hn=>xD htt hsp hs ki (.inr rfl) pi hp (λd hd=>hdst i o ho d hd) hn)
     .show(listed.setIfInBounds i true).getD j false=false;rw[ox,if_neg (by omega)];exact m1 j h1 h2
     .by_cases hnw:n∈writes sp ops.toList (ops.toList.map (·.dst)) o
      .rw[w1 n hnw]
       rw[As (h:=h) (k:=i+1) (by omega) (λj h1 h2 nl=>by
        show(listed.setIfInBounds i true).getD j false=false;rw[ox,if_neg (by omega)];exact ke n (.inr hnw) j (by omega) h2 nl)]
       simp only[part];rw[if_pos];refine⟨?_,?_⟩
       .rw[ox,if_pos rfl]
       .rw[Pj ho];exact hnw
      .rw[w2 n hnw,m2 n];refine(UJ (λj hj nl=>?_)).symm;show(listed.setIfInBounds i true).getD j false=_;rw[ox,if_neg];rintro rfl;rw[Pj ho]at nl;exact hnw nl
    .have:=m3 i (by omega);simp only[hu]at this;cases this
   ·
    have ow:∀j,j<i->listed.getD j false=true:=by
     intro j hj;apply hf;have:=LD pn (i - h) (by rw[<-hh,Array.length_toList];omega) j (by rw[<-hh];omega);rw[<-hh,show h+(i - h)=i by omega]at this;exact this
    obtain⟨p,oy,hp⟩:=htail i o (by omega) ho
    have ht:∀n,ca (E i) n=ca ec n:=by
     intro n;rcases lb with⟨m1,m2⟩|⟨k,m1,m2,m3,m4,m5⟩
     .have ks:i=h:=by
       by_cases e:i=h
       .exact e
       .have h1:=m1 h (Nat.le_refl _) (by omega);have h2:=ow h (by omega);simp only[h2]at h1;cases h1
      rw[m2 n,ks];exact(ws lo (Nat.le_refl _) (λj hj _=>ow j (by omega))).symm
     .have ks:i=k:=by
       rcases Nat.lt_trichotomy i k with e|e|e
       .have h1:=m3 i e;simp only[hu]at h1;cases h1
       .exact e
       .have h1:=m4 k (Nat.le_refl _) (by omega);have h2:=ow k e;simp only[h2]at h1;cases h1
      rw[m5 n,ks]
    have mp:∀j,i<j->j<ops.size->listed.getD j false=false:=by
     intro j kx hj;cases hL:listed.getD j false with
     |false=>rfl
     |true=>
      have hb:=LD pn (j - h) (by rw[<-hh,Array.length_toList];omega) i (by rw[<-hh];omega);rw[<-hh,show h+(j - h)=j by omega]at hb;have:=hz j hL i hb;rw[hu]at this;cases this
    refine km (E (i+1)) (λa' w' hs'=>ih _ (E (i+1)) a' w' (by rw[Array.size_setIfInBounds];exact hsz) ie it (.inr ⟨i+1,by omega,by omega,λj hj=>?_,λj h1 h2=>?_,λn=>rfl⟩) hs')
     (λnext hn=>Ul htt hsp (hs.congr ht) oy hp (λd hd=>hdst i o ho d hd) hn)
    .show(listed.setIfInBounds i true).getD j false=true;rw[ox];split
     .rfl
     .exact ow j (by omega)
    .show(listed.setIfInBounds i true).getD j false=false;rw[ox,if_neg (by omega)];exact mp j (by omega) h2
end
def Vb:AV->Bool
 |.v _ _=>true
 |.agg _ _=>true
 |.box _=>true
 |.dead=>true
 |_=>false
section
variable {B:Nat}{IoB:List Nat}{F0 F:Fz}{e:Env}{tm:Nat->Value}{w:World}{ow:Nat->Option Nat->Option Nat}
theorem Le{av:AV}(h:Vb av=true){g:Get}{n:Nat}:SR F B w tm g ow n av=VR F B w (ow n) av (tm n):=by
 cases av with
 |v k c=>rfl
 |agg f cs=>rfl
 |box cs=>rfl
 |dead=>rfl
 |_=>simp[Vb]at h
theorem ga.flat(hs:ga B IoB F0 e tm w F ow){e':Env}(h:∀n,Vb (ca e' n)=true/\VR F B w (ow n) (ca e' n) (tm n)):ga B IoB F0 e' tm w F ow:=⟨hs.sub,hs.new,hs.live,hs.inj,hs.bd,λn=>by rw[Le (h n).1];exact(h n).2⟩
theorem ga.raw(hx:ga B IoB F0 e tm w F ow):Kj F B w tm (ca e) (ca e) ow:=λn=>.inr ⟨hx.sr n,rfl⟩
theorem RU{g:Get}{s:Nat}{o:Option Nat}{b:Bool}{p:PV}(h:plainR g (.view s o)=some (b,p)):p.agg=false:=by
 cases o with
 |none=>
  simp only[plainR]at h;split at h
  .cases h;rfl
  .cases h;rfl
  .cases h
 |some o=>
  simp only[plainR]at h;split at h
  .split at h
   .cases h;rfl
   .cases h
  .cases h
theorem ga.clean(hs:ga B IoB F0 e tm w F ow):ga B IoB F0 (Go.Proofs.YtiiidenbemkihaaGreat.clean e) tm w F ow/\∀n,Vb (ca (Go.Proofs.YtiiidenbemkihaaGreat.clean e) n)=true:=by
 have hi:∀n,ca (Go.Proofs.YtiiidenbemkihaaGreat.clean e) n=gJ (ca e) (ca e n):=λn=>zf _ rfl e n
 have key:∀n,Vb (ca (Go.Proofs.YtiiidenbemkihaaGreat.clean e) n)=true/\VR F B w (ow n) (ca (Go.Proofs.YtiiidenbemkihaaGreat.clean e) n) (tm n):=by
  intro n;rw[hi n];have hl:=hs.sr n;cases hav:ca e n with
  |dead=>exact⟨rfl,trivial⟩
  |v k c=>rw[hav]at hl;exact⟨rfl,hl⟩
  |agg f cs=>rw[hav]at hl;exact⟨rfl,hl⟩
  |box cs=>rw[hav]at hl;exact⟨rfl,hl⟩
  |tup l=>exact⟨rfl,trivial⟩
  |cond k a=>exact⟨rfl,trivial⟩
  |baddr m o=>exact⟨rfl,trivial⟩
  |faddr f cs=>exact⟨rfl,trivial⟩
  |oaddr m i o=>exact⟨rfl,trivial⟩
  |view m o=>
   rw[hav]at hl;show Vb (match Go.Proofs.YtiiidenbemkihaaGreat.plainR (ca e) (.view m o) with|some (false,⟨f,_,[c]⟩)=>AV.v (frK f) c|_=>AV.dead)=true/\VR F B w (ow n) (match Go.Proofs.YtiiidenbemkihaaGreat.plainR (ca e) (.view m o) with|some (false,⟨f,_,[c]⟩)=>AV.v (frK f) c|_=>AV.dead) (tm n);split
   .rename_i f ag c hp;refine⟨rfl,?_⟩;have hh:=RU hp;simp only at hh;subst hh;have hj:=Bi hs.live hs.raw (k:=[]) trivial rfl;have hk:=fD hj (o:=ow n) (hl.avr (λ_ _ h=>by cases h)) (λf c h=>by cases h) (GJ hp);exact DT hk
   .exact⟨rfl,trivial⟩
 exact⟨hs.flat key,λn=>(key n).1⟩
theorem YJ(e:Env)(n:Nat):∀keep,ca (mask e keep) n=.dead\/ca (mask e keep) n=ca e n
 |[]=>.inl rfl
 |k::ks=>by
  simp only[mask,ca];cases hb:Nat.beq k n with
  |true=>right;rw[Nat.eq_of_beq_eq_true hb]
  |false=>exact YJ e n ks
theorem ga.mask(hs:ga B IoB F0 e tm w F ow)(hf:∀n,Vb (ca e n)=true)(keep:List Nat):ga B IoB F0 (Go.Proofs.YtiiidenbemkihaaGreat.mask e keep) tm w F ow:=by
 refine hs.flat λn=>?_;rcases YJ e n keep with h|h
 .rw[h];exact⟨rfl,trivial⟩
 .rw[h];have hh:=hs.sr n;rw[Le (hf n)]at hh;exact⟨hf n,hh⟩
end
section
variable {P:Program}{tt:TT}{sp:SP}{B:Nat}{IoB:List Nat}{F0:Fz}{N:NP}{W0:World}
theorem Sim.clean{e:Env}{a:Act}{w:World}(hs:Sim N B IoB W0 F0 e a w):Sim N B IoB W0 F0 (clean e) a w:=by
 obtain⟨F,ow,hx⟩:=hs.rep;exact⟨hs.defers,hs.tmps,hs.base,hs.f0,hs.kept,F,ow,hx.clean.1⟩
theorem Sim.cleanMask{e:Env}{a:Act}{w:World}(hs:Sim N B IoB W0 F0 e a w)(keep:List Nat):Sim N B IoB W0 F0 (mask (Go.Proofs.YtiiidenbemkihaaGreat.clean e) keep) a w:=by
 obtain⟨F,ow,hx⟩:=hs.rep;exact⟨hs.defers,hs.tmps,hs.base,hs.f0,hs.kept,F,ow,hx.clean.1.mask hx.clean.2 keep⟩
theorem ga.transfer{F:Fz}{e:Env}{tm:Nat->Value}{w:World}{ow:Nat->Option Nat->Option Nat}(hs:ga B IoB F0 e tm w F ow)(hBw:B<=w.heap.size){m d:Nat}(hv:ca e d=.view m none)(hmd:m≠d) :
  ∃ow',ga B IoB F0 (Go.Proofs.YtiiidenbemkihaaGreat.transfer e m d) tm w F ow':=by
 have hh:=hs.sr d;rw[hv]at hh;have hb:bears (ca e m)=true:=hh.2.1;have hi:tm d=tm m:=hh.1;have h1:=hs.unviewAt m .dead (λ_ _=>trivial)
 have h2:=h1.putG (d:=d) (av:=ca e m) (v:=tm m) (owd:=ow m) hBw (Pa.refl F w) hs.live (λi b h=>hs.bd m i b h)
  (λi b h s' i' _ h'=>by
    by_cases e1:s'=m
    .simp[e1]at h'
    .simp only[e1,if_false]at h';exact e1 (hs.inj _ _ _ _ _ h' h).1)
  (λi i' b h h'=>(hs.inj _ _ _ _ _ h h').2)
  (λg' _ _=>by
    rw[Vr hb];simp only[if_true];have:=hs.sr m;rw[Vr hb]at this;exact this)
 have _:=hmd
 have ht:(λn=>if n=d then tm m else tm n)=tm:=funext λn=>by
  by_cases h:n=d
  .rw[if_pos h,h,hi]
  .rw[if_neg h]
 rw[ht]at h2;exact⟨_,h2⟩
theorem Sim.settle{keep:List Nat}{a:Act}{w:World}:∀ {l:List Nat}{e:Env},Sim N B IoB W0 F0 e a w->Sim N B IoB W0 F0 (Go.Proofs.YtiiidenbemkihaaGreat.settle keep l e) a w
 |[],_,hs=>hs
 |d::r,e,hs=>by
  simp only[Go.Proofs.YtiiidenbemkihaaGreat.settle];split
  .rename_i m hg;split
   .rename_i hb;obtain⟨F,ow,hx⟩:=hs.rep;obtain⟨hi,hh⟩:=hx.transfer (Nat.le_trans hs.base hs.kept.size) hg (λe=>by rw[e,Nat.beq_refl]at hb;cases hb);exact Sim.settle ⟨hs.defers,hs.tmps,hs.base,hs.f0,hs.kept,F,hi,hh⟩
   .exact Sim.settle hs
  .exact Sim.settle hs
theorem Sim.drew{e:Env}{a:Act}{w:World}(hs:Sim N B IoB W0 F0 e a w)(m:Nat):Sim N B IoB W0 F0 e a { w with drawn:=m }:=by
 obtain⟨F,ow,hx⟩:=hs.rep;refine⟨hs.defers,hs.tmps,hs.base,hs.f0,⟨hs.kept.os,hs.kept.tape,hs.kept.output,hs.kept.size,hs.kept.block,hs.kept.obj⟩,F,ow,⟨hx.sub,hx.new,hx.live,hx.inj,hx.bd,λn=>?_⟩⟩;have h:=hx.sr n;exact SR.grow (F:=F) (w:=w) (w':={ w with drawn:=m }) ⟨rfl,rfl,rfl,Nat.le_refl _,λ_ _=>rfl,λ_ _ h=>h,λ_ _ h=>.inl h⟩ hx.live h
def Zf(N:NP):List Oper->Bool
 |[]=>true
 |o::r=>(match o.dst with|some d=>N.ok d|none=>true)&&Zf N r
theorem Qj:∀ {l:List Oper},Zf N l=true->∀(i:Nat) (o:Oper),l[i]? = some o->∀d,o.dst=some d->N.ok d=true
 |[],_,i,o,h,_,_=>by simp at h
 |o0::r,h,i,o,hi,d,hd=>by
  simp only[Zf,Bool.and_eq_true]at h;cases i with
  |zero=>
   simp at hi;subst hi;rw[hd]at h;exact h.1
  |succ i=>exact Qj h.2 i o (by simpa using hi) d hd
theorem SU(htt:Ub P tt)(hsp:∀f s,spk sp f=some s->Con P f s){ops:Array Oper}(hdst:Zf N ops.toList=true){E:Nat->Env}
  (hst:∀(i:Nat) (o:Oper),ops[i]? = some o->∃p,stepF tt sp (ops.toList.map (·.dst)) (E i) o=some (E (i+1),p)/\∀q∈p,q)
  {Q:Exit->Act->World->Prop} (hQ:∀a w,Sim N B IoB W0 F0 (E ops.size) a w->Q .normal a w) :
  ∀(n i:Nat) (a:Act) (w:World),i+n=ops.size->Sim N B IoB W0 F0 (E i) a w->wpOps P ops Q (List.range' i n) a w:=by
 intro n
 induction n with
 |zero=>
  intro i a w hi hs;rw[Nat.add_zero]at hi;subst hi;exact hQ a w hs
 |succ n ih=>
  intro i a w hi hs;have hh:i<ops.size:=by omega
  rw[List.range'_succ,wpOps_cons];obtain⟨p,hp,hq⟩:=hst i ops[i] (Array.getElem?_eq_getElem hh)
  have h:=Ul htt hsp hs hp hq (λd hd=>Qj hdst i ops[i] (by rw[Array.getElem?_toList];exact Array.getElem?_eq_getElem hh) d hd) (Q:=Q) (next:=wpOps P ops Q (List.range' (i+1) n))
   (λa' w' hs'=>ih (i+1) a' w' (by omega) hs')
  unfold wpOp;rw[Array.getElem?_eq_getElem hh];simp only[];by_cases hw:Region.wanted ops[i] (yielded ops a.tmps)=true
  .rw[if_pos hw]at h⊢;exact .inl h
  .rw[if_neg hw]at h⊢;exact h
def Cs(sp:SP)(N:NP)(ops:List Oper)(draw:Bool):Bool:=Zf N ops&&match draw with
 |true=>Ve true sp ops||Ve false sp ops
 |false=>true
theorem ZJ(htt:Ub P tt)(hsp:∀f s,spk sp f=some s->Con P f s)(hm:P.follows .mixedOrders=true){id:Nat}{ops:Array Oper}{draw:Bool}(hok:Cs sp N ops.toList draw=true){keep:List Nat}{e e':Env}{obs:List Prop}
  (hr:Zl tt sp keep ops.toList draw e=some (e',obs)) (ho:∀p∈obs,p) {Q:Exit->Act->World->Prop} (hQ:∀a w,Sim N B IoB W0 F0 e' a w->Q .normal a w) {a:Act}{w:World} (hs:Sim N B IoB W0 F0 e a w) :
  (Code.region id ops draw).wp P Q a w:=by
 simp only[Cs,Bool.and_eq_true]at hok;obtain⟨hn,hdr⟩:=hok;have hsz:ops.toList.length=ops.size:=Array.length_toList;have ht:∀i,ops.toList[i]? = ops[i]?:=λi=>Array.getElem?_toList;cases draw with
 |false=>
  simp only[Zl]at hr;split at hr
  .rename_i e2 q hf;simp only[Option.some.injEq,Prod.mk.injEq]at hr;obtain⟨rfl,rfl⟩:=hr;obtain⟨E,h0,h1,h2⟩:=JD hf;refine wp_region ?_;rw[List.range_eq_range'];refine SU htt hsp hn (E:=E) (λi o hu=>?_) (λa w hs=>?_) ops.size 0 a w (by omega) (by rw[h0];exact hs.clean)
   .obtain⟨p,hp,hq⟩:=h2 i o (by rw[ht];exact hu);exact⟨p,hp,λq hq'=>ho q (hq q hq')⟩
   .rw[<-hsz,h1]at hs;exact hQ a w (hs.settle.cleanMask keep)
  .cases hr
 |true=>
  simp only[Zl]at hr;have hdr:(Ve true sp ops.toList||Ve false sp ops.toList)=true:=hdr
  have hdr:Ve (Ve true sp ops.toList) sp ops.toList=true:=by
   cases hb:Ve true sp ops.toList with
   |true=>exact hb
   |false=>
    rw[hb]at hdr;simpa using hdr
  generalize Ve true sp ops.toList=b at hr hdr;split at hr
  .rename_i e1 p1 hS;split at hr
   .rename_i e2 q2 hF;simp only[Option.some.injEq,Prod.mk.injEq]at hr;obtain⟨rfl,rfl⟩:=hr;obtain⟨E1,a0,a1,a2⟩:=IJ hS;obtain⟨E2,b0,b1,b2⟩:=JD hF;have hlen:=UD b ops.toList;let h:=(Uc b ops.toList).length;let E:Nat->Env:=λi=>if i<h then E1 i else E2 (i - h)
    have hj:∀i,i<=h->E i=E1 i:=λi hi=>by
     by_cases e:i<h
     .exact if_pos e
     .have:i=h:=by omega
      subst this;show(if h<h then E1 h else E2 (h - h))=E1 h;rw[if_neg (by omega),Nat.sub_self,b0,a1]
    have hl:∀i,h<=i->E i=E2 (i - h):=λi hi=>if_neg (by omega);have hh:E 0=Go.Proofs.YtiiidenbemkihaaGreat.clean e:=by rw[hj 0 (Nat.zero_le _),a0]
    refine wp_region_any hm ?_
    refine QU htt hsp (h:=h) (E:=E) (Qj (l:=ops.toList) hn |> λf i o hi=>f i o (by rw[ht];exact hi)) rfl (λi o hi hu=>?_) (λi o hi hu=>?_) hdr (λa w hs=>?_) ops.size _ (E 0) a _
     (by simp) (by simp) ?_ ?_ (by rw[hh];exact hs.clean.drew _)
    .obtain⟨p,hp,hq⟩:=a2 i o (by rw[SD hi,ht];exact hu);refine⟨p,?_,λq hq'=>ho q (List.mem_append_left _ (hq q hq'))⟩;rw[hj i (by omega),hj (i+1) (by omega)];exact hp
    .obtain⟨p,hp,hq⟩:=b2 (i - h) o (by rw[VJ,ht,show(Uc b ops.toList).length+(i - h)=i by omega];exact hu);refine⟨p,?_,λq hq'=>ho q (List.mem_append_right _ (hq q hq'))⟩;rw[hl i hi,hl (i+1) (by omega),show i+1 - h=i - h+1 by omega];exact hp
    .have hE:E ops.size=e2:=by rw[hl _ (by omega),show ops.size - h=(xi b ops.toList).length by omega,b1]
     rw[hE]at hs;exact hQ a w (hs.settle.cleanMask keep)
    .intro i o hu hL
     exfalso
     simp only[Array.getD_eq_getD_getElem?]at hL;by_cases hi:i<ops.size
     .simp[hi]at hL
     .simp[hi]at hL
    .refine .inl ⟨λj h1 h2=>?_,λn=>?_⟩
     .simp[h2]
     .have:∀k,k<=h->part E (vh sp ops) (λi=>(Array.replicate ops.size false).getD i false) k n=ca (E 0) n:=by
       intro k hk;refine As (Nat.zero_le _) (λj h1 h2 _=>?_);have:j<ops.size:=by omega
       simp[this]
      exact(this h (Nat.le_refl _)).symm
   .cases hr
  .cases hr
end
structure Fr where
 B:Nat
 IoB:List Nat
 W0:World
 F0:Fz
structure Good(P:Program)(tt:TT)(sp:SP):Prop where
 htt:Ub P tt
 hsp:∀f s,spk sp f=some s->Con P f s
 hm:P.follows .mixedOrders=true
def UU(n r:Env->Prop)(x:Nat->Env->Prop):Exit->Env->Prop
 |.normal,e=>n e
 |.ret,e=>r e
 |.exit i,e=>x i e
 |_,_=>False
def Ht(P:Program)(N:NP)(fr:Fr)(c:Code)(e:Env)(n r:Env->Prop)(x:Nat->Env->Prop):Prop:=
 ∀a w,Sim N fr.B fr.IoB fr.W0 fr.F0 e a w->c.wp P (λex a w=>∃e',Sim N fr.B fr.IoB fr.W0 fr.F0 e' a w/\UU n r x ex e') a w
def da:List Prop->Prop
 |[]=>True
 |p::r=>p/\da r
theorem da.all:∀ {l:List Prop},da l->∀p∈l,p
 |[],_,p,h=>by simp at h
 |q::r,h,p,hp=>by
  rcases List.mem_cons.1 hp with rfl|hp
  .exact h.1
  .exact da.all h.2 p hp
def regC(tt:TT)(sp:SP)(N:NP)(keep:List Nat)(c:Code)(e:Env):Option (Env×List Prop):=
 match c with
 |.region _ ops draw=>match Cs sp N ops.toList draw with
  |true=>Zl tt sp keep ops.toList draw e
  |false=>none
 |_=>none
section
variable {P:Program}{tt:TT}{sp:SP}{N:NP}{fr:Fr}{c:Code}{e:Env}{n r:Env->Prop}{x:Nat->Env->Prop}
theorem Ht.reg(G:Good P tt sp){keep:List Nat}{e':Env}{obs:List Prop}(hc:regC tt sp N keep c e=some (e',obs))(ho:da obs)(h:n e'):Ht P N fr c e n r x:=by
 intro a w hs;unfold regC at hc;split at hc
 .split at hc
  .rename_i hok;exact ZJ G.htt G.hsp G.hm hok hc ho.all (λa w hs=>⟨e',hs,h⟩) hs
  .cases hc
 .cases hc
theorem Ht.seq{c1 c2:Code}(hc:c=.seq c1 c2)(h:Ht P N fr c1 e (λe'=>Ht P N fr c2 e' n r x) r x):Ht P N fr c e n r x:=by
 subst hc;intro a w hs;refine wp_seq (wp_mono (h a w hs) ?_);rintro ex a w ⟨e',hh,hp⟩;cases ex with
 |normal=>exact hp a w hh
 |_=>exact⟨e',hh,hp⟩
def readB(e:Env):Operand->Option Bool
 |.tmp t=>match ca e t with
  |.v _ (.bool b)=>some b
  |_=>none
 |.const (.bool b)=>some b
 |_=>none
theorem Ht.cond{o:Operand}{c1 c2:Code}(hc:c=.cond o c1 c2){b:Bool}(hb:readB e o=some b)(h1:b=true->Ht P N fr c1 e n r x)(h2:b=false->Ht P N fr c2 e n r x):Ht P N fr c e n r x:=by
 subst hc;intro a w hs
 have hv:a.eval o=.bool b:=by
  unfold readB at hb;split at hb
  .rename_i t;split at hb
   .rename_i k b' hg;simp only[Option.some.injEq]at hb;subst hb;obtain⟨F,ow,hx⟩:=hs.rep;have hh:=hx.sr t;rw[hg]at hh;exact Ci (hh.avr (λ_ _ h=>by cases h))
   .cases hb
  .simp only[Option.some.injEq]at hb;subst hb;rfl
  .cases hb
 exact wp_cond_split hv (λh=>h1 h a w hs) (λh=>h2 h a w hs)
def Es(id:Nat)(n:Env->Prop)(x:Nat->Env->Prop)(i:Nat):Env->Prop:=
 match Nat.beq i id with
 |true=>n
 |false=>x i
theorem Ht.block{id:Nat}{c1:Code}(hc:c=.block id c1)(h:Ht P N fr c1 e n r (Es id n x)):Ht P N fr c e n r x:=by
 subst hc;intro a w hs;refine wp_block (wp_mono (h a w hs) ?_);rintro ex a w ⟨e',hh,hp⟩;cases ex with
 |exit i=>
  simp only[Exit.inBlock];have hp:Es id n x i e':=hp;unfold Es at hp;by_cases hi:i=id
  .subst hi;rw[Nat.beq_refl]at hp;rw[if_pos rfl];exact⟨e',hh,hp⟩
  .rw[Ue hi]at hp;rw[if_neg hi];exact⟨e',hh,hp⟩
 |_=>exact⟨e',hh,hp⟩
theorem Ht.skip(hc:c=.skip)(h:n e):Ht P N fr c e n r x:=by
 subst hc;exact λa w hs=>wp_skip ⟨e,hs,h⟩
theorem Ht.exit{i:Nat}(hc:c=.exit i)(h:x i e):Ht P N fr c e n r x:=by
 subst hc;exact λa w hs=>wp_exit ⟨e,hs,h⟩
theorem Ht.ret(hc:c=.ret)(h:r e):Ht P N fr c e n r x:=by
 subst hc;exact λa w hs=>wp_ret ⟨e,hs,h⟩
theorem Ht.mono{n' r':Env->Prop}{x':Nat->Env->Prop}(h:Ht P N fr c e n r x)(hn:∀e,n e->n' e)(hr:∀e,r e->r' e)(hx:∀i e,x i e->x' i e):Ht P N fr c e n' r' x':=by
 intro a w hs;refine wp_mono (h a w hs) ?_;rintro ex a w ⟨e',hh,hp⟩;refine⟨e',hh,?_⟩;cases ex with
 |normal=>exact hn _ hp
 |ret=>exact hr _ hp
 |exit i=>exact hx _ _ hp
 |_=>exact hp
theorem We{σ:Type}{c:Code}{Q:Exit->Act->World->Prop}(I:σ->Act->World->Prop)
  (m:σ->Nat) (round:∀s a w,I s a w->c.wp P (Exit.then (λa' w'=>∃s',m s'<m s/\I s' a' w') Q) a w) (s:σ) {a:Act}{w:World} (h₀:I s a w):(Code.loop c).wp P Q a w:=by
 intro b k cs
 have key:∀n s a w,m s=n->I s a w ->
   ∃e a' w',Q e a' w'/\Arrives P (lone (b.at a (.code c::.inLoop c::k)) cs w) b k cs e a' w':=by
  intro n
  induction n using Nat.strongRecOn with
  |_ n ih=>
   intro s a w hn hI;obtain⟨e,a₁,w₁,hq,hi⟩:=round s a w hI b (.inLoop c::k) cs;cases e with
   |normal=>
    obtain⟨s',hk,hh⟩:=hq;obtain⟨e₂,a₂,w₂,hl,hj⟩:=ih (m s') (hn▸hk) s' a₁ w₁ rfl hh;exact⟨e₂,a₂,w₂,hl,.of_steps (Steps.trans hi (.one step_inLoop)) hj⟩
   |exit id=>exact⟨_,a₁,w₁,hq,.pass (x:=.inLoop c) rfl (λ_ _=>.inl (by simp)) hi⟩
   |goto l=>exact⟨_,a₁,w₁,hq,.pass (x:=.inLoop c) rfl (λ_ _=>.inl (by simp)) hi⟩
   |ret=>exact⟨_,a₁,w₁,hq,.pass (x:=.inLoop c) rfl (λ_ _=>.inl (by simp)) hi⟩
   |panic ch=>exact⟨_,a₁,w₁,hq,.pass (x:=.inLoop c) rfl (λ_ _=>.inl (by simp)) hi⟩
   |outgrown=>exact⟨_,a₁,w₁,hq,.pass (x:=.inLoop c) rfl (λ_ _=>.inl (by simp)) hi⟩
 obtain⟨e,a',w',hq,hi⟩:=key _ s a w rfl h₀;exact⟨e,a',w',hq,.of_steps (.one step_loop) hi⟩
end
inductive Lp(σ ρ:Type) where
 |go (s:σ)
 |out (r:ρ)
inductive LpT{σ ρ:Type}(step:σ->Lp σ ρ)(ob:σ->Prop):σ->Prop where
 |mk (s:σ):ob s->(∀s',step s=.go s'->LpT step ob s')->LpT step ob s
inductive LpR{σ ρ:Type}(step:σ->Lp σ ρ):σ->ρ->Prop where
 |out {s r}:step s=.out r->LpR step s r
 |go {s s' r}:step s=.go s'->LpR step s' r->LpR step s r
open Classical in
noncomputable def lpV{σ ρ:Type}[Inhabited ρ](step:σ->Lp σ ρ)(s:σ):ρ:=if h:∃r,LpR step s r then Classical.choose h else default
theorem LpR.fn{σ ρ:Type}{step:σ->Lp σ ρ}{s:σ}{r:ρ}(h:LpR step s r):∀ {r'},LpR step s r'->r'=r:=by
 induction h with
 |out h=>intro r' h';cases h' with
  |out h''=>rw[h]at h'';cases h'';rfl
  |go h'' _=>rw[h]at h'';cases h''
 |go h _ ih=>intro r' h';cases h' with
  |out h''=>rw[h]at h'';cases h''
  |go h'' h3=>rw[h]at h'';cases h'';exact ih h3
theorem LpR.val{σ ρ:Type}[Inhabited ρ]{step:σ->Lp σ ρ}{s:σ}{r:ρ}(h:LpR step s r):lpV step s=r:=by
 have hex:∃r,LpR step s r:=⟨r,h⟩;unfold lpV;rw[dif_pos hex];exact h.fn (Classical.choose_spec hex)
theorem aK{σ ρ:Type}[Inhabited ρ]{step:σ->Lp σ ρ}{s:σ}{r:ρ}(h:step s=.out r):lpV step s=r:=(LpR.out h).val
theorem bK{σ ρ:Type}[Inhabited ρ]{step:σ->Lp σ ρ}{s s':σ}(h:step s=.go s'):lpV step s=lpV step s':=by
 by_cases hex:∃r,LpR step s' r
 .obtain⟨r,hr⟩:=hex;rw[hr.val,(LpR.go h hr).val]
 .have hh:¬ ∃r,LpR step s r:=by
   rintro⟨r,hr⟩;cases hr with
   |out h'=>rw[h]at h';cases h'
   |go h' h''=>rw[h]at h';cases h';exact hex ⟨r,h''⟩
  unfold lpV;rw[dif_neg hex,dif_neg hh]
theorem LpT.ob{σ ρ:Type}{step:σ->Lp σ ρ}{ob:σ->Prop}{s:σ}(h:LpT step ob s):ob s:=by cases h;assumption
theorem LpT.next{σ ρ:Type}{step:σ->Lp σ ρ}{ob:σ->Prop}{s s':σ}(h:LpT step ob s)(hs:step s=.go s'):LpT step ob s':=by
 cases h with
 |mk _ _ h=>exact h s' hs
section
variable {P:Program}{N:NP}{fr:Fr}{c:Code}{n r:Env->Prop}{x:Nat->Env->Prop}
inductive LpN{σ ρ:Type}(step:σ->Lp σ ρ)(ob:σ->Prop):Nat->σ->Prop where
 |out {s r}:ob s->step s=.out r->LpN step ob 0 s
 |go {k s s'}:ob s->step s=.go s'->LpN step ob k s'->LpN step ob (k+1) s
theorem LpT.count{σ ρ:Type}{step:σ->Lp σ ρ}{ob:σ->Prop}{s:σ}(h:LpT step ob s):∃k,LpN step ob k s:=by
 induction h with
 |mk s ho _ ih=>
  cases hs:step s with
  |out r=>exact⟨0,.out ho hs⟩
  |go s'=>obtain⟨k,hk⟩:=ih s' hs;exact⟨k+1,.go ho hs hk⟩
theorem Ht.loop{σ ρ:Type}{c1:Code}(hc:c=.loop c1){I:σ->Env}{step:σ->Lp σ ρ}{ob:σ->Prop}{s0:σ}(hT:LpT step ob s0)
  (hround:∀s,ob s->Ht P N fr c1 (I s) (λe'=>∃s',step s=.go s'/\e'=I s') (λe'=>∃q,step s=.out q/\(LpR step s0 q->r e')) (λi e'=>∃q,step s=.out q/\(LpR step s0 q->x i e'))):Ht P N fr c (I s0) n r x:=by
 subst hc;intro a w hs;obtain⟨k0,hh⟩:=hT.count;refine We (σ:=Nat×σ) (λks a w=>LpN step ob ks.1 ks.2/\(∀q,LpR step ks.2 q->LpR step s0 q)/\Sim N fr.B fr.IoB fr.W0 fr.F0 (I ks.2) a w) (·.1) ?_ (k0,s0) ⟨hh,λ_ h=>h,hs⟩;rintro⟨k,s⟩ a w ⟨hk,hq,hj⟩;have hk:LpN step ob k s:=hk;have ho:ob s:=by cases hk<;>assumption
 refine wp_mono (hround s ho a w hj) ?_;rintro ex a w ⟨e',hi,hp⟩;cases ex with
 |normal=>
  obtain⟨s',hl,rfl⟩:=hp;cases hk with
  |out _ h=>rw[hl]at h;cases h
  |go _ h hk'=>
   rw[hl]at h;cases h;exact⟨(_,s'),Nat.lt_succ_self _,hk',λq h=>hq q (.go hl h),hi⟩
 |ret=>
  obtain⟨q,hl,h⟩:=hp;exact⟨e',hi,h (hq q (.out hl))⟩
 |exit i=>
  obtain⟨q,hl,h⟩:=hp;exact⟨e',hi,h (hq q (.out hl))⟩
 |_=>exact hp.elim
end
inductive Tk where
 |same
 |sh
 |fr
 |acc (f:Bool)
 |own (f:Bool)
 |bx (l:List (Option (Option Bool)))
def Ac:List (Option (Option Bool))->List (K×C)->List (K×C)
 |some (some f)::l,(_,.nl t)::cs=>(.acc f,.lst t [])::Ac l cs
 |some none::l,(.acc _,c)::cs=>(.sh,norm c)::Ac l cs
 |some none::l,(.fr,c)::cs=>(.sh,c)::Ac l cs
 |_::l,kc::cs=>kc::Ac l cs
 |[],cs=>cs
 |_::_,[]=>[]
theorem Fs:∀(l:List (Option (Option Bool))) (cs:List (K×C)),(Ac l cs).length=cs.length
 |[],cs=>by cases cs<;>rfl
 |_::_,[]=>by simp[Ac]
 |none::l,kc::cs=>by
  have:=Fs l cs;simp[Ac,this]
 |some (some f)::l,(k,c)::cs=>by
  have:=Fs l cs;cases c<;>simp[Ac,this]
 |some none::l,(k,c)::cs=>by
  have:=Fs l cs;cases k<;>simp[Ac,this]
theorem Gs:∀ {l:List (Option (Option Bool))}{cs:List (K×C)}{j:Nat}{kc:K×C},(Ac l cs)[j]? = some kc->∃kc0,cs[j]? = some kc0/\(kc=kc0\/(∃f t,kc0.2=.nl t/\kc=(.acc f,.lst t []))\/(∃f,kc0.1=.acc f/\kc=(.sh,norm kc0.2))\/(kc0.1=.fr/\kc=(.sh,kc0.2)))
 |[],[],j,kc,h=>by simp[Ac]at h
 |[],_::_,j,kc,h=>⟨kc,h,.inl rfl⟩
 |_::_,[],j,kc,h=>by simp[Ac]at h
 |none::l,kc0::cs,j,kc,h=>by
  cases j with
  |zero=>simp[Ac]at h;exact⟨kc0,rfl,.inl h.symm⟩
  |succ j=>
   obtain⟨q,h1,h2⟩:=Gs (l:=l) (cs:=cs) (j:=j) (kc:=kc) (by simpa [Ac] using h);exact⟨q,by simpa using h1,h2⟩
 |some (some f)::l,(k,c)::cs,j,kc,h=>by
  cases j with
  |zero=>
   cases c with
   |nl t=>simp[Ac]at h;exact⟨(k,.nl t),rfl,.inr (.inl ⟨f,t,rfl,h.symm⟩)⟩
   |_=>simp[Ac]at h;exact⟨_,rfl,.inl h.symm⟩
  |succ j=>
   obtain⟨q,h1,h2⟩:=Gs (l:=l) (cs:=cs) (j:=j) (kc:=kc) (by cases c<;>simpa [Ac] using h);exact⟨q,by simpa using h1,h2⟩
 |some none::l,(k,c)::cs,j,kc,h=>by
  cases j with
  |zero=>
   cases k with
   |acc f=>simp[Ac]at h;exact⟨_,rfl,.inr (.inr (.inl ⟨f,rfl,h.symm⟩))⟩
   |fr=>simp[Ac]at h;exact⟨_,rfl,.inr (.inr (.inr ⟨rfl,h.symm⟩))⟩
   |_=>simp[Ac]at h;exact⟨_,rfl,.inl h.symm⟩
  |succ j=>
   obtain⟨q,h1,h2⟩:=Gs (l:=l) (cs:=cs) (j:=j) (kc:=kc) (by cases k<;>simpa [Ac] using h);exact⟨q,by simpa using h1,h2⟩
def leB:Bool->Bool->Bool
 |true,false=>false
 |_,_=>true
def ze:Tk->AV->Option AV
 |.same,a=>some a
 |.sh,.v .sh c=>some (.v .sh (norm c))
 |.sh,.v .fr c=>some (.v .sh (norm c))
 |.sh,.v (.acc _) c=>some (.v .sh (norm c))
 |.sh,.agg _ cs=>some (.agg false (norms cs))
 |.fr,.v .fr c=>some (.v .fr (norm c))
 |.fr,.v (.acc true) c=>some (.v .fr (norm c))
 |.fr,.agg true cs=>some (.agg true (norms cs))
 |.acc f,.v _ (.nl t)=>some (.v (.acc f) (.lst t []))
 |.acc f,.v (.acc f') c=>match leB f f' with
  |true=>some (.v (.acc f) (norm c))
  |false=>none
 |.own f,.v (.own f') c=>match leB f f' with
  |true=>some (.v (.own f) c)
  |false=>none
 |.bx l,.box cs=>some (.box (Ac l cs))
 |_,_=>none
def bg(e:Env):List (Nat×Tk)->Option Env
 |[]=>some []
 |(n,k)::r=>match ze k (ca e n),bg e r with
  |some a,some e'=>match Vb a with
   |true=>some ((n,a)::e')
   |false=>none
  |_,_=>none
theorem RC.lower{F:Fz}{B:Nat}{f f':Bool}{w:World}{c:C}{v:Value}(h:RC F (lof B f') w c v)(hf:leB f f'=true):RC F (lof B f) w c v:=h.mono (λ_ _ h=>h) (by cases f<;>cases f'<;>simp[lof,leB]at hf⊢) (λ_ _ _=>rfl)
theorem Hs{F:Fz}{B:Nat}{w:World}{o:Option Nat->Option Nat}{k:Tk}{av av':AV}{v:Value}(h:ze k av=some av')(hv:VR F B w o av v):VR F B w o av' v:=by
 have h0:∀ {lo:Nat}{c:C},RC F lo w c v->RC F 0 w (norm c) v:=λh=>(RC.lo0 h).norm;unfold ze at h;split at h
 .cases h;exact hv
 .cases h;exact h0 hv
 .cases h;exact h0 (hv:RC F B w _ v)
 .cases h;exact h0 hv.1
 .rename_i f cs;cases h;obtain⟨vs,rfl,hr⟩:=hv;exact⟨vs,rfl,(hr.mono (λ_ _ h=>h) (Nat.zero_le _) (λ_ _ _=>rfl)).norms⟩
 .cases h;exact(hv:RC F B w _ v).norm
 .cases h;exact RC.norm hv.1
 .cases h;obtain⟨vs,rfl,hr⟩:=hv;exact⟨vs,rfl,hr.norms⟩
 .rename_i f k' t;cases h
  have hi:∃lo,RC F lo w (.nl t) v:=by
   cases k' with
   |sh=>exact⟨_,hv⟩
   |fr=>exact⟨_,hv⟩
   |acc f=>exact⟨_,hv.1⟩
   |own f=>rcases hv with⟨t,h1,_⟩|⟨t,xs,b,cap,cs,vs,h1,_⟩<;>cases h1
  obtain⟨lo,hi⟩:=hi;cases hi;exact⟨.nil _,.inl ⟨t,rfl,rfl⟩⟩
 .rename_i f f' c;split at h
  .rename_i hf;cases h;exact ya.norm ⟨RC.lower hv.1 hf,hv.2⟩
  .cases h
 .rename_i f f' c;split at h
  .rename_i hf;cases h;rcases hv with h|⟨t,xs,b,cap,cs,vs,e1,e2,e3,e4,e5,hh,e6,e7,e8,e9⟩
   .exact .inl h
   exact .inr ⟨t,xs,b,cap,cs,vs,e1,e2,e3,e4,e5,hh,Nat.le_trans (by cases f<;>cases f'<;>simp[lof,leB]at hf⊢) e6,e7,e8,λi j x c hx hc=>RC.lower (e9 i j x c hx hc) hf⟩
  .cases h
 .rename_i l cs;cases h;obtain⟨b,vs,e1,e2,e3,e4,e5,e6⟩:=hv;refine⟨b,vs,e1,e2,e3,e4,by rw[Fs];exact e5,λj kc u hj hu=>?_⟩;obtain⟨hk,h1,h2⟩:=Gs hj;have h3:=e6 j hk u h1 hu;rcases h2 with rfl|⟨f,t,h4,rfl⟩|⟨f,h4,rfl⟩|⟨h4,rfl⟩
  .exact h3
  rotate_left
  .obtain⟨k0,c0⟩:=hk;have h4:k0=.acc f:=h4;subst h4;exact(RC.lo0 h3.1).norm
  .obtain⟨k0,c0⟩:=hk;have h4:k0=.fr:=h4;subst h4;exact RC.lo0 h3
  .obtain⟨k0,c0⟩:=hk;have h4:c0=.nl t:=h4;subst h4
   have hi:∃lo,RC F lo w (.nl t) u:=by
    cases k0 with
    |sh=>exact⟨_,h3⟩
    |fr=>exact⟨_,h3⟩
    |acc f=>exact⟨_,h3.1⟩
    |own f=>exact h3.elim
   obtain⟨lo,hi⟩:=hi;cases hi;exact⟨.nil _,.inl ⟨t,rfl,rfl⟩⟩
 .cases h
theorem cK{e:Env}:∀ {pat:List (Nat×Tk)}{e':Env},bg e pat=some e'->∀n,ca e' n=.dead\/∃k,ze k (ca e n)=some (ca e' n)/\Vb (ca e' n)=true
 |[],e',h,n=>by simp only[bg,Option.some.injEq]at h;subst h;exact .inl rfl
 |(m,k)::r,e',h,n=>by
  simp only[bg]at h;split at h
  .rename_i a e2 ha he;split at h
   .rename_i hf;simp only[Option.some.injEq]at h;subst h;simp only[ca];cases hb:Nat.beq m n with
    |true=>
     right;rw[Nat.eq_of_beq_eq_true hb]at ha;exact⟨k,ha,hf⟩
    |false=>exact cK he n
   .cases h
  .cases h
theorem ga.cast{B:Nat}{IoB:List Nat}{F0 F:Fz}{e e':Env}{tm:Nat->Value}{w:World}{ow:Nat->Option Nat->Option Nat}(hs:ga B IoB F0 e tm w F ow)(hfl:∀n,Vb (ca e n)=true)
  {pat:List (Nat×Tk)} (h:bg e pat=some e'):ga B IoB F0 e' tm w F ow:=by
 refine hs.flat λn=>?_;rcases cK h n with h|⟨k,hc,hf⟩
 .rw[h];exact⟨rfl,trivial⟩
 .have hh:=hs.sr n;rw[Le (hfl n)]at hh;exact⟨hf,Hs hc hh⟩
def ce:Env->Bool
 |[]=>true
 |(_,a)::r=>Vb a&&ce r
theorem Rj:∀ {e:Env},ce e=true->∀n,Vb (ca e n)=true
 |[],_,_=>rfl
 |(m,a)::r,h,n=>by
  simp only[ce,Bool.and_eq_true]at h;simp only[ca];cases Nat.beq m n with
  |true=>exact h.1
  |false=>exact Rj h.2 n
def Fi(e:Env)(s:Nat):Env:=
 match ca e s with
 |.v (.own f) (.lst t xs)=>put (Ma (Tb (unview s (ca e s)) e) s .dead) s (.v (.acc f) (.lst t xs))
 |_=>e
theorem ga.freeze{B:Nat}{IoB:List Nat}{F0 F:Fz}{e:Env}{a:Act}{w:World}{ow:Nat->Option Nat->Option Nat}(hs:ga B IoB F0 e (λn=>a.tmps.getD n undef) w F ow)(hBw:B<=w.heap.size)(s:Nat) :
  ∃F' ow',ga B IoB F0 (Fi e s) (λn=>a.tmps.getD n undef) w F' ow':=by
 unfold Fi;split
 .rename_i f t xs hg;have hn:=hs.sr s;rw[hg]at hn;rcases hn with⟨t',e1,e2⟩|⟨t',hq,b,cap,cs,vs,e1,e2,e3,e4,e5,hh,e6,e7,e8,e9⟩
  .cases e1;have e2:a.tmps.getD s undef=.slice none 0 0:=e2;have h1:=hs.unviewAt s .dead (λ_ _=>trivial);rw[hg]at h1
   have h3:=h1.putG (d:=s) (av:=.v (.acc f) (.lst t [])) (v:=a.tmps.getD s undef) (owd:=λ_=>none) hBw (Pa.refl _ _) h1.live
    (λi b' h=>by simp at h) (λi b' h=>by simp at h) (λi i' b' h h'=>by simp at h)
    (λg' _ _=>by
      show ya F (lof B f) w _ _ _;simp only[if_true];exact⟨by rw[e2];exact .nil t,.inl ⟨t,rfl,e2⟩⟩)
   have hp:(λn=>if n=s then a.tmps.getD s undef else a.tmps.getD n undef)=λn=>a.tmps.getD n undef:=funext λn=>by
    by_cases h:n=s
    .rw[if_pos h,h]
    .rw[if_neg h]
   rw[hp]at h3;rw[hg];exact⟨F,_,h3⟩
  cases e1;have e2:a.tmps.getD s undef=.slice (some ⟨b,0,none⟩) xs.length cap:=e2;have hk:Mn B IoB b:=(hs.bd s none b e3).2;have h1:=hs.unviewAt s .dead (λ_ _=>trivial);rw[hg]at h1
  have hl:∀s' i,(λn=>if n=s then λ_=>none else ow n) s' i≠some b:=by
   intro s' i h;by_cases he:s'=s
   .simp[he]at h
   .simp only[he,if_false]at h;exact he (hs.inj _ _ _ _ _ h e3).1
  let F':Fz:=λb' o=>F b' o\/(b'=b/\o<xs.length*t.size);have hm:xs.length*t.size<=cs.length:=by rw[e5];exact Nat.mul_le_mul_right _ hh
  have h2:ga B IoB F0 (Ma (Tb (unview s (.v (.own f) (.lst t xs))) e) s .dead) (λn=>a.tmps.getD n undef) w F' (λn=>if n=s then λ_=>none else ow n):=by
   refine⟨λb o h=>.inl (h1.sub b o h),λb' o h=>?_,λb' o h=>?_,h1.inj,h1.bd,λn=>?_⟩
   .rcases h with h|⟨rfl,_⟩
    .exact h1.new _ _ h
    .exact .inr hk
   .rcases h with h|⟨rfl,h⟩
    .exact h1.live _ _ h
    .rw[e4.cell,List.getElem?_eq_getElem (by omega)];rfl
   .exact SR.ext (F:=F) (F':=F') (λb o h=>.inl h) (λb' o h=>h.imp_right (λh s' i=>h.1▸hl s' i)) (h1.sr n)
  have h3:=h2.putG (d:=s) (av:=.v (.acc f) (.lst t xs)) (v:=a.tmps.getD s undef) (owd:=λi=>match i with|none=>some b|some _=>none) hBw (Pa.refl _ _) h2.live
   (λi b' h=>by
     cases i with
     |none=>simp at h;subst h;exact hs.bd s none _ e3
     |some i=>simp at h)
   (λi b' h s' i' _=>by
     cases i with
     |none=>simp at h;subst h;exact hl s' i'
     |some i=>simp at h)
   (λi i' b' h h'=>by cases i<;>cases i'<;>simp at h h'⊢)
   (λg' _ _=>by
     show ya F' (lof B f) w _ _ _;simp only[if_true];rw[e2]
     refine⟨.lst t xs b 0 cap vs e6 hh (λi j hi hj=>.inr ⟨rfl,by rw[Nat.zero_add];exact Yf hi hj⟩) (λi j hi hj=>by rw[e4.cell,Nat.zero_add];exact e8 i j hi hj)
      (λi j x c hx hc=>(e9 i j x c hx hc).mono (λ_ _ h=>.inl h) (Nat.le_refl _) (λ_ _ _=>rfl)),.inr ⟨t,xs,b,cap,cs,rfl,rfl,rfl,e4,e5,λo ho h=>?_⟩⟩
     rcases h with h|h
     .exact e7 o h
     .omega)
  have hp:(λn=>if n=s then a.tmps.getD s undef else a.tmps.getD n undef)=λn=>a.tmps.getD n undef:=funext λn=>by
   by_cases h:n=s
   .rw[if_pos h,h]
   .rw[if_neg h]
  rw[hp]at h3;rw[hg];exact⟨F',_,h3⟩
 .exact⟨F,ow,hs⟩
section
variable {P:Program}{tt:TT}{N:NP}{fr:Fr}{c:Code}{e:Env}{n r:Env->Prop}{x:Nat->Env->Prop}
theorem Ht.cast{pat:List (Nat×Tk)}{e':Env}(hf:ce e=true)(h:bg e pat=some e')(hc:Ht P N fr c e' n r x):Ht P N fr c e n r x:=by
 intro a w hs;obtain⟨F,ow,hx⟩:=hs.rep;exact hc a w ⟨hs.defers,hs.tmps,hs.base,hs.f0,hs.kept,F,ow,hx.cast (Rj hf) h⟩
theorem Ht.freeze(s:Nat)(hc:Ht P N fr c (Fi e s) n r x):Ht P N fr c e n r x:=by
 intro a w hs;obtain⟨F,ow,hx⟩:=hs.rep;obtain⟨F',hi,hh⟩:=hx.freeze (Nat.le_trans hs.base hs.kept.size) s;exact hc a w ⟨hs.defers,hs.tmps,hs.base,hs.f0,hs.kept,F',hi,hh⟩
end
def Ty.i64:Ty->Bool
 |.int=>true
 |.time=>true
 |.row=>true
 |.item=>true
 |_=>false
def okC:C->Bool
 |.int _ _=>true
 |.bool _=>true
 |.str _=>true
 |.nl _=>true
 |.lst .byte _=>true
 |_=>false
def VD:K×C->Bool
 |(.acc _,.lst t _)=>t.i64
 |(.acc _,_)=>false
 |(.own _,_)=>false
 |(_,c)=>okC c
def cg{α:Type}(p:α->Bool):List α->Bool
 |[]=>true
 |x::r=>p x&&cg p r
theorem am{α:Type}{p:α->Bool}:∀ {l:List α},cg p l=true->∀ {j:Nat}{x:α},l[j]? = some x->p x=true
 |[],_,j,x,h=>by simp at h
 |y::r,ha,0,x,h=>by simp only[cg,Bool.and_eq_true]at ha;simp at h;subst h;exact ha.1
 |y::r,ha,j+1,x,h=>by simp only[cg,Bool.and_eq_true]at ha;exact am ha.2 (by simpa using h)
def Gi:AV->Bool
 |.dead=>true
 |.v (.acc _) (.lst t _)=>t.i64
 |.v (.acc _) _=>false
 |.v (.own _) (.lst t _)=>t.i64
 |.v (.own _) _=>false
 |.v _ c=>okC c
 |.agg _ cs=>cg okC cs
 |.box cs=>cg VD cs
 |_=>false
def bm(s:Nat):Env->Bool
 |[]=>true
 |(n,a)::r=>(Nat.beq n s||Gi a)&&bm s r
theorem cm{s:Nat}:∀ {e:Env},bm s e=true->∀n,n≠s->Gi (ca e n)=true
 |[],_,_,_=>rfl
 |(m,a)::r,h,n,hn=>by
  simp only[bm,Bool.and_eq_true,Bool.or_eq_true]at h;simp only[ca];cases hb:Nat.beq m n with
  |true=>
   have:=Nat.eq_of_beq_eq_true hb;subst this;rcases h.1 with h1|h1
   .exact absurd (Nat.eq_of_beq_eq_true h1) hn
   .exact h1
  |false=>exact cm h.2 n hn
theorem Is{a:AV}(h:Gi a=true):Vb a=true:=by
 cases a<;>first|rfl|(simp[Gi]at h)
theorem RC.ofInt{F:Fz}{lo:Nat}{w:World}{k:IntKind}{n:Int}{v:Value}(h:RC F lo w (.int k n) v):v=.int k n:=by cases h;rfl
theorem Js{t:Ty}(ht:t.i64=true){x:t.T}{j:Nat}{c:C}(h:(cells t x)[j]? = some c):∃n,c=.int .i64 n:=by
 cases t<;>simp[Ty.i64]at ht
 all_goals
  (match j,h with
   |0,h=>simp[cells]at h;exact⟨_,h.symm⟩
   |1,h=>first|(simp[cells]at h;done)|(simp[cells]at h;exact⟨_,h.symm⟩)
   |2,h=>first|(simp[cells]at h;done)|(simp[cells]at h;exact⟨_,h.symm⟩)
   |3,h=>first|(simp[cells]at h;done)|(simp[cells]at h;exact⟨_,h.symm⟩)
   |4,h=>first|(simp[cells]at h;done)|(simp[cells]at h;exact⟨_,h.symm⟩)
   |j+5,h=>simp[cells]at h)
theorem ga.thaw{B:Nat}{IoB:List Nat}{F0 F:Fz}{e:Env}{tm:Nat->Value}{w:World}{ow:Nat->Option Nat->Option Nat}(hs:ga B IoB F0 e tm w F ow)(hf0:∀b o,F0 b o->b<B/\b ∉ IoB){s:Nat}{f:Bool}{t:Ty}{xs:List t.T}
  (hg:ca e s=.v (.acc f) (.lst t xs)) (ht:t.i64=true) (hok:bm s e=true):∃F',ga B IoB F0 (Ma e s (.v (.own f) (.lst t xs))) tm w F' ow:=by
 have ki:=hs.sr s;rw[hg]at ki;obtain⟨jb,hd⟩:=ki
 have he:∀n,Vb (ca (Ma e s (.v (.own f) (.lst t xs))) n)=true:=λn=>by
  rw[Fa];split
  .rfl
  .rename_i hn;exact Is (cm hok n hn)
 rcases hd with⟨t0,e1,e2⟩|⟨t0,kr,b,cap,cs,e1,e2,e3,e4,e5,e6⟩
 .have e1:C.lst t xs=.lst t0 []:=e1;refine⟨F,hs.flat λn=>⟨he n,?_⟩⟩;rw[Fa];split
  .rename_i hn;rw[hn,e1];exact .inl ⟨t0,rfl,e2⟩
  .rename_i hn;have:=hs.sr n;rw[Le (Is (cm hok n hn))]at this;exact this
 .have e1:C.lst t xs=.lst t0 kr:=e1;cases e1;let F':Fz:=λb' o=>F b' o/\b'≠b;have kj:∀b' o,F' b' o->F b' o:=λ_ _ h=>h.1;rw[e2]at jb;cases jb with
  |lst _ _ _ o cap' vs hb hcap hf hc hr=>
   have hp:Mn B IoB b:=(hs.bd s none b e3).2
   have ih:∀o u,F b o->w.cell? ⟨b,o,none⟩=some u->∃n,u=.int .i64 n:=by
    intro o u hq hu
    have ho:o<xs.length*t.size:=by
     by_cases h:o<xs.length*t.size
     .exact h
     .exact absurd hq (e6 o (by omega))
    have ju:=Gj t;have hi:o / t.size<xs.length:=by rw[Nat.div_lt_iff_lt_mul ju];exact ho
    have hj:o % t.size<t.size:=Nat.mod_lt _ ju;have h1:=hc (o / t.size) (o % t.size) hi hj;rw[show 0+(o / t.size*t.size+o % t.size)=o by rw[Nat.zero_add,Nat.mul_comm];exact Nat.div_add_mod _ _]at h1;rw[h1]at hu;cases hu;have hy:(cells t xs[o / t.size])[o % t.size]? = some ((cells t xs[o / t.size])[o % t.size]'(by rw[we];exact hj)):=List.getElem?_eq_getElem _;obtain⟨n,hn⟩:=Js ht hy;have h2:=hr _ _ _ _ (List.getElem?_eq_getElem hi) hy;rw[hn]at h2;exact⟨n,h2.ofInt⟩
   have km:∀ {lo:Nat}{c:C}{v:Value},okC c=true->RC F lo w c v->RC F' lo w c v:=by
    intro lo c v hw h;cases h with
    |int k n=>exact .int k n
    |bool b=>exact .bool b
    |str s=>exact .str s
    |nl t=>exact .nl t
    |nil t=>exact .nil t
    |lst t2 ys b2 o2 cap2 kq hb2 hcap2 hf2 hc2 hr2=>
     cases t2<;>simp[okC]at hw;refine .lst .byte ys b2 o2 cap2 kq hb2 hcap2 (λi j hi hj=>⟨hf2 i j hi hj,λe=>?_⟩) hc2 (λi j x c hx hw=>?_)
     .subst e;obtain⟨n,hn⟩:=ih _ _ (hf2 i j hi hj) (hc2 i j hi hj);have io:j=0:=by have:j<1:=hj;omega
      subst io;have h3:=hr2 i 0 ys[i] (.int .u8 ys[i]) (List.getElem?_eq_getElem hi) rfl;rw[hn]at h3;cases h3.ofInt
     .have h3:=hr2 i j x c hx hw
      match j,hw with
      |0,hw=>simp[cells]at hw;subst hw;rw[h3.ofInt];exact .int _ _
      |j+1,hw=>simp[cells]at hw
   have kk:∀ {lo:Nat}{t2:Ty}{ys:List t2.T}{v:Value},t2.i64=true->(∀b2 o2 n2 cap2,v=.slice (some ⟨b2,o2,none⟩) n2 cap2->b2≠b)->RC F lo w (.lst t2 ys) v->RC F' lo w (.lst t2 ys) v:=by
    intro lo t2 ys v hm ix h;cases h with
    |nil=>exact .nil _
    |lst _ _ b2 o2 cap2 kq hb2 hcap2 hf2 hc2 hr2=>
     refine .lst t2 ys b2 o2 cap2 kq hb2 hcap2 (λi j hi hj=>⟨hf2 i j hi hj,ix _ _ _ _ rfl⟩) hc2 (λi j x c hx hw=>?_);have h3:=hr2 i j x c hx hw;obtain⟨n,rfl⟩:=Js hm hw;rw[h3.ofInt];exact .int _ _
   have hh:∀ {lo:Nat}{ob:Option Nat}{t2:Ty}{ys:List t2.T}{v:Value},t2.i64=true->ob≠some b->ya F lo w ob (.lst t2 ys) v->ya F' lo w ob (.lst t2 ys) v:=by
    rintro lo ob t2 ys v hm ie ⟨h1,h2⟩;rcases h2 with⟨t3,q1,q2⟩|⟨t3,zs,b2,cap2,hl,q1,q2,q3,q4,q5,q6⟩
    .have kn:C.lst t2 ys=.lst t3 []:=q1;cases kn;exact⟨by rw[q2];exact .nil _,.inl ⟨t2,rfl,q2⟩⟩
    .have ix:b2≠b:=λe=>ie (e▸q3);exact⟨kk hm (λb3 o3 n3 c3 h=>by rw[q2]at h;cases h;exact ix) h1,.inr ⟨t3,zs,b2,cap2,hl,q1,q2,q3,q4,q5,λo ho hF=>q6 o ho hF.1⟩⟩
   refine⟨F',?_⟩
   have it:ga B IoB F0 (Ma e s .dead) tm w F' ow:=by
    refine⟨λb' o h=>⟨hs.sub _ _ h,λe=>by subst e;exact hp.elim (λhB=>by have:=(hf0 _ _ h).1;omega) (hf0 _ _ h).2⟩,λb' o h=>hs.new _ _ h.1,λb' o h=>hs.live _ _ h.1,hs.inj,hs.bd,λn=>?_⟩;rw[Fa];split
    .trivial
    .rename_i hn;have ha:=cm hok n hn;have h:=hs.sr n;have hz:=Is ha;rw[Le hz]at h⊢;have ie:∀i,ow n i≠some b:=λi h=>hn (hs.inj _ _ _ _ _ h e3).1;cases hav:ca e n with
     |dead=>trivial
     |v k c=>
      rw[hav]at h ha;cases k with
      |sh=>exact km ha h
      |fr=>exact km ha h
      |acc f2=>
       cases c with
       |lst t2 ys=>exact hh ha (ie none) h
       |_=>simp[Gi]at ha
      |own f2=>
       cases c with
       |lst t2 ys=>
        rcases h with h|⟨t3,zs,b2,cap2,hl,kq,q1,q2,q3,q4,q5,kp,q6,q7,q8,q9⟩
        .exact .inl h
        .refine .inr ⟨t3,zs,b2,cap2,hl,kq,q1,q2,q3,q4,q5,kp,q6,λo hF=>q7 o hF.1,q8,λi j x c hx hw=>?_⟩;cases q1;have h3:=q9 i j x c hx hw;obtain⟨m,rfl⟩:=Js ha hw;rw[h3.ofInt];exact .int _ _
       |_=>simp[Gi]at ha
     |agg f2 hl=>
      rw[hav]at h ha;obtain⟨us,q1,q2⟩:=h;refine⟨us,q1,RCs.mk q2.length (λj c v hc hv=>?_)⟩;obtain⟨v2,q3,q4⟩:=q2.get hc;rw[hv]at q3;cases q3;exact km (am ha hc) q4
     |box hl=>
      rw[hav]at h ha;obtain⟨b2,us,q1,q2,q3,q4,q5,q6⟩:=h;refine⟨b2,us,q1,q2,q3,λo hF=>q4 o hF.1,q5,λj kc u hk hu=>?_⟩;have h3:=q6 j kc u hk hu;have h4:=am ha hk;obtain⟨k,c⟩:=kc;cases k with
      |sh=>exact km h4 h3
      |fr=>exact km h4 h3
      |acc f2=>
       cases c with
       |lst t2 ys=>exact hh h4 (ie (some j)) h3
       |_=>simp[VD]at h4
      |own f2=>simp[VD]at h4
     |_=>rw[hav]at ha;simp[Gi]at ha
   refine⟨it.sub,it.new,it.live,it.inj,it.bd,λn=>?_⟩;by_cases hn:n=s
   .rw[hn,Fa,if_pos rfl];refine .inr ⟨t,xs,b,cap,cs,vs,rfl,e2,e3,e4,e5,hcap,hb,λo h=>h.2 rfl,λi j hi hj=>?_,λi j x c hx hw=>?_⟩
    .have h1:=hc i j hi hj;rw[Nat.zero_add,e4.cell]at h1;exact h1
    .have h3:=hr i j x c hx hw;obtain⟨m,rfl⟩:=Js ht hw;rw[h3.ofInt];exact .int _ _
   .rw[Fa,if_neg hn];have h:=it.sr n;rw[Fa,if_neg hn]at h;have hz:=Is (cm hok n hn);rw[Le hz]at h⊢;exact h
def dm(e:Env)(s:Nat):Option Env:=
 match ca e s with
 |.v (.acc f) (.lst t xs)=>match t.i64&&bm s e with
  |true=>some (Ma e s (.v (.own f) (.lst t xs)))
  |false=>none
 |_=>none
section
variable {P:Program}{N:NP}{fr:Fr}{c:Code}{e:Env}{n r:Env->Prop}{x:Nat->Env->Prop}
theorem Ht.thaw(s:Nat){e':Env}(h:dm e s=some e')(hc:Ht P N fr c e' n r x):Ht P N fr c e n r x:=by
 intro a w hs;unfold dm at h;split at h
 .rename_i f t xs hg;split at h
  .rename_i hb;simp only[Bool.and_eq_true]at hb;simp only[Option.some.injEq]at h;subst h;obtain⟨F,ow,hx⟩:=hs.rep;obtain⟨F',hh⟩:=hx.thaw hs.f0 hg hb.1 hb.2;exact hc a w ⟨hs.defers,hs.tmps,hs.base,hs.f0,hs.kept,F',ow,hh⟩
  .cases h
 .cases h
end
def Wb:(ps:List PT)->ib ps->Nat->Env
 |[],_,_=>[]
 |.int k::ps,x,i=>(i,.v .fr (.int k x.1))::Wb ps x.2 (i+1)
 |.bool::ps,x,i=>(i,.v .fr (.bool x.1))::Wb ps x.2 (i+1)
 |.str::ps,x,i=>(i,.v .fr (.str x.1))::Wb ps x.2 (i+1)
 |.lst t::ps,x,i=>(i,.v .sh (.lst t x.1))::Wb ps x.2 (i+1)
 |.st t::ps,x,i=>(i,.agg (upF false (cells t x.1)) (cells t x.1))::Wb ps x.2 (i+1)
 |.rdr::ps,x,i=>(i,.box [(.sh,.lst .byte x.1.1),(.fr,.int .i64 x.1.2)])::Wb ps x.2 (i+1)
def Ya:List PT->Nat->Option Nat
 |[],_=>none
 |.rdr::_,i=>some i
 |.int _::ps,i=>Ya ps (i+1)
 |.bool::ps,i=>Ya ps (i+1)
 |.str::ps,i=>Ya ps (i+1)
 |.lst _::ps,i=>Ya ps (i+1)
 |.st _::ps,i=>Ya ps (i+1)
def Af(o:Option Nat)(io:Option Nat)(n:Nat):Option Nat->Option Nat
 |none=>match o with
  |some s=>match Nat.beq s n with
   |true=>io
   |false=>none
  |none=>none
 |some _=>none
theorem wh{F:Fz}{w:World}:∀ {ps:List PT}{x:ib ps}{vs:List Value}{io:Option Nat} (i:Nat),ye F w ps x vs io ->
  vs.length=ps.length/\(∀b,io=some b->∃s,Ya ps i=some s/\i<=s/\s<i+vs.length/\vs[s - i]? = some (.pointer (some ⟨b,0,none⟩))/\b<w.heap.size)/\(io=none->Ya ps i=none) /\
  ∀ n,ca (Wb ps x i) n=.dead\/(i<=n/\Vb (ca (Wb ps x i) n)=true/\∃v,vs[n - i]? = some v /\
    VR F w.heap.size w (Af (Ya ps i) io n) (ca (Wb ps x i) n) v)
 |[],x,vs,io,i,h=>by
  obtain⟨rfl,rfl⟩:=h;exact⟨rfl,λb hb=>by simp at hb,λ_=>rfl,λn=>.inl rfl⟩
 |.rdr::ps,x,vs,io,i,h=>by
  obtain⟨b,sl,hl,rfl,rfl,hb,hr,hf,ht⟩:=h;obtain⟨t1,t2,t3,t4⟩:=wh (i+1) ht;refine⟨by simp[t1],λb' hb'=>?_,λh=>by simp at h,λn=>?_⟩
  .simp only[Option.some.injEq]at hb';subst hb';exact⟨i,rfl,Nat.le_refl _,by simp,by simp,hb.lt⟩
  .simp only[Wb,ca];cases hn:Nat.beq i n with
   |true=>
    have hh:=Nat.eq_of_beq_eq_true hn;subst hh;refine .inr ⟨Nat.le_refl _,rfl,.pointer (some ⟨b,0,none⟩),by simp,b,[sl,.int .i64 x.1.2],rfl,by simp[Ya,Af,Nat.beq_refl],hb,hf,rfl,λj kc u hk hu=>?_⟩
    match j,hk,hu with
    |0,hk,hu=>simp at hk hu;subst hk;subst hu;exact hr
    |1,hk,hu=>simp at hk hu;subst hk;subst hu;exact RC.int _ _
    |j+2,hk,hu=>simp at hk
   |false=>
    simp only[];have hi:i≠n:=λe=>by rw[e,Nat.beq_refl]at hn;cases hn
    rcases t4 n with h|⟨h1,h2,v,h3,h4⟩
    .exact .inl h
    .refine .inr ⟨by omega,h2,v,by rw[show n - i=(n - (i+1))+1 by omega];simpa using h3,?_⟩;have hj:Ya ps (i+1)=none:=t3 rfl
     have h5:Af (Ya ps (i+1)) none n=Af (some i) (some b) n:=funext λj=>by
      rw[hj];cases j<;>simp[Af,hn]
     rw[h5]at h4;exact h4
 |.int k::ps,x,vs,io,i,h=>by
  obtain⟨v,hl,rfl,hv,ht⟩:=h;exact step1 i (av:=.v .fr (.int k x.1)) rfl (λo=>by have h:RC F 0 w (.int k x.1) v:=hv;cases h;exact RC.int _ _) (wh (i+1) ht) rfl rfl
 |.bool::ps,x,vs,io,i,h=>by
  obtain⟨v,hl,rfl,hv,ht⟩:=h;exact step1 i (av:=.v .fr (.bool x.1)) rfl (λo=>by have h:RC F 0 w (.bool x.1) v:=hv;cases h;exact RC.bool _) (wh (i+1) ht) rfl rfl
 |.str::ps,x,vs,io,i,h=>by
  obtain⟨v,hl,rfl,hv,ht⟩:=h;exact step1 i (av:=.v .fr (.str x.1)) rfl (λo=>by have h:RC F 0 w (.str x.1) v:=hv;cases h;exact RC.str _) (wh (i+1) ht) rfl rfl
 |.lst t::ps,x,vs,io,i,h=>by
  obtain⟨v,hl,rfl,hv,ht⟩:=h;exact step1 i (av:=.v .sh (.lst t x.1)) rfl (λo=>(hv:RC F 0 w (.lst t x.1) v)) (wh (i+1) ht) rfl rfl
 |.st t::ps,x,vs,io,i,h=>by
  obtain⟨v,hl,rfl,hv,ht⟩:=h;exact step1 i (av:=.agg (upF false (cells t x.1)) (cells t x.1)) rfl (λo=>by obtain⟨us,h1,h2⟩:=hv;exact⟨us,h1,RCs.up (f:=false) h2⟩) (wh (i+1) ht) rfl rfl
where
 step1 {F:Fz}{w:World}{p:PT}{ps:List PT}{x:ib (p::ps)}{v:Value}{vs:List Value}{io:Option Nat} (i:Nat) {av:AV} (hfl:Vb av=true) (hv:∀o,VR F w.heap.size w o av v)
   (t:vs.length=ps.length/\(∀b,io=some b->∃s,Ya ps (i+1)=some s/\i+1<=s/\s<i+1+vs.length/\vs[s - (i+1)]? = some (.pointer (some ⟨b,0,none⟩))/\b<w.heap.size)/\(io=none->Ya ps (i+1)=none) /\
     ∀ n,ca (Wb ps x.2 (i+1)) n=.dead\/(i+1<=n/\Vb (ca (Wb ps x.2 (i+1)) n)=true/\∃v,vs[n - (i+1)]? = some v /\
       VR F w.heap.size w (Af (Ya ps (i+1)) io n) (ca (Wb ps x.2 (i+1)) n) v))
   (he:Wb (p::ps) x i=(i,av)::Wb ps x.2 (i+1)) (hr:Ya (p::ps) i=Ya ps (i+1)) :
   (v::vs).length=(p::ps).length/\(∀b,io=some b->∃s,Ya (p::ps) i=some s/\i<=s/\s<i+(v::vs).length/\(v::vs)[s - i]? = some (.pointer (some ⟨b,0,none⟩))/\b<w.heap.size)/\(io=none->Ya (p::ps) i=none) /\
     ∀ n,ca (Wb (p::ps) x i) n=.dead\/(i<=n/\Vb (ca (Wb (p::ps) x i) n)=true/\∃u,(v::vs)[n - i]? = some u /\
       VR F w.heap.size w (Af (Ya (p::ps) i) io n) (ca (Wb (p::ps) x i) n) u):=by
  obtain⟨t1,t2,t3,t4⟩:=t;refine⟨by simp[t1],λb hb=>?_,λh=>hr.trans (t3 h),λn=>?_⟩
  .obtain⟨s,s1,s2,s3,s4,s5⟩:=t2 b hb;exact⟨s,hr.trans s1,by omega,by simp only[List.length_cons];omega,by rw[show s - i=(s - (i+1))+1 by omega];simpa using s4,s5⟩
  .rw[he,hr];simp only[ca];cases hn:Nat.beq i n with
   |true=>
    have hh:=Nat.eq_of_beq_eq_true hn;subst hh;exact .inr ⟨Nat.le_refl _,hfl,v,by simp,hv _⟩
   |false=>
    have hi:i≠n:=λe=>by rw[e,Nat.beq_refl]at hn;cases hn
    rcases t4 n with h|⟨h1,h2,u,h3,h4⟩
    .exact .inl h
    .exact .inr ⟨by omega,h2,u,by rw[show n - i=(n - (i+1))+1 by omega];simpa using h3,h4⟩
def Xe(tt:TT)(e:Env):ResultVar->AV
 |.tmp t=>ca e t
 |.cell a ty=>match lk tt ty,ca e a with
  |some d,.box cs=>match isAgg d with
   |false=>match cs with
    |[(k,c)]=>.v k c
    |_=>.dead
   |true=>match qd cs,Nat.beq cs.length d.size with
    |some (f,l),true=>.agg f l
    |_,_=>.dead
  |_,_=>.dead
def de:K->AV->Option AV
 |.sh,a=>ze .sh a
 |.fr,a=>ze .fr a
 |.acc f,a=>ze (.acc f) a
 |.own f,.v (.own f') c=>match leB f f' with
  |true=>some (.v (.own f) c)
  |false=>none
 |_,_=>none
def Ks(f:Bool)(a:AV):Option PV:=
 match de (frK f) a with
 |some (.v _ c)=>some ⟨f,false,[c]⟩
 |some (.agg _ cs)=>some ⟨f,true,cs⟩
 |_=>none
def dK:AV->Option AV
 |.box [(k,.lst .byte b),(_,.int .i64 p)]=>match k with
  |.own _=>none
  |_=>some (.box [(.sh,.lst .byte b),(.fr,.int .i64 p)])
 |_=>none
def Ii(tt:TT)(e:Env):List ResultVar->List (Bool×PT)->Option (List PV)
 |[],[]=>some []
 |v::vs,(f,_)::ps=>match Ks f (Xe tt e v),Ii tt e vs ps with
  |some p,some l=>some (p::l)
  |_,_=>none
 |_,_=>none
def xh(tt:TT)(e:Env)(vs:List ResultVar):RT->Option AV
 |.one k _=>match vs with
  |[v]=>de k (Xe tt e v)
  |_=>none
 |.rdr=>match vs with
  |[v]=>dK (Xe tt e v)
  |_=>none
 |.tup l=>match vs with
  |[_]=>none
  |vs=>match Ii tt e vs l with
   |some ps=>some (.tup ps)
   |none=>none
def Bf(tmps:Array Value):ResultVar->Sem Value
 |.tmp t=>pure (tmps.getD t undef)
 |.cell a t=>do loadVar t (<-asAddr (tmps.getD a undef))
theorem VU(fn:Func)(tmps:Array Value):results fn tmps=(do let vs <-fn.results.mapM (Bf tmps);pure (if h:vs.size=1 then vs[0] else .tuple vs)):=by
 have h:(λv:ResultVar=>match v with|.tmp t=>(pure (tmps.getD t undef):Sem Value)|.cell a t=>do loadVar t (<-asAddr (tmps.getD a undef)))=Bf tmps:=by
  funext v
  cases v<;>rfl
 unfold results;rw[<-h];rfl
theorem mapM_ok{P:Program}{w:World}{tmps:Array Value}:∀ {rs:List ResultVar}{vs:List Value},rs.length=vs.length->(∀(j:Nat) (rv:ResultVar) (v:Value),rs[j]? = some rv->vs[j]? = some v->(Bf tmps rv).run P w=.ok v w) ->
  (rs.mapM (Bf tmps)).run P w=.ok vs w
 |[],[],_,_=>rfl
 |rv::rs,v::vs,hl,h=>by
  have h0:=h 0 rv v rfl rfl;have ih:=mapM_ok (rs:=rs) (vs:=vs) (by simpa using hl) (λj rv v hr hv=>h (j+1) rv v (by simpa using hr) (by simpa using hv));simp[List.mapM_cons,h0,ih]
def XD:List Value->Value
 |[v]=>v
 |vs=>.tuple vs.toArray
theorem Ls{P:Program}{w:World}{fn:Func}{tmps:Array Value}{rs:List ResultVar}(hr:fn.results=rs.toArray){vs:List Value}(hl:rs.length=vs.length)
  (h:∀(j:Nat) (rv:ResultVar) (v:Value),rs[j]? = some rv->vs[j]? = some v->(Bf tmps rv).run P w=.ok v w):(results fn tmps).run P w=.ok (XD vs) w:=by
 rw[VU,hr];have hm:=mapM_ok hl h
 have hh:(rs.toArray.mapM (Bf tmps)).run P w=.ok vs.toArray w:=by
  rw[List.mapM_toArray];simp[hm]
 simp only[Sem.run_bind,hh,Result.andThen_ok,Sem.run_pure]
 match vs with
 |[]=>rfl
 |[v]=>rfl
 |v::u::vs=>simp[XD]
section
variable {P:Program}{tt:TT}{B:Nat}{IoB:List Nat}{F0 F:Fz}{e:Env}{w:World}{ow:Nat->Option Nat->Option Nat}{a:Act}
theorem YD{o:Option Nat->Option Nat}{k:K}{av av':AV}{v:Value}(h:de k av=some av')(hv:VR F B w o av v):VR F B w o av' v:=by
 cases k with
 |sh=>exact Hs h hv
 |fr=>exact Hs h hv
 |acc f=>exact Hs h hv
 |own f=>
  cases av with
  |v k' c=>
   cases k' with
   |own f'=>
    simp only[de]at h;split at h
    .rename_i hf;cases h;rcases hv with h|⟨t,xs,b,cap,cs,vs,e1,e2,e3,e4,e5,hh,e6,e7,e8,e9⟩
     .exact .inl h
     exact .inr ⟨t,xs,b,cap,cs,vs,e1,e2,e3,e4,e5,hh,Nat.le_trans (by cases f<;>cases f'<;>simp[lof,leB]at hf⊢) e6,e7,e8,λi j x c hx hc=>RC.lower (e9 i j x c hx hc) hf⟩
    .cases h
   |_=>simp[de]at h
  |_=>simp[de]at h
theorem fK(htt:Ub P tt)(hx:ga B IoB F0 e (λn=>a.tmps.getD n undef) w F ow)(hown:∀s i b,ow s i=some b->b∈IoB->i=none/\a.tmps.getD s undef=.pointer (some ⟨b,0,none⟩)){rv:ResultVar}(hd:Vb (Xe tt e rv)=true)(hnd:Ja (Xe tt e rv)=false) :
  ∃v o,(Bf a.tmps rv).run P w=.ok v w/\VR F B w o (Xe tt e rv) v/\(∀i b,o i=some b->b<w.heap.size/\(B<=b\/(b∈IoB/\i=none/\v=.pointer (some ⟨b,0,none⟩))))/\(∀i i' b,o i=some b->o i'=some b->i=i'):=by
 have hh:∀s i b,ow s i=some b->b<w.heap.size/\(B<=b\/(b∈IoB/\i=none/\a.tmps.getD s undef=.pointer (some ⟨b,0,none⟩))):=λs i b h=>⟨(hx.bd s i b h).1,(hx.bd s i b h).2.imp_right λhm=>⟨hm,hown s i b h hm⟩⟩;cases rv with
 |tmp t=>
  have hq:=hx.sr t;have ho:Vb (ca e t)=true:=hd;rw[Le ho]at hq;exact⟨a.tmps.getD t undef,ow t,rfl,hq,λi b h=>hh _ _ _ h,λi i' b h h'=>(hx.inj _ _ _ _ _ h h').2⟩
 |cell ad ty=>
  simp only[Xe]at hd hnd⊢;cases hlk:lk tt ty with
  |none=>rw[hlk]at hnd;simp[Ja]at hnd
  |some d=>
   have hn:=htt.td _ _ hlk;rw[hlk]at hd hnd;cases hg:ca e ad with
   |box cs=>
    rw[hg]at hd hnd;simp only[]at hd hnd⊢;obtain⟨b,vs,q1,q2,q3,q4,q5,q6⟩:=hx.box hg;have q1:a.tmps.getD ad undef=.pointer (some ⟨b,0,none⟩):=q1
    have hp:∀ {v:Value},(loadVar ty ⟨b,0,none⟩).run P w=.ok v w->(Bf a.tmps (.cell ad ty)).run P w=.ok v w:=by
     intro v h;simp only[Bf,q1,asAddr,Sem.run_bind,Sem.run_pure,Result.andThen_ok,h]
    cases hag:isAgg d with
    |false=>
     rw[hag]at hd hnd
     match cs,q5,q6 with
     |[(k,c)],q5,q6=>
      match vs,q5 with
      |[u],_=>
       have hi:=q6 0 (k,c) u rfl rfl;have hj:w.cell? ⟨b,0,none⟩=some u:=by rw[q3.cell];rfl
       refine⟨u,λi=>match i with|none=>ow ad (some 0)|some _=>none,hp ?_,?_,λi b' h=>?_,λi i' b' h h'=>?_⟩
       .have hl:=Sl hn hag (w:=w) hj;simpa [Instr.loadAt,Instr.sureAddr] using hl
       .cases k with
        |sh=>exact hi
        |fr=>exact hi
        |acc f=>exact hi
        |own f=>exact hi.elim
       .cases i with
        |none=>have:=hh _ _ _ h;exact⟨this.1,this.2.imp_right (λh=>by cases h.2.1)⟩
        |some i=>cases h
       .cases i<;>cases i'<;>simp at h h'⊢
     |[],q5,q6=>simp[Ja]at hnd
     |_::_::_,q5,q6=>simp[Ja]at hnd
    |true=>
     rw[hag]at hd hnd;simp only[]at hd hnd⊢;cases hbr:qd cs with
     |none=>rw[hbr]at hnd;simp[Ja]at hnd
     |some q=>
      obtain⟨f,l⟩:=q;cases hsz:Nat.beq cs.length d.size with
      |false=>rw[hbr,hsz]at hnd;simp[Ja]at hnd
      |true=>
       rw[hbr,hsz]at hd hnd;simp only[]at hd hnd⊢;have hl:=zi hn hag (w:=w) (b:=b) (o:=0) (us:=vs) (q5.trans (Nat.eq_of_beq_eq_true hsz)) (λj u hu=>by rw[Nat.zero_add,q3.cell];exact hu);refine⟨.agg vs.toArray,λ_=>none,hp ?_,⟨vs,rfl,?_⟩,λi b' h=>by simp at h,λi i' b' h h'=>by simp at h⟩
       .simpa [Instr.loadAt,Instr.sureAddr] using hl
       .exact iD (ow:=λi=>match i with|some p=>ow ad (some p)|none=>none) (p:=0) q5.symm (λj kc u hk hu=>by simpa using q6 j kc u hk hu) hbr
   |_=>rw[hg]at hnd;simp[Ja]at hnd
theorem WU{o:Option Nat->Option Nat}{f:Bool}{av:AV}{p:PV}{v:Value}(h:Ks f av=some p)(hv:VR F B w o av v):PVR F B w p v:=by
 unfold Ks at h;split at h
 .rename_i k c hk;have h1:=YD hk hv;simp only[Option.some.injEq]at h;subst h
  have hh:k=frK f:=by
   cases f<;>cases av with
   |v k' c'=>cases k'<;>simp[de,frK,ze]at hk<;>(try split at hk)<;>simp_all [frK]
   |_=>simp[de,frK,ze]at hk<;>(try split at hk)<;>simp_all
  subst hh;cases f<;>exact h1
 .rename_i f' cs hk;have h1:=YD hk hv;simp only[Option.some.injEq]at h;subst h
  have hh:f'=f:=by
   cases f<;>cases av with
   |agg f2 c'=>cases f2<;>simp[de,frK,ze]at hk<;>simp_all
   |v k' c'=>cases k'<;>simp[de,frK,ze]at hk<;>(try split at hk)<;>simp_all
   |_=>simp[de,frK,ze]at hk
  subst hh;exact h1
 .cases h
theorem ZD{k:K}{b av:AV}(h:de k b=some av):Vb b=true/\Ja b=false:=by
 cases b with
 |v k c=>exact⟨rfl,rfl⟩
 |agg f c=>exact⟨rfl,rfl⟩
 |_=>cases k<;>simp[de,ze]at h
theorem gK(htt:Ub P tt)(hx:ga B IoB F0 e (λn=>a.tmps.getD n undef) w F ow)(hown:∀s i b,ow s i=some b->b∈IoB->i=none/\a.tmps.getD s undef=.pointer (some ⟨b,0,none⟩)):∀ {rs:List ResultVar}{l:List (Bool×PT)}{ps:List PV},Ii tt e rs l=some ps ->
  ∃vs:List Value,rs.length=vs.length/\(∀(j:Nat) (rv:ResultVar) (v:Value),rs[j]? = some rv->vs[j]? = some v->(Bf a.tmps rv).run P w=.ok v w)/\ud F B w ps vs
 |[],[],ps,h=>by simp only[Ii,Option.some.injEq]at h;subst h;exact⟨[],rfl,λj rv v h=>by simp at h,.nil⟩
 |[],_::_,ps,h=>by simp[Ii]at h
 |_::_,[],ps,h=>by simp[Ii]at h
 |rv::rs,(f,pt)::l,ps,h=>by
  simp only[Ii]at h;split at h
  .rename_i p ps' hp hps;simp only[Option.some.injEq]at h;subst h
   have hlv:Vb (Xe tt e rv)=true/\Ja (Xe tt e rv)=false:=by
    unfold Ks at hp;split at hp
    .rename_i hk;exact ZD hk
    .rename_i hk;exact ZD hk
    .cases hp
   obtain⟨v,o,h1,h2,_,_⟩:=fK htt hx hown hlv.1 hlv.2;obtain⟨vs,g1,g2,g3⟩:=gK htt hx hown hps;refine⟨v::vs,by simp[g1],λj rv' v' hr hv=>?_,.cons (WU hp h2) g3⟩;cases j with
   |zero=>simp at hr hv;subst hr;subst hv;exact h1
   |succ j=>exact g2 j rv' v' (by simpa using hr) (by simpa using hv)
  .cases h
def Ji:RT->Bool
 |.rdr=>true
 |_=>false
theorem XU{o:Option Nat->Option Nat}{k:K}{c:C}{v:Value}(h:VR F B w o (.v k c) v)(p:Option Addr):v≠.pointer p:=by
 have rc:∀ {lo:Nat}{c:C},RC F lo w c v->v≠.pointer p:=λh=>by cases h<;>simp
 cases k with
 |sh=>exact rc h
 |fr=>exact rc h
 |acc f=>exact rc h.1
 |own f=>rcases h with⟨t,e1,e2⟩|⟨t,xs,b,cap,cs,vs,e1,e2,_⟩<;>(rw[e2];simp)
theorem YU{o:Option Nat->Option Nat}{k:K}{av av':AV}{v:Value}(h:de k av=some av')(hv:VR F B w o av v)(p:Option Addr):v≠.pointer p:=by
 cases av with
 |v k c=>exact XU hv p
 |agg f c=>obtain⟨vs,rfl,_⟩:=hv;simp
 |_=>cases k<;>simp[de,ze]at h
theorem ZU(htt:Ub P tt)(hx:ga B IoB F0 e (λn=>a.tmps.getD n undef) w F ow)(hown:∀s i b,ow s i=some b->b∈IoB->i=none/\a.tmps.getD s undef=.pointer (some ⟨b,0,none⟩)){fn:Func}{rs:List ResultVar}(hrs:fn.results=rs.toArray){rt:RT}(hio:Ji rt=true->IoB=[]){x:rt.T}(h:xh tt e rs rt=some (rt.av x)) :
  ∃v o,(results fn a.tmps).run P w=.ok v w/\VR F B w o (rt.av x) v/\(∀i b,o i=some b->B<=b/\b<w.heap.size)/\(∀i i' b,o i=some b->o i'=some b->i=i'):=by
 have hh:∀ {rv:ResultVar},rs=[rv]->Vb (Xe tt e rv)=true->Ja (Xe tt e rv)=false->∃v o,(results fn a.tmps).run P w=.ok v w/\VR F B w o (Xe tt e rv) v/\(∀i b,o i=some b->b<w.heap.size/\(B<=b\/(b∈IoB/\i=none/\v=.pointer (some ⟨b,0,none⟩))))/\(∀i i' b,o i=some b->o i'=some b->i=i'):=by
  intro rv hl hf hd;subst hl;obtain⟨v,o,h1,h2,h3,h4⟩:=fK htt hx hown hf hd
  have hj:=Ls (P:=P) (w:=w) (tmps:=a.tmps) hrs (vs:=[v]) rfl (λj rv' v' hr hv=>by
   cases j with
   |zero=>simp at hr hv;subst hr;subst hv;exact h1
   |succ j=>simp at hr)
  exact⟨v,o,hj,h2,h3,h4⟩
 cases rt with
 |one k p=>
  simp only[xh]at h;split at h
  .rename_i rv;obtain⟨l1,l2⟩:=ZD h;obtain⟨v,o,h1,h2,h3,h4⟩:=hh rfl l1 l2;exact⟨v,o,h1,YD h h2,λi b hb=>⟨(h3 i b hb).2.elim id (λhp=>absurd hp.2.2 (YU h h2 _)),(h3 i b hb).1⟩,h4⟩
  .cases h
 |rdr=>
  simp only[xh]at h;split at h
  .rename_i rv;unfold dK at h;split at h
   .rename_i k b k2 p hr;obtain⟨v,o,h1,h2,h3,h4⟩:=hh rfl (by rw[hr];rfl) (by rw[hr];rfl);rw[hr]at h2;obtain⟨b',vs,e1,e2,e3,e4,e5,e6⟩:=h2;refine⟨v,o,h1,?_,λi b hb=>⟨(h3 i b hb).2.elim id (λhp=>absurd hp.1 (by rw[hio rfl];simp)),(h3 i b hb).1⟩,h4⟩;split at h
    .cases h
    .simp only[Option.some.injEq]at h;rw[<-h];refine⟨b',vs,e1,e2,e3,e4,e5,λj kc u hk hu=>?_⟩
     match j,hk,hu with
     |0,hk,hu=>
      simp only[List.getElem?_cons_zero,Option.some.injEq]at hk;subst hk;have:=e6 0 _ u rfl hu;cases k with
      |sh=>exact this
      |fr=>exact RC.lo0 this
      |acc f=>exact RC.lo0 this.1
      |own f=>exact this.elim
     |1,hk,hu=>
      simp only[List.getElem?_cons_succ,List.getElem?_cons_zero,Option.some.injEq]at hk;subst hk;have:=e6 1 _ u rfl hu
      have hi:∃lo,RC F lo w (.int .i64 p) u:=by
       cases k2 with
       |sh=>exact⟨_,this⟩
       |fr=>exact⟨_,this⟩
       |acc f=>exact⟨_,this.1⟩
       |own f=>exact this.elim
      obtain⟨lo,hi⟩:=hi;cases hi;exact RC.int _ _
     |j+2,hk,hu=>simp at hk
   .cases h
  .cases h
 |tup l=>
  simp only[xh]at h;split at h
  .cases h
  .rename_i hne;split at h
   .rename_i ps hps;simp only[Option.some.injEq]at h;obtain⟨vs,g1,g2,g3⟩:=gK htt hx hown hps;have hj:=Ls (P:=P) (w:=w) (tmps:=a.tmps) hrs g1 g2
    have hm:XD vs=.tuple vs.toArray:=by
     match vs,g1 with
     |[],_=>rfl
     |[v],g1=>
      match rs,g1 with
      |[r],_=>exact absurd rfl (hne r)
     |_::_::_,_=>rfl
    rw[hm]at hj;refine⟨_,λ_=>none,hj,?_,λi b h=>by simp at h,λi i' b h h'=>by simp at h⟩;rw[<-h];exact⟨vs,rfl,g3⟩
   .cases h
end
def Ki(pts:List PT)(x:ib pts)(p:Int)(e:Env):Prop:=
 match Ya pts 0,rdB pts x with
 |some k,some bs=>ca e k=.box [(.sh,.lst .byte bs),(.fr,.int .i64 p)]
 |_,_=>True
theorem Li:∀ {ps:List PT}{i s:Nat},Ya ps i=some s->∀x:ib ps,∃bs,rdB ps x=some bs
 |[],_,_,h,_=>by cases h
 |.rdr::_,_,_,_,x=>⟨x.1.1,rfl⟩
 |.int _::_,_,_,h,x=>Li (show Ya _ (_+1)=some _ from h) x.2
 |.bool::_,_,_,h,x=>Li (show Ya _ (_+1)=some _ from h) x.2
 |.str::_,_,_,h,x=>Li (show Ya _ (_+1)=some _ from h) x.2
 |.lst _::_,_,_,h,x=>Li (show Ya _ (_+1)=some _ from h) x.2
 |.st _::_,_,_,h,x=>Li (show Ya _ (_+1)=some _ from h) x.2
def em(tt:TT)(rs:List ResultVar)(s:Spec)(x:ib s.pts)(e:Env):Prop:=xh tt e rs s.rt=some (s.rt.av (s.val x).1)/\Ki s.pts x (s.val x).2 e
theorem Sj{F:Fz}{w:World}:∀ {ps:List PT}{x:ib ps}{vs:List Value}{io:Option Nat},ye F w ps x vs io->∀b,io=some b->∀o,¬ F b o
 |[],_,_,_,h,b,hb,_=>by rw[h.2]at hb;cases hb
 |.rdr::_,_,_,_,h,b,hb,o=>by obtain⟨b',_,_,_,e,_,_,hf,_⟩:=h;rw[e]at hb;cases hb;exact hf o
 |.int _::_,_,_,_,h,b,hb,o=>by obtain⟨_,_,_,_,h⟩:=h;exact Sj h b hb o
 |.bool::_,_,_,_,h,b,hb,o=>by obtain⟨_,_,_,_,h⟩:=h;exact Sj h b hb o
 |.str::_,_,_,_,h,b,hb,o=>by obtain⟨_,_,_,_,h⟩:=h;exact Sj h b hb o
 |.lst _::_,_,_,_,h,b,hb,o=>by obtain⟨_,_,_,_,h⟩:=h;exact Sj h b hb o
 |.st _::_,_,_,_,h,b,hb,o=>by obtain⟨_,_,_,_,h⟩:=h;exact Sj h b hb o
theorem iK{pts:List PT}{x:ib pts}{F:Fz}{w:World}{vs:List Value}{io:Option Nat}{nt:Nat}(ks:List Nat)(hl:Live F w)(hargs:ye F w pts x vs io)(hvl:vs.length<=nt) :
  Sim ⟨nt,Ya pts 0,ks.map λn=>(n,vs.getD n undef)⟩ w.heap.size io.toList w F (Wb pts x 0) { tmps:=vs.toArray++Array.replicate (nt - vs.toArray.size) undef,defers:=[] } w:=by
 obtain⟨t1,t2,t3,t4⟩:=wh 0 hargs
 have hi:∀n,((vs.toArray++Array.replicate (nt - vs.toArray.size) undef).getD n undef)=vs.getD n undef:=by
  intro n;rw[Array.getD_eq_getD_getElem?,List.getD_eq_getElem?_getD];by_cases hn:n<vs.length
  .rw[Array.getElem?_append_left (by simpa using hn)];simp
  .rw[Array.getElem?_append_right (by simpa using Nat.le_of_not_lt hn),List.getElem?_eq_none (by omega)];by_cases h2:n - vs.length<nt - vs.length
   .simp[h2]
   .simp[h2]
 have hj:∀s' i b,Af (Ya pts 0) io s' i=some b->i=none/\Ya pts 0=some s'/\io=some b:=by
  intro s' i b hb;cases i with
  |some i=>simp[Af]at hb
  |none=>
   simp only[Af]at hb;split at hb
   .rename_i s2 hs2;split at hb
    .rename_i hbq;exact⟨rfl,by rw[hs2,Nat.eq_of_beq_eq_true hbq],hb⟩
    .cases hb
   .cases hb
 have hh:∀b o,F b o->b ∉ io.toList:=λb o hF hb=>by
  have hb:io=some b:=by cases io<;>simp at hb⊢;exact hb.symm
  exact Sj hargs b hb o hF
 refine⟨rfl,⟨by simp;omega,λs' hk b hb=>?_,(λp hp=>by obtain⟨n,_,rfl⟩:=List.mem_map.mp hp;exact hi n)⟩,Nat.le_refl _,(λb o h=>⟨hl.lt h,hh b o h⟩),Kept.refl _ _ _,F,Af (Ya pts 0) io,⟨λ_ _ h=>h,λ_ _ h=>.inl h,hl,λs1 i s2 i' b h h'=>?_,λs1 i b h=>?_,λn=>?_⟩⟩
 .have hb:io=some b:=by cases io<;>simp at hb⊢;exact hb.symm
  obtain⟨s2,h1,h2,h3,h4,_⟩:=t2 b hb;have hk:Ya pts 0=some s':=hk;rw[h1]at hk;cases hk;simp only[hi];rw[Nat.sub_zero]at h4;rw[List.getD_eq_getElem?_getD,h4];rfl
 .obtain⟨a1,a2,_⟩:=hj _ _ _ h;obtain⟨b1,b2,_⟩:=hj _ _ _ h';rw[a2]at b2;cases b2;exact⟨rfl,by rw[a1,b1]⟩
 .obtain⟨a1,a2,a3⟩:=hj _ _ _ h;obtain⟨s2,h1,h2,h3,h4,h5⟩:=t2 b a3;rw[a2]at h1;cases h1;exact⟨h5,.inr (by rw[a3];simp)⟩
 .rcases t4 n with h|⟨_,h2,v,h3,h4⟩
  .rw[h];trivial
  .rw[Le h2];simp only[hi];rw[Nat.sub_zero]at h3;rw[List.getD_eq_getElem?_getD,h3];exact h4
theorem aV{P:Program}{tt:TT}(ks:List Nat)(htt:Ub P tt){f:Nat}{s:Spec}{fn:Func}{c:Code}(hf:P.funcs[f]? = some fn)(hname:(fn.name == "runtime.NumGoroutine")=false)(hc:fn.body=some c){rs:List ResultVar}(hrs:fn.results=rs.toArray)
  (hlen:Nat.ble s.pts.length fn.ntmps=true) (hno:Ji s.rt=true->Ya s.pts 0=none)
  (h:∀x:ib s.pts,s.pre x->∀fr:Fr,fr.B=fr.W0.heap.size->Live fr.F0 fr.W0->(Ya s.pts 0=none->fr.IoB=[])->∀vs io,ye fr.F0 fr.W0 s.pts x vs io->Ht P ⟨fn.ntmps,Ya s.pts 0,ks.map λn=>(n,vs.getD n undef)⟩ fr c (Wb s.pts x 0) (em tt rs s x) (em tt rs s x) (λ_ _=>False)):Con P f s:=by
 refine⟨⟨fn,hf,hname,by rw[hc];rfl⟩,λx hp w F vs io hl hargs=>?_⟩;obtain⟨t1,t2,t3,t4⟩:=wh 0 hargs;have hy:vs.length<=fn.ntmps:=by rw[t1];exact Nat.le_of_ble_eq_true hlen
 refine calls_of_wp hf hc ?_;have hw:=iK (nt:=fn.ntmps) ks hl hargs hy
 refine wp_mono (h x hp ⟨w.heap.size,io.toList,w,F⟩ rfl hl (λhn=>by
  cases io with
  |none=>rfl
  |some b=>obtain⟨s2,q1,_⟩:=t2 b rfl;rw[hn]at q1;cases q1) vs io hargs _ _ hw) ?_
 rintro ex a w' ⟨e',hv,ht⟩
 have hj:em tt rs s x e'->a.defers=[]/\∃v,(results fn a.tmps).run P w'=.ok v w'/\AJ s x F w io (.returned v) w':=by
  rintro⟨hr,hu⟩;obtain⟨F',hz,hx⟩:=hv.rep
  have ho:∀b,io=some b->∃s2,Ya s.pts 0=some s2/\hz s2 none=some b/\a.tmps.getD s2 undef=.pointer (some ⟨b,0,none⟩):=λb hb=>by
   obtain⟨s2,q1,_⟩:=t2 b hb;obtain⟨bs,hi⟩:=Li q1 x
   have hu:ca e' s2=.box [(.sh,.lst .byte bs),(.fr,.int .i64 (s.val x).2)]:=by
    unfold Ki at hu;rw[q1,hi]at hu;exact hu
   obtain⟨b',us,e1,e2,_⟩:=hx.box hu;have hp:=hv.tmps.rd s2 q1 b (by rw[hb];simp);have e1:a.tmps.getD s2 undef=.pointer (some ⟨b',0,none⟩):=e1;have hh:b'=b:=by rw[hp]at e1;simpa using e1.symm
   exact⟨s2,q1,by rw[<-hh];exact e2,hp⟩
  have hs:∀s1 i b,hz s1 i=some b->b∈io.toList->i=none/\a.tmps.getD s1 undef=.pointer (some ⟨b,0,none⟩):=λs1 i b h1 hb=>by
   obtain⟨s2,_,q2,q3⟩:=ho b (by cases io<;>simp at hb⊢;exact hb.symm);obtain⟨rfl,rfl⟩:=hx.inj _ _ _ _ _ h1 q2;exact⟨rfl,q3⟩
  obtain⟨v,o,h1,h2,h3,h4⟩:=ZU htt hx hs hrs (λhr=>by
   cases io with
   |none=>rfl
   |some b=>obtain⟨s2,q1,_⟩:=t2 b rfl;rw[hno hr]at q1;cases q1) hr
  have hq:∀b o,F' b o->F b o\/w.heap.size<=b:=λb o h=>by
   rcases hx.new b o h with h1|h1|hm
   .exact .inl h1
   .exact .inr h1
   .cases io with
    |none=>simp at hm
    |some b2=>
     simp at hm;subst hm;obtain⟨s2,q1,q2,_⟩:=ho b rfl;obtain⟨bs,hi⟩:=Li q1 x
     have hu:ca e' s2=.box [(.sh,.lst .byte bs),(.fr,.int .i64 (s.val x).2)]:=by
      unfold Ki at hu;rw[q1,hi]at hu;exact hu
     obtain⟨b',us,_,e2,_,e4,_⟩:=hx.box hu;rw[q2]at e2;cases e2;exact absurd h (e4 o)
  refine⟨hv.defers,v,h1,v,F',o,rfl,⟨hv.kept.os,hv.kept.tape,hv.kept.output,hv.kept.size,λk hk hne=>hv.kept.block k hk (λhm=>hne ?_),hx.sub,hq,hx.live⟩,h3,h4,h2,λb bs hb hi=>?_⟩
  .cases io with
   |none=>simp at hm
   |some b=>simp at hm;rw[hm]
  .subst hb;obtain⟨s2,q1,_⟩:=t2 b rfl
   have hu:ca e' s2=.box [(.sh,.lst .byte bs),(.fr,.int .i64 (s.val x).2)]:=by
    unfold Ki at hu;rw[q1,hi]at hu;exact hu
   obtain⟨b',us,e1,e2,e3,e4,e5,e6⟩:=hx.box hu;have hp:=hv.tmps.rd s2 q1 b (by simp);have e1:a.tmps.getD s2 undef=.pointer (some ⟨b',0,none⟩):=e1;rw[hp]at e1;have hh:b'=b:=by simpa using e1.symm
   subst hh
   match us,e5 with
   |[sl,u],_=>
    have g0:=e6 0 (.sh,.lst .byte bs) sl rfl rfl;have g1:RC F' w.heap.size w' (.int .i64 (s.val x).2) u:=e6 1 (.fr,.int .i64 (s.val x).2) u rfl rfl;cases g1;exact⟨sl,e3,g0⟩
 cases ex with
 |normal=>exact hj ht
 |ret=>exact hj ht
 |exit i=>exact ht.elim
 |_=>exact ht.elim
theorem fm{P:Program}{tt:TT}(htt:Ub P tt){f:Nat}{s:Spec}{fn:Func}{c:Code}(hf:P.funcs[f]? = some fn)(hname:(fn.name == "runtime.NumGoroutine")=false)(hc:fn.body=some c){rs:List ResultVar}(hrs:fn.results=rs.toArray)
  (hlen:Nat.ble s.pts.length fn.ntmps=true) (hno:Ji s.rt=true->Ya s.pts 0=none)
  (h:∀x:ib s.pts,s.pre x->∀fr:Fr,fr.B=fr.W0.heap.size->Live fr.F0 fr.W0->(Ya s.pts 0=none->fr.IoB=[])->Ht P ⟨fn.ntmps,Ya s.pts 0,[]⟩ fr c (Wb s.pts x 0) (em tt rs s x) (em tt rs s x) (λ_ _=>False)):Con P f s:=by
 exact aV [] htt hf hname hc hrs hlen hno λx hp fr h1 h2 h3 _ _ _=>h x hp fr h1 h2 h3
def nav:Code->List Nat->Code
 |c,[]=>c
 |.seq a _,0::r=>nav a r
 |.seq _ b,_::r=>nav b r
 |.cond _ a _,0::r=>nav a r
 |.cond _ _ b,_::r=>nav b r
 |.block _ a,_::r=>nav a r
 |.loop a,_::r=>nav a r
 |c,_=>c
def ee(f:Func):Code:=
 match f.body with
 |some c=>c
 |none=>.skip
inductive Oc(A R X Y Z:Type) where
 |n (a:A)
 |r (q:R)
 |x (q:X)
 |y (q:Y)
 |z (q:Z)
instance {A R X Y Z:Type} [Inhabited R]:Inhabited (Oc A R X Y Z):=⟨.r default⟩
instance:Inhabited Time:=⟨⟨0,0⟩⟩
instance:Inhabited Row:=⟨⟨0,0,⟨0,0⟩,0⟩⟩
instance:Inhabited Item:=⟨⟨0,0,0⟩⟩
instance:Inhabited Plan:=⟨⟨0,0,[]⟩⟩
instance:Inhabited Sess:=⟨⟨⟨0,0,[]⟩,[],[],[]⟩⟩
def ocR{R:Type}:Oc Empty R Empty Empty Empty->R
 |.r q=>q
 |.n q=>q.elim
 |.x q=>q.elim
 |.y q=>q.elim
 |.z q=>q.elim
def ka{A R X Y Z:Type}:Oc A R X Y Z->Lp A (Oc Empty R X Y Z)
 |.n a=>.go a
 |.r q=>.out (.r q)
 |.x q=>.out (.x q)
 |.y q=>.out (.y q)
 |.z q=>.out (.z q)
def xa(e e':Env):Prop:=∀(N:NP) (B:Nat) (IoB:List Nat) (W0:World) (F0:Fz) (a:Act) (w:World),Sim N B IoB W0 F0 e a w->Sim N B IoB W0 F0 e' a w
theorem xa.trans{e e' e'':Env}(h:xa e e')(h':xa e' e''):xa e e'':=λN B IoB W0 F0 a w hs=>h' N B IoB W0 F0 a w (h N B IoB W0 F0 a w hs)
theorem xa.refl(e:Env):xa e e:=λ_ _ _ _ _ _ _ h=>h
theorem xa.cast{e e':Env}{pat:List (Nat×Tk)}(hf:ce e=true)(h:bg e pat=some e'):xa e e':=λ_ _ _ _ _ _ _ hs=>by
 obtain⟨F,ow,hx⟩:=hs.rep;exact⟨hs.defers,hs.tmps,hs.base,hs.f0,hs.kept,F,ow,hx.cast (Rj hf) h⟩
theorem xa.freeze(e:Env)(s:Nat):xa e (Fi e s):=λ_ _ _ _ _ _ _ hs=>by
 obtain⟨F,ow,hx⟩:=hs.rep;obtain⟨F',hi,hh⟩:=hx.freeze (Nat.le_trans hs.base hs.kept.size) s;exact⟨hs.defers,hs.tmps,hs.base,hs.f0,hs.kept,F',hi,hh⟩
section
variable {P:Program}{tt:TT}{N:NP}{fr:Fr}{c:Code}{e:Env}{n r:Env->Prop}{x:Nat->Env->Prop}
theorem Ht.weak{e':Env}(h:xa e e')(hc:Ht P N fr c e' n r x):Ht P N fr c e n r x:=λa w hs=>hc a w (h _ _ _ _ _ _ _ hs)
theorem Ht.loopOc{A R X Y Z:Type}[Inhabited R]{c1:Code}(hc:c=.loop c1)(I:A->Env)(B:A->Oc A R X Y Z){ob:A->Prop}{s0:A}(hT:LpT (λs=>ka (B s)) ob s0)
  {RP:R->Env->Prop}{XP:Nat->X->Env->Prop}{YP:Nat->Y->Env->Prop}{ZP:Nat->Z->Env->Prop}
  (hround:∀s,ob s->Ht P N fr c1 (I s) (λe=>∃s',B s=.n s'/\xa e (I s')) (λe=>∃q,B s=.r q/\RP q e)
    (λi e=>(∃q,B s=.x q/\XP i q e)\/(∃q,B s=.y q/\YP i q e)\/∃q,B s=.z q/\ZP i q e))
  (hr:∀q e,lpV (λs=>ka (B s)) s0=.r q->RP q e->r e) (hx:∀i q e,lpV (λs=>ka (B s)) s0=.x q->XP i q e->x i e)
  (hy:∀i q e,lpV (λs=>ka (B s)) s0=.y q->YP i q e->x i e) (hz:∀i q e,lpV (λs=>ka (B s)) s0=.z q->ZP i q e->x i e):Ht P N fr c (I s0) n r x:=by
 subst hc;intro a w hs;obtain⟨k0,hh⟩:=hT.count;refine We (σ:=Nat×A) (λks a w=>LpN (λs=>ka (B s)) ob ks.1 ks.2/\(∀q,LpR (λs=>ka (B s)) ks.2 q->LpR (λs=>ka (B s)) s0 q)/\Sim N fr.B fr.IoB fr.W0 fr.F0 (I ks.2) a w) (·.1) ?_ (k0,s0) ⟨hh,λ_ h=>h,hs⟩;rintro⟨k,s⟩ a w ⟨hk,hq,hj⟩;have hk:LpN (λs=>ka (B s)) ob k s:=hk;have ho:ob s:=by cases hk<;>assumption
 refine wp_mono (hround s ho a w hj) ?_;rintro ex a w ⟨e',hi,hp⟩;cases ex with
 |normal=>
  obtain⟨s',hl,hw⟩:=hp;have hm:ka (B s)=.go s':=by rw[hl];rfl
  cases hk with
  |out _ h=>have h:ka (B s)=_:=h;rw[hm]at h;cases h
  |go _ h hk'=>
   have h:ka (B s)=_:=h;rw[hm]at h;cases h;exact⟨(_,s'),Nat.lt_succ_self _,hk',λq h=>hq q (.go hm h),hw _ _ _ _ _ _ _ hi⟩
 |ret=>
  obtain⟨q,hl,h⟩:=hp;exact⟨e',hi,hr q e' (hq _ (.out (by show ka (B s)=_;rw[hl];rfl))).val h⟩
 |exit i=>
  refine⟨e',hi,?_⟩;rcases hp with⟨q,hl,h⟩|⟨q,hl,h⟩|⟨q,hl,h⟩
  .exact hx i q e' (hq _ (.out (by show ka (B s)=_;rw[hl];rfl))).val h
  .exact hy i q e' (hq _ (.out (by show ka (B s)=_;rw[hl];rfl))).val h
  .exact hz i q e' (hq _ (.out (by show ka (B s)=_;rw[hl];rfl))).val h
 |_=>exact hp.elim
end
abbrev AV.S(t:Ty)(x:List t.T):AV:=.v .sh (.lst t x)
abbrev AV.A(t:Ty)(x:List t.T):AV:=.v (.acc true) (.lst t x)
abbrev AV.I(n:Int):AV:=.v .fr (.int .i64 n)
abbrev AV.O(b:Bool):AV:=.v .fr (.bool b)
abbrev C.i(n:Int):C:=.int .i64 n
abbrev RV:=Option AV×AV
structure Fnn where
 rs:List ResultVar
 rt:RT
 rd:Option Nat
 fz:List Nat
structure Pb(R A X Y Z:Type) where
 o:Oc A R X Y Z
 ob:Prop
 path:List Nat
 env:Env
 rv:R->RV
 pn:A->Env
 px:X->Nat×Env
 py:Y->Nat×Env
 pz:Z->Nat×Env
class Dft (A:Type) where
 d:Option A
 h:d=none->A->False
instance:Dft Empty:=⟨none,λ_=>Empty.elim⟩
instance (priority:=low) {A:Type} [Inhabited A]:Dft A:=⟨some default,λh=>by cases h⟩
structure Ys(R:Type):Type 1 where
 {A:Type}
 {X:Type}
 {Y:Type}
 {Z:Type}
 [dA:Dft A]
 [dX:Dft X]
 [dY:Dft Y]
 [dZ:Dft Z]
 S:Pb R A X Y Z
abbrev LI:=List Item
abbrev LR:=List Row
abbrev LB:=List Int
abbrev LP:=List Plan
@[simp] theorem vah {p:Empty->Prop}:(∀q:Empty,p q)↔True:=⟨λ_=>trivial,λ_ q=>q.elim⟩
abbrev nE{α:Sort _}:Empty->α:=Empty.elim
inductive Tr(R A X Y Z:Type):Type 1 where
 |l (o:Oc A R X Y Z)
 |w (ps:List Prop) (t:Tr R A X Y Z)
 |c (b:Bool) (t f:Tr R A X Y Z)
 |k {α:Type} (a:α) (f:α->Tr R A X Y Z)
 |s {A' X' Y' Z':Type} [Dft A'] [Dft X'] [Dft Y'] [Dft Z'] (S:Pb R A' X' Y' Z') (n:A'->Tr R A X Y Z) (x:X'->Tr R A X Y Z) (y:Y'->Tr R A X Y Z) (z:Z'->Tr R A X Y Z)
abbrev Tr.sn{R A X Y Z A':Type}[Dft A'](S:Pb R A' Empty Empty Empty)(n:A'->Tr R A X Y Z):Tr R A X Y Z:=.s S n nE nE nE
abbrev Tr.sx{R A X Y Z X':Type}[Dft X'](S:Pb R Empty X' Empty Empty)(x:X'->Tr R A X Y Z):Tr R A X Y Z:=.s S nE x nE nE
abbrev TN(R:Type):=Tr R Empty Empty Empty Empty
abbrev TA(R A:Type):=Tr R A Empty Empty Empty
abbrev TX(R A X:Type):=Tr R A X Empty Empty
inductive TrE(R:Type):Type 1 where
 |n (e:Env)
 |r (v:RV)
 |x (i:Nat) (e:Env)
 |w (ps:List Prop) (t:TrE R)
 |c (b:Bool) (t f:TrE R)
 |s {A X Y Z:Type} (S:Pb R A X Y Z) (g:Option Env) (rv:R->RV) (n:A->TrE R) (x:X->TrE R) (y:Y->TrE R) (z:Z->TrE R)
 |bad
def lf{R A:Type}[Dft A](f:A->TrE R):A->TrE R:=match(Dft.d:Option A) with
 |some _=>f
 |none=>λ_=>.bad
section
variable {R A X Y Z:Type}
def Tr.val:Tr R A X Y Z->Oc A R X Y Z
 |.l o=>o
 |.w _ t=>t.val
 |.c b t f=>match b with
  |true=>t.val
  |false=>f.val
 |.k a f=>(f a).val
 |@Tr.s _ _ _ _ _ _ _ _ _ _ _ _ _ S n x y z=>match S.o with
  |.n q=>(n q).val
  |.r q=>.r q
  |.x q=>(x q).val
  |.y q=>(y q).val
  |.z q=>(z q).val
def Tr.ob:Tr R A X Y Z->Prop
 |.l _=>True
 |.w ps t=>da ps/\t.ob
 |.c b t f=>(b=true->t.ob)/\(b=false->f.ob)
 |.k a f=>(f a).ob
 |@Tr.s _ _ _ _ _ _ _ _ _ _ _ _ _ S n x y z=>S.ob/\(∀q,S.o=.n q->(n q).ob)/\(∀q,S.o=.x q->(x q).ob)/\(∀q,S.o=.y q->(y q).ob)/\(∀q,S.o=.z q->(z q).ob)
def Tr.toE(rv:R->RV)(pn:A->Env)(px:X->Nat×Env)(py:Y->Nat×Env)(pz:Z->Nat×Env):Tr R A X Y Z->TrE R
 |.l o=>match o with
  |.n q=>.n (pn q)
  |.r q=>.r (rv q)
  |.x q=>.x (px q).1 (px q).2
  |.y q=>.x (py q).1 (py q).2
  |.z q=>.x (pz q).1 (pz q).2
 |.w ps t=>.w ps (t.toE rv pn px py pz)
 |.c b t f=>.c b (t.toE rv pn px py pz) (f.toE rv pn px py pz)
 |.k a f=>(f a).toE rv pn px py pz
 |@Tr.s _ _ _ _ _ _ _ _ _ dA dX dY dZ S n x y z=>.s S (some S.env) rv (@lf _ _ dA λq=>(n q).toE rv pn px py pz) (@lf _ _ dX λq=>(x q).toE rv pn px py pz) (@lf _ _ dY λq=>(y q).toE rv pn px py pz) (@lf _ _ dZ λq=>(z q).toE rv pn px py pz)
def TrE.H(n:Env->Prop)(r:RV->Prop)(x:Nat->Env->Prop):TrE R->Prop
 |.n e=>n e
 |.r v=>r v
 |.x i e=>x i e
 |.w ps t=>da ps/\t.H n r x
 |.c b t f=>(b=true->t.H n r x)/\(b=false->f.H n r x)
 |.s S g rv kn kx ky kz=>g=some S.env/\S.ob/\(∀q,S.o=.n q->(kn q).H n r x)/\(∀q,S.o=.r q->r (rv q))/\(∀q,S.o=.x q->(kx q).H n r x)/\(∀q,S.o=.y q->(ky q).H n r x)/\(∀q,S.o=.z q->(kz q).H n r x)
 |.bad=>False
end
def ZK:List C->Bool
 |[]=>false
 |.nl _::_=>true
 |_::r=>ZK r
def kV:K->Option (Option Bool)
 |.acc f=>some (some f)
 |.sh=>some none
 |_=>none
def lV:K->Bool
 |.acc _=>true
 |.sh=>true
 |_=>false
def mV:AV->Tk
 |.v _ (.nl _)=>.same
 |.v .sh _=>.sh
 |.v .fr _=>.fr
 |.v (.acc b) _=>.acc b
 |.v (.own b) _=>.own b
 |.agg f cs=>match ZK cs with
  |true=>.same
  |false=>match f with
   |true=>.fr
   |false=>.sh
 |.box cs=>match cs.any λkc=>lV kc.1 with
  |true=>.bx (cs.map λkc=>kV kc.1)
  |false=>.same
 |_=>.same
def Zs:Env->List (Nat×Tk)
 |[]=>[]
 |(n,a)::r=>(n,mV a)::Zs r
def eqP:List Nat->List Nat->Bool
 |[],[]=>true
 |a::r,b::r'=>Nat.beq a b&&eqP r r'
 |_,_=>false
theorem aL:∀ {a b:List Nat},eqP a b=true->a=b
 |[],[],_=>rfl
 |a::r,b::r',h=>by
  simp only[eqP,Bool.and_eq_true]at h;rw[Nat.eq_of_beq_eq_true h.1,aL h.2]
 |[],_::_,h=>by cases h
 |_::_,[],h=>by cases h
abbrev Ch(R:Type):=List (Env->Ys R)
def bt{R:Type}(e:Env):Ch R->List Nat->Option (Ys R)
 |[],_=>none
 |S::l,p=>match eqP (S e).S.path p with
  |true=>some (S e)
  |false=>bt e l p
def asc{α:Type}:List (Nat×α)->Nat->Option α
 |[],_=>none
 |(i,a)::l,n=>match Nat.beq i n with
  |true=>some a
  |false=>asc l n
def nV(kp:List (Nat×List Nat))(n:Nat):List Nat:=match asc kp n with
 |some l=>l
 |none=>[]
def Ba(C:Code):List Nat->Code
 |[]=>C
 |i::p=>nav (Ba C p) [i]
def cellAt(e:Env)(n j:Nat):Option C:=match ca e n with
 |.v _ c=>some c
 |.agg _ cs=>cs[j]?
 |.box cs=>(cs[j]?).map (·.2)
 |_=>none
def gI(e:Env)(n j:Nat):Int:=match cellAt e n j with
 |some (.int _ x)=>x
 |_=>0
def gB(e:Env)(n j:Nat):Bool:=match cellAt e n j with
 |some (.bool x)=>x
 |_=>false
def gS(e:Env)(n j:Nat):ByteArray:=match cellAt e n j with
 |some (.str x)=>x
 |_=>ByteArray.empty
def gL(t:Ty)(e:Env)(n j:Nat):List t.T:=match cellAt e n j with
 |some (.lst u xs)=>match Cj t u xs with
  |some ys=>ys
  |none=>[]
 |_=>[]
def Pc(e:Env)(n:Nat):Time:=⟨gI e n 0,gI e n 1⟩
def wah(e:Env)(n:Nat):Item:=⟨gI e n 0,gI e n 1,gI e n 2⟩
def gRow(e:Env)(n:Nat):Row:=⟨gI e n 0,gI e n 1,⟨gI e n 2,gI e n 3⟩,gI e n 4⟩
section
variable (tt:TT) (sp:SP) (N:NP) (F:Fnn) (kp:List (Nat×List Nat)) (tb:List (Nat×Nat)) (af:List (Nat×Bool×Nat)) {R:Type} (subs:Ch R)
def Ig(e:Env):RV:=(xh tt e F.rs F.rt,match F.rd with
 |some s=>ca e s
 |none=>.dead)
def frzs:List Nat->Env->Env
 |[],e=>e
 |s::l,e=>frzs l (Fi e s)
def mkq(ps:List Prop)(t:TrE R):TrE R:=match ps with
 |[]=>t
 |p::r=>.w (p::r) t
def aft(id:Nat)(e:Env)(kn:Env->TrE R):TrE R:=match asc af id with
 |none=>kn e
 |some (true,s)=>match dm e s with
  |some e'=>kn e'
  |none=>.bad
 |some (false,s)=>kn (Fi e s)
def bef(id:Nat)(e:Env):Option Env:=match asc tb id with
 |none=>some e
 |some s=>dm e s
def xE(id:Nat)(c:Code)(e:Env)(kn:Env->TrE R):TrE R:=match bef tb id e with
 |none=>.bad
 |some e0=>match regC tt sp N (nV kp id) c e0 with
  |some (e1,ps)=>mkq ps (aft af id e1 kn)
  |none=>.bad
def mm(e:Env)(pat:List (Nat×Tk)):Option Env:=match ce e with
 |true=>bg e pat
 |false=>none
def Qi(p:List Nat)(e:Env)(kn:Env->TrE R)(kx:Nat->Env->TrE R)(t:TrE R):TrE R:=match bt e subs p with
 |some E=>.s E.S (mm e (Zs E.S.env)) E.S.rv (@lf R E.A E.dA λq=>kn (E.S.pn q)) (@lf R E.X E.dX λq=>kx (E.S.px q).1 (E.S.px q).2) (@lf R E.Y E.dY λq=>kx (E.S.py q).1 (E.S.py q).2) (@lf R E.Z E.dZ λq=>kx (E.S.pz q).1 (E.S.pz q).2)
 |none=>t
def runT:Code->List Nat->Env->(Env->TrE R)->(Nat->Env->TrE R)->TrE R
 |.region id ops d,p,e,kn,kx=>Qi subs p e kn kx (xE tt sp N kp tb af id (.region id ops d) e kn)
 |.skip,_,e,kn,_=>kn e
 |.exit i,_,e,_,kx=>kx i e
 |.ret,_,e,_,_=>.r (Ig tt F (frzs F.fz e))
 |.seq a b,p,e,kn,kx=>Qi subs p e kn kx (runT a (0::p) e (λe'=>runT b (1::p) e' kn kx) kx)
 |.cond o a b,p,e,kn,kx=>Qi subs p e kn kx (match readB e o with
  |some v=>.c v (runT a (0::p) e kn kx) (runT b (1::p) e kn kx)
  |none=>.bad)
 |.block id a,p,e,kn,kx=>Qi subs p e kn kx (runT a (0::p) e kn (λi e'=>match Nat.beq i id with
  |true=>kn e'
  |false=>kx i e'))
 |.loop _,p,e,kn,kx=>Qi subs p e kn kx .bad
 |_,_,_,_,_=>.bad
def kn0{A:Type}[Dft A](pn:A->Env)(e:Env):TrE R:=match(Dft.d:Option A) with
 |some d=>match mm e (Zs (pn d)) with
  |some e'=>.n e'
  |none=>.bad
 |none=>.bad
def kxs{X:Type}[Dft X](px:X->Nat×Env)(i:Nat)(e:Env)(k:TrE R):TrE R:=match(Dft.d:Option X) with
 |some d=>match Nat.beq i (px d).1 with
  |true=>match mm e (Zs (px d).2) with
   |some e'=>.x i e'
   |none=>.bad
  |false=>k
 |none=>k
def kx0{X Y Z:Type}[Dft X][Dft Y][Dft Z](px:X->Nat×Env)(py:Y->Nat×Env)(pz:Z->Nat×Env)(i:Nat)(e:Env):TrE R:=kxs px i e (kxs py i e (kxs pz i e .bad))
end
def Wk(n:Env->Prop)(e:Env):Prop:=∃e',xa e e'/\n e'
theorem yE{e e':Env}{pat:List (Nat×Tk)}(h:mm e pat=some e'):xa e e':=by
 unfold mm at h;split at h
 .rename_i hf;exact xa.cast hf h
 .cases h
def Qc(P:Program)(tt:TT)(N:NP)(fr:Fr)(C:Code)(F:Fnn){R A X Y Z:Type}(S:Pb R A X Y Z):Prop:=S.ob->Ht P N fr (Ba C S.path) S.env (λe=>∃q,S.o=.n q/\xa e (S.pn q)) (λe=>∃q,S.o=.r q/\Ig tt F e=S.rv q)
  (λi e=>(∃q,S.o=.x q/\(S.px q).1=i/\xa e (S.px q).2)\/(∃q,S.o=.y q/\(S.py q).1=i/\xa e (S.py q).2)\/∃q,S.o=.z q/\(S.pz q).1=i/\xa e (S.pz q).2)
def Ri(P:Program)(tt:TT)(N:NP)(fr:Fr)(C:Code)(F:Fnn){R:Type}:Ch R->Prop
 |[]=>True
 |S::l=>(∀e,Qc P tt N fr C F (S e).S)/\Ri P tt N fr C F l
section
variable {P:Program}{tt:TT}{sp:SP}{N:NP}{F:Fnn}{kp:List (Nat×List Nat)}{tb:List (Nat×Nat)}{af:List (Nat×Bool×Nat)}{R:Type}{subs:Ch R}{fr:Fr}{C:Code}{n:Env->Prop}{r:RV->Prop}{x:Nat->Env->Prop}
theorem Ht.frzs:∀ {l:List Nat}{c:Code}{e:Env}{n r:Env->Prop}{x:Nat->Env->Prop},Ht P N fr c (frzs l e) n r x->Ht P N fr c e n r x
 |[],_,_,_,_,_,h=>h
 |s::_,_,_,_,_,_,h=>Ht.freeze s (Ht.frzs h)
theorem bL{e:Env}:∀ {subs:Ch R}{p:List Nat}{S:Ys R},Ri P tt N fr C F subs->bt e subs p=some S->S.S.path=p/\Qc P tt N fr C F S.S
 |[],_,_,_,h=>by cases h
 |S'::l,p,S,hs,h=>by
  simp only[bt]at h;split at h
  .rename_i hp;simp only[Option.some.injEq]at h;subst h;exact⟨aL hp,hs.1 e⟩
  .exact bL hs.2 h
theorem dL{A:Type}[i:Dft A]{f:A->TrE R}{d:A}(h:i.d=some d):lf f=f:=by unfold lf;rw[h]
theorem oV{A:Type}[i:Dft A]{f:A->TrE R}(h:i.d=none):lf f=λ_=>.bad:=by unfold lf;rw[h]
theorem ct{A:Type}[i:Dft A]{f:A->TrE R}{q:A}(h:(lf f q).H n r x):(f q).H n r x:=by
 cases hd:i.d with
 |some d=>rw[dL hd]at h;exact h
 |none=>rw[oV hd]at h;exact h.elim
theorem et{A:Type}[i:Dft A]{f:A->TrE R}{q:A}(h:(f q).H n r x):(lf f q).H n r x:=by
 cases hd:i.d with
 |some d=>rw[dL hd];exact h
 |none=>exact(i.h hd q).elim
theorem nm(hs:Ri P tt N fr C F subs){p:List Nat}{e:Env}{kn:Env->TrE R}{kx:Nat->Env->TrE R}{t:TrE R}(h:(Qi subs p e kn kx t).H n r x){c:Code}(hc:Ba C p=c)
  (ht:t.H n r x->Ht P N fr c e (Wk λe'=>(kn e').H n r x) (λe'=>r (Ig tt F e')) (λi=>Wk λe'=>(kx i e').H n r x)) :
  Ht P N fr c e (Wk λe'=>(kn e').H n r x) (λe'=>r (Ig tt F e')) (λi=>Wk λe'=>(kx i e').H n r x):=by
 unfold Qi at h;split at h
 .rename_i E hS;obtain⟨hp,hi⟩:=bL hs hS;obtain⟨hg,hh,hn,hr,hx,hy,hz⟩:=h;have h1:=hi hh;rw[hp,hc]at h1;refine Ht.weak (yE hg) (h1.mono ?_ ?_ ?_)
  .rintro e' ⟨q,hq,hw⟩;exact⟨_,hw,@ct _ _ _ _ _ E.dA _ _ (hn q hq)⟩
  .rintro e' ⟨q,hq,hw⟩;rw[hw];exact hr q hq
  .rintro i e' (⟨q,hq,rfl,hw⟩|⟨q,hq,rfl,hw⟩|⟨q,hq,rfl,hw⟩)
   .exact⟨_,hw,@ct _ _ _ _ _ E.dX _ _ (hx q hq)⟩
   .exact⟨_,hw,@ct _ _ _ _ _ E.dY _ _ (hy q hq)⟩
   .exact⟨_,hw,@ct _ _ _ _ _ E.dZ _ _ (hz q hq)⟩
 .exact ht h
theorem pV(G:Good P tt sp){id:Nat}{c:Code}{e:Env}{kn:Env->TrE R}(h:(xE tt sp N kp tb af id c e kn).H n r x){r':Env->Prop}{x':Nat->Env->Prop}:Ht P N fr c e (Wk λe'=>(kn e').H n r x) r' x':=by
 unfold xE at h;split at h
 .exact h.elim
 .rename_i e0 he0
  have key:Ht P N fr c e0 (Wk λe'=>(kn e').H n r x) r' x':=by
   split at h
   .rename_i e1 ps hreg
    have h2:da ps/\(aft af id e1 kn).H n r x:=by
     unfold mkq at h;split at h
     .exact⟨trivial,h⟩
     .exact h
    refine Ht.reg G hreg h2.1 ?_;have h3:=h2.2;unfold aft at h3;split at h3
    .exact⟨_,xa.refl _,h3⟩
    .split at h3
     .rename_i s _ e' ht;refine⟨e',?_,h3⟩;intro N B IoB W0 F0 a w hs;unfold dm at ht;split at ht
      .rename_i f t xs hg;split at ht
       .rename_i hb;simp only[Bool.and_eq_true]at hb;simp only[Option.some.injEq]at ht;subst ht;obtain⟨F,ow,hx⟩:=hs.rep;obtain⟨F',hh⟩:=hx.thaw hs.f0 hg hb.1 hb.2;exact⟨hs.defers,hs.tmps,hs.base,hs.f0,hs.kept,F',ow,hh⟩
       .cases ht
      .cases ht
     .exact h3.elim
    .exact⟨_,xa.freeze _ _,h3⟩
   .exact h.elim
  unfold bef at he0;split at he0
  .simp only[Option.some.injEq]at he0;subst he0;exact key
  .exact Ht.thaw _ he0 key
theorem qV(G:Good P tt sp)(hs:Ri P tt N fr C F subs):∀(c:Code) (p:List Nat) (_:Ba C p=c) (e:Env) (kn:Env->TrE R) (kx:Nat->Env->TrE R),(runT tt sp N F kp tb af subs c p e kn kx).H n r x ->
  Ht P N fr c e (Wk λe'=>(kn e').H n r x) (λe'=>r (Ig tt F e')) (λi=>Wk λe'=>(kx i e').H n r x):=by
 intro c
 induction c with
 |region id ops d=>intro p hc e kn kx h;exact nm hs h hc λh=>pV G h
 |skip=>intro p _ e kn kx h;exact Ht.skip rfl ⟨e,xa.refl _,h⟩
 |exit i=>intro p _ e kn kx h;exact Ht.exit rfl ⟨e,xa.refl _,h⟩
 |ret=>intro p _ e kn kx h;exact Ht.frzs (Ht.ret rfl h)
 |seq a b iha ihb=>
  intro p hc e kn kx h;refine nm hs h hc λh=>?_;have ha:Ba C (0::p)=a:=by show nav (Ba C p) [0]=a;rw[hc];simp[nav]
  have hb:Ba C (1::p)=b:=by show nav (Ba C p) [1]=b;rw[hc];simp[nav]
  exact Ht.seq rfl ((iha _ ha e _ kx h).mono (λe' ⟨hh,hw,h'⟩=>Ht.weak hw (ihb _ hb hh kn kx h')) (λ_ h=>h) (λ_ _ h=>h))
 |cond o a b iha ihb=>
  intro p hc e kn kx h;refine nm hs h hc λh=>?_;have ha:Ba C (0::p)=a:=by show nav (Ba C p) [0]=a;rw[hc];simp[nav]
  have hb:Ba C (1::p)=b:=by show nav (Ba C p) [1]=b;rw[hc];simp[nav]
  split at h
  .rename_i v hv;exact Ht.cond rfl hv (λht=>iha _ ha e kn kx (h.1 ht)) (λhf=>ihb _ hb e kn kx (h.2 hf))
  .exact h.elim
 |block id a iha=>
  intro p hc e kn kx h;refine nm hs h hc λh=>?_;have ha:Ba C (0::p)=a:=by show nav (Ba C p) [0]=a;rw[hc];simp[nav]
  refine Ht.block rfl ((iha _ ha e kn _ h).mono (λ_ h=>h) (λ_ h=>h) (λi e' h=>?_));obtain⟨hh,hw,h⟩:=h;unfold Es;cases hb:Nat.beq i id<;>rw[hb]at h<;>exact⟨hh,hw,h⟩
 |loop a _=>
  intro p hc e kn kx h;exact nm hs h hc λh=>h.elim
 |_=>intro p hc e kn kx h;exact False.elim h
theorem rV{A X Y Z:Type}{rv:R->RV}{pn:A->Env}{px:X->Nat×Env}{py:Y->Nat×Env}{pz:Z->Nat×Env}(t:Tr R A X Y Z):t.ob->(∀q,t.val=.n q->n (pn q))->(∀q,t.val=.r q->r (rv q)) ->
  (∀q,t.val=.x q->x (px q).1 (px q).2)->(∀q,t.val=.y q->x (py q).1 (py q).2)->(∀q,t.val=.z q->x (pz q).1 (pz q).2)->(t.toE rv pn px py pz).H n r x:=by
 induction t with
 |l o=>
  intro _ h1 h2 h3 h4 h5;cases o with
  |n q=>exact h1 q rfl
  |r q=>exact h2 q rfl
  |x q=>exact h3 q rfl
  |y q=>exact h4 q rfl
  |z q=>exact h5 q rfl
 |w ps t ih=>intro h h1 h2 h3 h4 h5;exact⟨h.1,ih h.2 h1 h2 h3 h4 h5⟩
 |c b t f iht ihf=>
  intro h h1 h2 h3 h4 h5;refine⟨λhb=>?_,λhb=>?_⟩<;>subst hb
  .exact iht (h.1 rfl) h1 h2 h3 h4 h5
  .exact ihf (h.2 rfl) h1 h2 h3 h4 h5
 |k a f ih=>exact ih a
 |s S kn kx ky kz ihn ihx ihy ihz=>
  intro h h1 h2 h3 h4 h5;obtain⟨hh,hn,hx,hy,hz⟩:=h;refine⟨rfl,hh,λq hq=>?_,λq hq=>?_,λq hq=>?_,λq hq=>?_,λq hq=>?_⟩
  .have e:(Tr.s S kn kx ky kz).val=(kn q).val:=by simp only[Tr.val,hq]
   rw[e]at h1 h2 h3 h4 h5;exact et (ihn q (hn q hq) h1 h2 h3 h4 h5)
  .exact h2 q (by simp only[Tr.val,hq])
  .have e:(Tr.s S kn kx ky kz).val=(kx q).val:=by simp only[Tr.val,hq]
   rw[e]at h1 h2 h3 h4 h5;exact et (ihx q (hx q hq) h1 h2 h3 h4 h5)
  .have e:(Tr.s S kn kx ky kz).val=(ky q).val:=by simp only[Tr.val,hq]
   rw[e]at h1 h2 h3 h4 h5;exact et (ihy q (hy q hq) h1 h2 h3 h4 h5)
  .have e:(Tr.s S kn kx ky kz).val=(kz q).val:=by simp only[Tr.val,hq]
   rw[e]at h1 h2 h3 h4 h5;exact et (ihz q (hz q hq) h1 h2 h3 h4 h5)
theorem zE{X:Type}[Dft X]{px:X->Nat×Env}{i:Nat}{e:Env}{k:TrE R}(h:(kxs px i e k).H n r x):(∃e',xa e e'/\x i e')\/k.H n r x:=by
 unfold kxs at h;split at h
 .split at h
  .split at h
   .rename_i e3 hc;exact .inl ⟨e3,yE hc,h⟩
   .exact h.elim
  .exact .inr h
 .exact .inr h
theorem ft{A X Y Z:Type}[Dft A][Dft X][Dft Y][Dft Z](G:Good P tt sp)(subs:Ch R)(hs:Ri P tt N fr C F subs)(kp:List (Nat×List Nat))(tb:List (Nat×Nat))(af:List (Nat×Bool×Nat)){S:Pb R A X Y Z}(t:Tr R A X Y Z)
  (ho:S.o=t.val) (hob:S.ob=t.ob) (h:runT tt sp N F kp tb af subs (Ba C S.path) S.path S.env (kn0 S.pn) (kx0 S.px S.py S.pz)=t.toE S.rv S.pn S.px S.py S.pz):Qc P tt N fr C F S:=by
 intro hb;rw[hob]at hb
 have h1:=rV (n:=λe=>∃q,S.o=.n q/\xa e (S.pn q)) (r:=λv=>∃q,S.o=.r q/\v=S.rv q)
  (x:=λi e=>(∃q,S.o=.x q/\(S.px q).1=i/\xa e (S.px q).2)\/(∃q,S.o=.y q/\(S.py q).1=i/\xa e (S.py q).2)\/∃q,S.o=.z q/\(S.pz q).1=i/\xa e (S.pz q).2) (rv:=S.rv) (pn:=S.pn) (px:=S.px) (py:=S.py) (pz:=S.pz) t hb
  (λq hq=>⟨q,ho.trans hq,xa.refl _⟩) (λq hq=>⟨q,ho.trans hq,rfl⟩) (λq hq=>.inl ⟨q,ho.trans hq,rfl,xa.refl _⟩) (λq hq=>.inr (.inl ⟨q,ho.trans hq,rfl,xa.refl _⟩)) (λq hq=>.inr (.inr ⟨q,ho.trans hq,rfl,xa.refl _⟩))
 rw[<-h]at h1
 have key:∀ {n':Env->Prop}{x':Nat->Env->Prop},(∀e e',xa e e'->n' e'->n' e)->(∀i e e',xa e e'->x' i e'->x' i e)->∀ {r':RV->Prop},
   (runT tt sp N F kp tb af subs (Ba C S.path) S.path S.env (kn0 S.pn) (kx0 S.px S.py S.pz)).H n' r' x'->Ht P N fr (Ba C S.path) S.env n' (λe=>r' (Ig tt F e)) x':=by
  intro n' x' hj hl r' hh;refine(qV G hs _ _ rfl _ _ _ hh).mono ?_ (λ_ h=>h) ?_
  .rintro e' ⟨hi,hw,h⟩;unfold kn0 at h;split at h
   .split at h
    .rename_i e3 hc;exact hj _ _ (hw.trans (yE hc)) h
    .exact h.elim
   .exact h.elim
  .rintro i e' ⟨hi,hw,h⟩;rcases zE h with⟨e3,hk,h⟩|h
   .exact hl _ _ _ (hw.trans hk) h
   .rcases zE h with⟨e3,hk,h⟩|h
    .exact hl _ _ _ (hw.trans hk) h
    .rcases zE h with⟨e3,hk,h⟩|h
     .exact hl _ _ _ (hw.trans hk) h
     .exact h.elim
 refine key ?_ ?_ h1
 .rintro e e' hw ⟨q,hq,h⟩;exact⟨q,hq,hw.trans h⟩
 .rintro i e e' hw (⟨q,hq,rfl,h⟩|⟨q,hq,rfl,h⟩|⟨q,hq,rfl,h⟩)
  .exact .inl ⟨q,hq,rfl,hw.trans h⟩
  .exact .inr (.inl ⟨q,hq,rfl,hw.trans h⟩)
  .exact .inr (.inr ⟨q,hq,rfl,hw.trans h⟩)
def jt(c:Code):Bool:=match c with
 |.loop _=>true
 |_=>false
theorem sV{c:Code}(h:jt c=true):c=.loop (nav c [0]):=by
 unfold jt at h;split at h
 .simp[nav]
 .cases h
def lpS{σ X Y Z:Type}(S:Pb R σ X Y Z)(o:Oc Empty R X Y Z)(ob:Prop):Pb R Empty X Y Z:=⟨o,ob,S.path.tail,S.env,S.rv,nE,S.px,S.py,S.pz⟩
theorem tV{σ X Y Z:Type}[Inhabited R](Sr:σ->Pb R σ X Y Z)(s0:σ)(hpn:∀s,(Sr s).pn=λs'=>(Sr s').env)(hp:∀s,(Sr s).path=0::(Sr s0).path.tail/\(Sr s).rv=(Sr s0).rv/\(Sr s).px=(Sr s0).px/\(Sr s).py=(Sr s0).py/\(Sr s).pz=(Sr s0).pz)
  (hc:jt (Ba C (Sr s0).path.tail)=true) (hb:∀s,Qc P tt N fr C F (Sr s)) :
  Qc P tt N fr C F (lpS (Sr s0) (lpV (λs=>ka (Sr s).o) s0) (LpT (λs=>ka (Sr s).o) (λs=>(Sr s).ob) s0)):=by
 intro hT;have hT:LpT (λs=>ka (Sr s).o) (λs=>(Sr s).ob) s0:=hT;show Ht P N fr (Ba C (Sr s0).path.tail) (Sr s0).env _ _ _;refine Ht.loopOc (c1:=nav (Ba C (Sr s0).path.tail) [0]) (sV hc) (λs=>(Sr s).env) (λs=>(Sr s).o) hT (RP:=λq e=>Ig tt F e=(Sr s0).rv q) (XP:=λi q e=>((Sr s0).px q).1=i/\xa e ((Sr s0).px q).2) (YP:=λi q e=>((Sr s0).py q).1=i/\xa e ((Sr s0).py q).2) (ZP:=λi q e=>((Sr s0).pz q).1=i/\xa e ((Sr s0).pz q).2) (λs hs=>?_) ?_ ?_ ?_ ?_
 .have h:=hb s hs;obtain⟨h1,h2,h3,h4,h5⟩:=hp s;rw[h1,h2,h3,h4,h5,hpn s]at h;exact h
 .exact λq e h he=>⟨q,h,he⟩
 .exact λi q e h he=>.inl ⟨q,h,he⟩
 .exact λi q e h he=>.inr (.inl ⟨q,h,he⟩)
 .exact λi q e h he=>.inr (.inr ⟨q,h,he⟩)
def gc:Nat:=2097200
theorem Wj{f:Nat}{s:Spec}{fn:Func}{c:Code}(hf:P.funcs[f]? = some fn)(hname:(fn.name == "runtime.NumGoroutine")=false)(hc:fn.body=some c)(h:∀x,s.pre x->False):Con P f s:=⟨⟨fn,hf,hname,by rw[hc];rfl⟩,λx hp=>(h x hp).elim⟩
theorem uV{pts:List PT}{rt:RT}{o:ib pts->Oc Empty rt.T Empty Empty Empty}{ob:ib pts->Prop}(G:Good P tt sp){f:Nat}{fn:Func}{c:Code}(hf:P.funcs[f]? = some fn)(hname:(fn.name == "runtime.NumGoroutine")=false)(hc:fn.body=some c){rs:List ResultVar}{fz:List Nat}
  (hrs:fn.results=rs.toArray) (hlen:Nat.ble pts.length fn.ntmps=true) (hno:Ji rt=true->Ya pts 0=none) (hrd:Ya pts 0=none) (S:ib pts->Pb rt.T Empty Empty Empty Empty)
  (hS:∀x,(S x).path=[]/\(S x).env=Wb pts x 0/\(S x).o=o x/\(S x).ob=ob x/\(S x).rv=λq=>(some (rt.av q),.dead))
  (h:∀(x:ib pts) (fr:Fr),Qc P tt ⟨fn.ntmps,none,[]⟩ fr c ⟨rs,rt,none,fz⟩ (S x)):Con P f ⟨pts,rt,false,λx=>(ocR (o x),0),ob⟩:=fm G.htt hf hname hc hrs hlen hno λx hp fr _ _ _=>by
  obtain⟨h1,h2,h3,h4,h5⟩:=hS x;have hp:ob x:=hp;rw[<-h4]at hp;have h0:=h x fr hp;rw[h1,h2,h3,h5]at h0;rw[hrd];refine Ht.mono h0 ?_ ?_ ?_
  .rintro e ⟨q,_⟩;exact q.elim
  .rintro e ⟨q,hq,he⟩;have hq:o x=.r q:=hq;have he:Ig tt ⟨rs,rt,none,fz⟩ e=(some (rt.av q),.dead):=he;refine⟨?_,?_⟩
   .show xh tt e rs rt=some (rt.av (ocR (o x)));rw[hq];exact congrArg Prod.fst he
   .exact by unfold Ki;rw[hrd];trivial
  .rintro i e (⟨q,_⟩|⟨q,_⟩|⟨q,_⟩)<;>exact q.elim
theorem vV{pts:List PT}{rt:RT}{o:ib pts->Oc Empty (rt.T×Int) Empty Empty Empty}{ob:ib pts->Prop}(G:Good P tt sp){f:Nat}{fn:Func}{c:Code}(hf:P.funcs[f]? = some fn)(hname:(fn.name == "runtime.NumGoroutine")=false)(hc:fn.body=some c){rs:List ResultVar}{fz:List Nat}
  (hrs:fn.results=rs.toArray) (hlen:Nat.ble pts.length fn.ntmps=true) (hno:Ji rt=true->Ya pts 0=none) {k:Nat} (hrd:Ya pts 0=some k) (bs:ib pts->List Int) (hbs:∀x,rdB pts x=some (bs x)) (S:ib pts->Pb (rt.T×Int) Empty Empty Empty Empty)
  (hS:∀x,(S x).path=[]/\(S x).env=Wb pts x 0/\(S x).o=o x/\(S x).ob=ob x/\(S x).rv=λq=>(some (rt.av q.1),.box [(.sh,.lst .byte (bs x)),(.fr,.int .i64 q.2)]))
  (h:∀(x:ib pts) (fr:Fr),Qc P tt ⟨fn.ntmps,some k,[]⟩ fr c ⟨rs,rt,some k,fz⟩ (S x)):Con P f ⟨pts,rt,true,λx=>ocR (o x),ob⟩:=fm G.htt hf hname hc hrs hlen hno λx hp fr _ _ _=>by
  obtain⟨h1,h2,h3,h4,h5⟩:=hS x;have hp:ob x:=hp;rw[<-h4]at hp;have h0:=h x fr hp;rw[h1,h2,h3,h5]at h0;rw[hrd];refine Ht.mono h0 ?_ ?_ ?_
  .rintro e ⟨q,_⟩;exact q.elim
  .rintro e ⟨q,hq,he⟩;have hq:o x=.r q:=hq;have he:Ig tt ⟨rs,rt,some k,fz⟩ e=(some (rt.av q.1),.box [(.sh,.lst .byte (bs x)),(.fr,.int .i64 q.2)]):=he;refine⟨?_,?_⟩
   .show xh tt e rs rt=some (rt.av (ocR (o x)).1);rw[hq];exact congrArg Prod.fst he
   .show Ki pts x (ocR (o x)).2 e;unfold Ki;rw[hrd,hbs,hq];exact congrArg Prod.snd he
  .rintro i e (⟨q,_⟩|⟨q,_⟩|⟨q,_⟩)<;>exact q.elim
end
def dg(sz:Nat->Option Nat):List Field->Nat->Option Nat
 |[],o=>some o
 |f::fs,o=>match Nat.beq f.offset o&&f.name != "_",sz f.type with
  |true,some n=>dg sz fs (o+n)
  |_,_=>none
def fg(P:Program):Nat->Nat->Option Nat
 |0,_=>none
 |m+1,t=>match P.underlying t,P.info? t with
  |some (.int _),some _=>some 1
  |some (.struct fs),some i=>match P.stoodInHeld t,dg (fg P m) fs.toList 0 with
   |false,some n=>match Nat.beq i.size n with
    |true=>some n
    |false=>none
   |_,_=>none
  |_,_=>none
theorem Ms:∀ {cs ds:List C}{b:Bool},pb cs ds=some b->cs.length=ds.length
 |[],[],_,_=>rfl
 |.int _ _::r,.int _ _::r',_,h=>by
  simp only[pb]at h;split at h
  .rename_i h';simp[Ms h']
  .cases h
 |[],_::_,_,h=>by simp[pb]at h
 |.bool _::_,_,_,h=>by simp[pb]at h
 |.str _::_,_,_,h=>by simp[pb]at h
 |.lst _ _::_,_,_,h=>by simp[pb]at h
 |.nl _::_,_,_,h=>by simp[pb]at h
 |.int _ _::_,[],_,h=>by simp[pb]at h
 |.int _ _::_,.bool _::_,_,h=>by simp[pb]at h
 |.int _ _::_,.str _::_,_,h=>by simp[pb]at h
 |.int _ _::_,.lst _ _::_,_,h=>by simp[pb]at h
 |.int _ _::_,.nl _::_,_,h=>by simp[pb]at h
theorem jK:∀ {a c a' c':List C}{e:Bool},a.length=c.length->pb (a++a') (c++c')=some e->∃e1 e2,pb a c=some e1/\pb a' c'=some e2/\e=(e1&&e2)
 |[],[],_,_,e,_,h=>⟨true,e,rfl,h,by simp⟩
 |x::a,y::c,a',c',e,hl,h=>by
  cases x<;>cases y<;>simp only[List.cons_append,pb]at h<;>try (cases h;done)
  rename_i k n k' n';split at h
  .rename_i e' hk hr;obtain⟨e1,e2,h1,h2,h3⟩:=jK (by simpa using hl) hr;simp only[Option.some.injEq]at h;exact⟨cmp .eql n n'&&e1,e2,by simp only[pb,hk,h1],h2,by rw[<-h,h3,Bool.and_assoc]⟩
  .cases h
 |[],_::_,_,_,_,hl,_=>by simp at hl
 |_::_,[],_,_,_,hl,_=>by simp at hl
section
variable {P:Program}
def EqP(P:Program)(d t n:Nat):Prop:=∀(w:World) (cs ds:List C) (off:Nat) (b:Bool),pb ((cs.drop off).take n) ((ds.drop off).take n)=some b->((cs.drop off).take n).length=n ->
 ∃x y,(Go.part t (cs.map zv).toArray off).run P w=.ok x w/\(Go.part t (ds.map zv).toArray off).run P w=.ok y w/\(Op.equalIn d t x y).run P w=.ok b w
theorem bV{d t:Nat}{k:IntKind}(hu:P.underlying t=some (.int k)):EqP P (d+1) t 1:=by
 intro w cs ds hh b h hl;cases hc:cs.drop hh with
 |nil=>rw[hc]at hl;simp at hl
 |cons c cr=>
  rw[hc]at h;cases hd:ds.drop hh with
  |nil=>rw[hd]at h;cases c<;>simp[pb]at h
  |cons e er=>
   rw[hd]at h
   have h1:cs[hh]? = some c:=by
    have:=List.getElem?_drop (xs:=cs) (i:=hh) (j:=0);rw[hc]at this;simpa using this.symm
   have h2:ds[hh]? = some e:=by
    have:=List.getElem?_drop (xs:=ds) (i:=hh) (j:=0);rw[hd]at this;simpa using this.symm
   simp only[List.take_succ_cons,List.take_zero]at h;cases c<;>cases e<;>simp only[pb]at h<;>try (cases h;done)
   rename_i k1 a k2 a';split at h
   .rename_i e' hk hr;simp only[Option.some.injEq]at h hr;subst hr;have hk:=Ij hk;subst hk;refine⟨.int k1 a,.int k1 a',?_,?_,?_⟩
    .simp[Go.part,Go.isAgg,run_underlying hu,h1,zv]
    .simp[Go.part,Go.isAgg,run_underlying hu,h2,zv]
    .rw[run_equalIn_int w d t k1 k a a' hu,<-h];simp[cmp]
   .cases h
theorem aE{sz:Nat->Option Nat}:∀ {fs:List Field}{o n:Nat},dg sz fs o=some n->o<=n
 |[],o,n,h=>by simp only[dg,Option.some.injEq]at h;omega
 |f::fs,o,n,h=>by
  simp only[dg]at h;split at h
  .have:=aE h;omega
  .cases h
theorem kK{d:Nat}{sz:Nat->Option Nat}(hsz:∀t n,sz t=some n->EqP P d t n)(w:World)(cs ds:List C):∀ {fs:List Field}{o n:Nat}{b:Bool},dg sz fs o=some n ->
  pb ((cs.drop o).take (n - o)) ((ds.drop o).take (n - o))=some b->((cs.drop o).take (n - o)).length=n - o->(Op.eqFields d (cs.map zv).toArray (ds.map zv).toArray fs).run P w=.ok b w
 |[],o,n,b,h,hb,_=>by
  simp only[dg,Option.some.injEq]at h;subst h;rw[Nat.sub_self]at hb;simp only[List.take_zero,pb,Option.some.injEq]at hb;subst hb;rfl
 |f::fs,o,n,b,h,hb,hl=>by
  simp only[dg]at h;split at h
  .rename_i k hc hk;simp only[Bool.and_eq_true,bne_iff_ne,ne_eq]at hc;have ho:=Nat.eq_of_beq_eq_true hc.1;have hj:=aE h
   have hn:∀l:List C,(l.drop o).take (n - o)=(l.drop o).take k++(l.drop (o+k)).take (n - (o+k)):=λl=>by
    rw[show n - o=k+(n - (o+k)) by omega,List.take_add,List.drop_drop]
   rw[hn cs,hn ds]at hb;rw[hn cs]at hl
   have hh:((cs.drop o).take k).length=k/\((cs.drop (o+k)).take (n - (o+k))).length=n - (o+k):=by
    rw[List.length_append]at hl;have h1:((cs.drop o).take k).length<=k:=by simp;omega
    have h2:((cs.drop (o+k)).take (n - (o+k))).length<=n - (o+k):=by simp;omega
    omega
   have hm:=Ms hb
   have hi:((ds.drop o).take k).length=k:=by
    rw[List.length_append,List.length_append,hh.1,hh.2]at hm;have h1:((ds.drop o).take k).length<=k:=by simp;omega
    have h2:((ds.drop (o+k)).take (n - (o+k))).length<=n - (o+k):=by simp;omega
    omega
   obtain⟨e1,e2,g1,g2,g3⟩:=jK (by rw[hh.1,hi]) hb;obtain⟨x,y,p1,p2,p3⟩:=hsz f.type k hk w cs ds o e1 g1 hh.1;have ih:=kK hsz w cs ds h g2 hh.2;simp only[Op.eqFields,ne_eq,hc.2,not_false_eq_true,if_true,Sem.run_bind,ho,p1,p2,p3,Result.andThen_ok];rw[g3];cases e1 with
   |false=>simp
   |true=>simpa using ih
  .cases h
theorem lK:∀(m t n d:Nat),fg P m t=some n->EqP P (d+m) t n
 |0,_,_,_,h=>by simp[fg]at h
 |m+1,t,n,d,h=>by
  simp only[fg]at h;split at h
  .rename_i k i hu hi;simp only[Option.some.injEq]at h;subst h;exact bV (d:=d+m) hu
  .rename_i fs i hu hi;split at h
   .rename_i n' hs hf;split at h
    .rename_i hn;simp only[Option.some.injEq]at h;subst h;have hn:=Nat.eq_of_beq_eq_true hn;intro w cs ds hk b hb hl;have hh:P.fieldsOf t=fs:=by simp[Program.fieldsOf,hu]
     have hex:∀l:List C,((l.map zv).toArray.extract hk (hk+n'))=(((l.drop hk).take n').map zv).toArray:=λl=>by
      apply Array.ext';simp[List.map_drop,List.map_take]
     have hj:∀l:List C,(Go.part t (l.map zv).toArray hk).run P w=.ok (.agg (((l.drop hk).take n').map zv).toArray) w:=λl=>by
      rw[<-hex l];simp[Go.part,Go.isAgg,run_underlying hu,sizeOf,typeInfo,hi,hn]
     refine⟨_,_,hj cs,hj ds,?_⟩;rw[show d+(m+1)=(d+m)+1 from rfl,run_equalIn_struct w (d+m) t _ _ (by rw[hh];exact hu) hs,hh];refine kK (λt n h=>lK m t n d h) w ((cs.drop hk).take n') ((ds.drop hk).take n') (fs:=fs.toList) hf ?_ ?_
     .rw[Nat.sub_zero,List.drop_zero,List.drop_zero,List.take_take,List.take_take,Nat.min_self];exact hb
     .rw[Nat.sub_zero,List.drop_zero,List.take_take,Nat.min_self];exact hl
    .cases h
   .cases h
  .cases h
def bE(P:Program)(t n:Nat):Bool:=
 !P.eqGuardType P.depth t&&match P.underlying t,fg P 9 t with
 |some (.struct _),some k=>Nat.beq k n
 |_,_=>false
theorem cV{t n:Nat}(h:bE P t n=true):Dg P t n:=by
 simp only[bE,Bool.and_eq_true,Bool.not_eq_true']at h;obtain⟨h1,h2⟩:=h;split at h2
 .rename_i fs k hu hk;have hn:=Nat.eq_of_beq_eq_true h2;subst hn;refine⟨h1,λw cs ds b hb hl=>?_⟩
  obtain⟨x,y,p1,p2,p3⟩:=lK 9 t k 9991 hk w cs ds 0 b (by
   rw[List.drop_zero,List.drop_zero,List.take_of_length_le (by omega),List.take_of_length_le (by rw[<-Ms hb];omega)];exact hb) (by simp;omega)
  have hi:∃i,P.info? t=some i/\i.size=k:=by
   simp only[fg,hu]at hk;cases hi:P.info? t with
   |none=>rw[hi]at hk;cases hk
   |some i=>
    rw[hi]at hk;simp only[]at hk;split at hk
    .split at hk
     .rename_i hn;simp only[Option.some.injEq]at hk;exact⟨i,rfl,by rw[Nat.eq_of_beq_eq_true hn,hk]⟩
     .cases hk
    .cases hk
  obtain⟨i,hi,hj⟩:=hi
  have hm:∀l:List C,l.length=k->(Go.part t (l.map zv).toArray 0).run P w=.ok (.agg (l.map zv).toArray) w:=λl hl=>by
   have hex:((l.map zv).toArray.extract 0 k)=(l.map zv).toArray:=by
    apply Array.ext';simp[List.take_of_length_le (show(l.map zv).length<=k by simp;omega)]
   have hh:Array.extract (l.map zv).toArray 0 k=(l.map zv).toArray:=hex;simp only[Go.part,Go.isAgg,run_underlying hu,sizeOf,typeInfo,hi,hj,Sem.run_bind,Sem.run_pure,Result.andThen_ok,Nat.zero_add,if_true,run_program];simp[hh]
  rw[hm cs hl]at p1;rw[hm ds (by rw[<-Ms hb];exact hl)]at p2;cases p1;cases p2;exact p3
 .cases h2
def cE(P:Program):TT->Bool
 |[]=>true
 |(t,d)::r=>dD P t d&&((!d.eq||bE P t d.size)&&cE P r)
theorem gm{P:Program}:∀ {tt:TT},cE P tt=true->Ub P tt
 |[],_=>⟨(λ_ _ h=>by cases h),(λ_ _ h=>by cases h)⟩
 |(t0,d0)::r,h=>by
  simp only[cE,Bool.and_eq_true]at h;obtain⟨h1,h2,h3⟩:=h;have ih:=gm h3;refine⟨λt d h=>?_,λt d h he=>?_⟩
  .simp only[lk]at h;split at h
   .rename_i hb;cases h;rw[<-Nat.eq_of_beq_eq_true hb];exact xT h1
   .exact ih.td t d h
  .simp only[lk]at h;split at h
   .rename_i hb;cases h;rw[<-Nat.eq_of_beq_eq_true hb];rw[he]at h2;exact cV (by simpa using h2)
   .exact ih.eq t d h he
end
def yh(r:Nat)(o:Option Nat->Option Nat):Option Nat->Option Nat:=λi=>match o i with
 |some b=>if b=r then none else some b
 |none=>none
theorem dE{r:Nat}{o:Option Nat->Option Nat}{i:Option Nat}{b:Nat}(h:yh r o i=some b):o i=some b:=by
 unfold yh at h;split at h
 .rename_i b' hb;split at h
  .cases h
  .rw[hb];exact h
 .cases h
theorem eE{r:Nat}{o:Option Nat->Option Nat}{i:Option Nat}{b:Nat}(h:o i=some b)(hb:b≠r):yh r o i=some b:=by
 unfold yh;rw[h];simp[hb]
theorem Blk.ne{w:World}{b r:Nat}{cs:List Value}(h:Blk w b cs){o:Obj}(ho:w.heap[r]? = some o)(hc:Go.Proofs.YtiiidenbemkihaaGreat.isC o=false):b≠r:=λe=>by
 subst e;rw[Blk.isC h ho]at hc;cases hc
theorem mK{w:World}{b r i:Nat}{u:Value}(h:w.cell? ⟨b,i,none⟩=some u){o:Obj}(ho:w.heap[r]? = some o)(hc:isC o=false):b≠r:=λe=>by
 subst e;cases o<;>simp[World.cell?,ho,isC]at h hc
section
variable {w w':World}{F:Fz}{r:Nat}{B:Nat} (hp:Pk w r w') {o0:Obj} (ho:w.heap[r]? = some o0) (hc:isC o0=false)
include hp ho hc
theorem fE(hl:Live F w):Ke F w w':=λb i hb=>by
 cases h:w.cell? ⟨b,i,none⟩ with
 |none=>have:=hl b i hb;rw[h]at this;cases this
 |some u=>rw[cell_of_heap (hp.block b (mK h ho hc)),h]
theorem VR.obj(hl:Live F w){o:Option Nat->Option Nat}{av:AV}{v:Value}(h:VR F B w o av v):VR F B w' (yh r o) av v:=by
 have hF:=fE hp ho hc hl;have rc:∀ {lo:Nat}{c:C}{v:Value},RC F lo w c v->RC F lo w' c v:=λh=>h.poke hp hF
 have acc:∀ {lo:Nat}{i:Option Nat}{c:C}{v:Value},ya F lo w (o i) c v->ya F lo w' (yh r o i) c v:=by
  rintro lo i c v ⟨h1,h2⟩;refine⟨rc h1,?_⟩;rcases h2 with h2|⟨t,xs,b,cap,cs,e1,e2,e3,e4,e5,e6⟩
  .exact .inl h2
  .exact .inr ⟨t,xs,b,cap,cs,e1,e2,eE e3 (e4.ne ho hc),e4.same (hp.block b (e4.ne ho hc)),e5,e6⟩
 cases av with
 |dead=>trivial
 |v k c=>
  cases k with
  |sh=>exact rc h
  |fr=>exact rc h
  |acc f=>exact acc h
  |own f=>
   rcases h with h|⟨t,xs,b,cap,cs,vs,e1,e2,e3,e4,e5,hh,e6,e7,e8,e9⟩
   .exact .inl h
   exact .inr ⟨t,xs,b,cap,cs,vs,e1,e2,eE e3 (e4.ne ho hc),e4.same (hp.block b (e4.ne ho hc)),e5,hh,e6,e7,e8,λi j x c hx hc=>rc (e9 i j x c hx hc)⟩
 |agg f cs=>obtain⟨vs,e,h⟩:=h;exact⟨vs,e,h.poke hp hF⟩
 |tup l=>obtain⟨vs,e,h⟩:=h;exact⟨vs,e,h.poke hp hF⟩
 |box cs=>
  obtain⟨b,vs,e1,e2,e3,e4,e5,e6⟩:=h;refine⟨b,vs,e1,eE e2 (e3.ne ho hc),e3.same (hp.block b (e3.ne ho hc)),e4,e5,λj kc u hk hu=>?_⟩;have:=e6 j kc u hk hu;obtain⟨k,c⟩:=kc;cases k with
  |sh=>exact rc this
  |fr=>exact rc this
  |acc f=>exact acc this
  |own f=>exact this
 |cond k a=>exact h.elim
 |view s i=>exact h.elim
 |baddr s i=>exact h.elim
 |faddr f cs=>exact h.elim
 |oaddr s i j=>exact h.elim
theorem SR.obj(hl:Live F w){tm:Nat->Value}{g:Get}{ow:Nat->Option Nat->Option Nat}{n:Nat}:∀ {av:AV},SR F B w tm g ow n av->SR F B w' tm g (λs=>yh r (ow s)) n av
 |.dead,_=>trivial
 |.v k c,h=>VR.obj (av:=.v k c) hp ho hc hl h
 |.agg f cs,h=>VR.obj (av:=.agg f cs) hp ho hc hl h
 |.tup l,h=>VR.obj (av:=.tup l) hp ho hc hl h
 |.box cs,h=>VR.obj (av:=.box cs) hp ho hc hl h
 |.cond k a,h=>⟨h.1,h.2.1,λhb=>SR.obj hl (h.2.2.1 hb),h.2.2.2⟩
 |.view m none,h=>h
 |.view m (some j),h=>by
  obtain⟨h0,cs,b',f,c,h1,h2,h3,h4⟩:=h;exact⟨h0,cs,b',f,c,h1,h2,h3,by rw[cell_of_heap (hp.block b' (mK h4 ho hc))];exact h4⟩
 |.baddr m o,h=>h
 |.faddr f cs,h=>by
  obtain⟨b',o,vs,h1,h2,h3⟩:=h;have hF:=fE hp ho hc hl;exact⟨b',o,vs,h1,h2.poke hp hF,λj v hv=>⟨(h3 j v hv).1,by rw[hF _ _ (h3 j v hv).1];exact(h3 j v hv).2⟩⟩
 |.oaddr m i o,h=>h
theorem ga.obj{IoB:List Nat}{F0:Fz}{e:Env}{tm:Nat->Value}{ow:Nat->Option Nat->Option Nat}(hs:ga B IoB F0 e tm w F ow):ga B IoB F0 e tm w' F (λs=>yh r (ow s)):=⟨hs.sub,hs.new,λb o hb=>by rw[fE hp ho hc hs.live b o hb];exact hs.live b o hb,λs i s' i' b h h'=>hs.inj s i s' i' b (dE h) (dE h'),
   λs i b h=>by rw[hp.size];exact hs.bd s i b (dE h),λs=>(hs.sr s).obj hp ho hc hs.live⟩
end
structure MS(N:NP)(B:Nat)(IoB:List Nat)(W0:World)(F0:Fz)(obs:List (Nat×Obj))(e:Env)(a:Act)(w:World):Prop where
 sim:Sim N B IoB w F0 e a w
 kept:Kept B IoB W0 w
 ob:∀p∈obs,w.heap[p.1]? = some p.2/\isC p.2=false/\B<=p.1
 hB:B=W0.heap.size
section
variable {P:Program}{N:NP}{B:Nat}{IoB:List Nat}{W0:World}{F0:Fz}{obs:List (Nat×Obj)}{e:Env}{a:Act}{w:World}
theorem Sim.rebase(hs:Sim N B IoB W0 F0 e a w):Sim N B IoB w F0 e a w:=⟨hs.defers,hs.tmps,Nat.le_trans hs.base hs.kept.size,hs.f0,Kept.refl _ _ _,hs.rep⟩
theorem MS.of(hs:Sim N B IoB W0 F0 e a w)(hB:B=W0.heap.size):MS N B IoB W0 F0 [] e a w:=⟨hs.rebase,hs.kept,(λp hp=>by cases hp),hB⟩
theorem MS.to(h:MS N B IoB W0 F0 obs e a w):Sim N B IoB W0 F0 e a w:=⟨h.sim.defers,h.sim.tmps,Nat.le_of_eq h.hB,h.sim.f0,h.kept,h.sim.rep⟩
theorem Tms.forget{N':NP}{t:Array Value}(h:Tms N IoB t)(hn:N'.n=N.n)(hr:N'.r=N.r)(hk:∀p∈N'.k,p∈N.k):Tms N' IoB t:=⟨by rw[hn];exact h.size,λs hs=>h.rd s (by rw[<-hr];exact hs),λp hp=>h.kp p (hk p hp)⟩
theorem MS.forget{N':NP}{obs':List (Nat×Obj)}(h:MS N B IoB W0 F0 obs e a w)(hn:N'.n=N.n)(hr:N'.r=N.r)(hk:∀p∈N'.k,p∈N.k)(ho:∀p∈obs',p∈obs):MS N' B IoB W0 F0 obs' e a w:=⟨⟨h.sim.defers,h.sim.tmps.forget hn hr hk,h.sim.base,h.sim.f0,h.sim.kept,h.sim.rep⟩,h.kept,λp hp=>h.ob p (ho p hp),h.hB⟩
theorem MS.of_sim{e':Env}{a':Act}{w':World}(h:MS N B IoB W0 F0 obs e a w)(hs:Sim N B IoB w F0 e' a' w'):MS N B IoB W0 F0 obs e' a' w':=⟨hs.rebase,h.kept.trans hs.kept,λp hp=>⟨hs.kept.obj _ _ (h.ob p hp).1 (h.ob p hp).2.1,(h.ob p hp).2⟩,h.hB⟩
theorem MS.reg{tt:TT}{sp:SP}(G:Good P tt sp){id:Nat}{ops:Array Oper}{draw:Bool}(hok:Cs sp N ops.toList draw=true){keep:List Nat}{e':Env}{ps:List Prop}
  (hr:Zl tt sp keep ops.toList draw e=some (e',ps)) (ho:da ps) {Q:Exit->Act->World->Prop} (hQ:∀a w,MS N B IoB W0 F0 obs e' a w->Q .normal a w) (hs:MS N B IoB W0 F0 obs e a w):(Code.region id ops draw).wp P Q a w:=ZJ G.htt G.hsp G.hm hok hr ho.all (λa w h=>hQ a w (hs.of_sim h)) hs.sim
theorem MS.stepF{tt:TT}{sp:SP}(G:Good P tt sp)(hs:MS N B IoB W0 F0 obs e a w){ops:Array Oper}{o:Oper}{e':Env}{ps:List Prop}(hgd:o.guard=none)
  (hst:Go.Proofs.YtiiidenbemkihaaGreat.stepF tt sp (ops.toList.map (·.dst)) e o=some (e',ps)) (ho:da ps) (hdN:∀d,o.dst=some d->N.ok d=true) {next:Act->World->Prop}{Q:Exit->Act->World->Prop} (hn:∀a' w',MS N B IoB W0 F0 obs e' a' w'->next a' w') :
  o.wp P a w next Q:=by
 have h:=Ul G.htt G.hsp hs.sim hst ho.all hdN (Q:=Q) (next:=next) (λa' w' h=>hn a' w' (hs.of_sim h));have hw:Region.wanted o (yielded ops a.tmps)=true:=by unfold Region.wanted;rw[hgd]
 rw[if_pos hw]at h;exact h
theorem ra{ops:Array Oper}{i:Nat}{o:Oper}(ho:ops[i]? = some o)(hg:o.guard=none){next:Act->World->Prop}{Q:Exit->Act->World->Prop}(h:o.wp P a w next Q):wpOp P ops Q i next a w:=by
 unfold wpOp;rw[ho];simp only[];have hw:Region.wanted o (yielded ops a.tmps)=true:=by unfold Region.wanted;rw[hg]
 rw[if_pos hw];exact .inl h
theorem Tms.putK{a:Act}(h:Tms N IoB a.tmps){d:Nat}(hd:N.ok d=true)(v:Value):Tms ⟨N.n,N.r,(d,v)::N.k⟩ IoB (a.put (some d) v).tmps:=by
 have h1:=h.put hd v;refine⟨h1.size,h1.rd,λp hp=>?_⟩;rcases List.mem_cons.1 hp with rfl|hp
 .rw[Ga a d v (by rw[h.size];exact NP.ok_lt hd),if_pos rfl]
 .exact h1.kp p hp
theorem MS.val(hs:MS N B IoB W0 F0 obs e a w){d:Nat}(hd:N.ok d=true){v:Value}{av:AV}(hfl:Vb av=true)(hav:∀F,Live F w->VR F B w (λ_=>none) av v) :
  MS ⟨N.n,N.r,(d,v)::N.k⟩ B IoB W0 F0 obs (put e d av) (a.put (some d) v) w:=by
 obtain⟨F,ow,hx⟩:=hs.sim.rep;refine⟨⟨hs.sim.defers,hs.sim.tmps.putK hd v,hs.sim.base,hs.sim.f0,Kept.refl _ _ _,F,λs=>if s=d then(λ_=>none) else ow s,?_⟩,hs.kept,hs.ob,hs.hB⟩;rw[show(λn=>(a.put (some d) v).tmps.getD n undef)=λn=>if n=d then v else a.tmps.getD n undef from funext (Ga a d v (by rw[hs.sim.tmps.size];exact NP.ok_lt hd))];refine hx.put hs.sim.base (Pa.refl F w) hx.live (λi b h=>by simp at h) (λi i' b h=>by simp at h) (λg' _ _=>?_);rw[Le hfl];simp only[if_true];exact hav F hx.live
theorem MS.alloc(hs:MS N B IoB W0 F0 obs e a w){d:Nat}(hd:N.ok d=true){v:Value}{o:Obj}(hc:isC o=false) :
  MS ⟨N.n,N.r,(d,v)::N.k⟩ B IoB W0 F0 ((w.heap.size,o)::obs) (put e d .dead) (a.put (some d) v) (w.alloc o):=by
 obtain⟨F,ow,hx⟩:=hs.sim.rep;have hh:=hs.sim.base;have hj:∀k,k<w.heap.size->(w.alloc o).heap[k]? = w.heap[k]?:=λk hk=>Rr o hk;have hg:Pa F w F (w.alloc o):=⟨rfl,rfl,rfl,by show w.heap.size<=(w.heap.push o).size;simp,hj,λ_ _ h=>h,λ_ _ h=>.inl h⟩;have hi:Kept B IoB w (w.alloc o):=⟨rfl,rfl,rfl,hg.size,λk hk _=>hj k (by omega),λk o' hk _=>by rw[hj k (Array.getElem?_eq_some_iff.1 hk).1];exact hk⟩;refine⟨⟨hs.sim.defers,hs.sim.tmps.putK hd v,Nat.le_trans hh hg.size,hs.sim.f0,Kept.refl _ _ _,F,λs=>if s=d then(λ_=>none) else ow s,?_⟩,hs.kept.trans hi,λp hp=>?_,hs.hB⟩
 .rw[show(λn=>(a.put (some d) v).tmps.getD n undef)=λn=>if n=d then v else a.tmps.getD n undef from funext (Ga a d v (by rw[hs.sim.tmps.size];exact NP.ok_lt hd))];refine hx.put hh hg (λb i hb=>by rw[hg.live hx.live b i hb];exact hx.live b i hb) (λi b h=>by simp at h) (λi i' b h=>by simp at h) (λg' _ _=>trivial)
 .rcases List.mem_cons.1 hp with rfl|hp
  .exact⟨by show(w.heap.push o)[w.heap.size]? = some o;simp,hc,hh⟩
  .exact⟨by rw[hj _ (Array.getElem?_eq_some_iff.1 (hs.ob p hp).1).1];exact(hs.ob p hp).1,(hs.ob p hp).2⟩
theorem MS.set(hs:MS N B IoB W0 F0 obs e a w){r:Nat}{o0:Obj}(hr:(r,o0)∈obs){w':World}(hp:Pk w r w'){obs':List (Nat×Obj)}
  (ho:∀p∈obs',(p∈obs/\p.1≠r)\/(p.1=r/\w'.heap[r]? = some p.2/\isC p.2=false)):MS N B IoB W0 F0 obs' e a w':=by
 obtain⟨h1,h2,h3⟩:=hs.ob _ hr;obtain⟨F,ow,hx⟩:=hs.sim.rep;refine⟨⟨hs.sim.defers,hs.sim.tmps,by rw[hp.size];exact hs.sim.base,hs.sim.f0,Kept.refl _ _ _,F,_,hx.obj hp h1 h2⟩,?_,λp hpp=>?_,hs.hB⟩
 .have hh:∀k,k<W0.heap.size->k≠r:=λk hk e=>by have:=hs.hB;simp only at h3;omega
  refine⟨hp.os.trans hs.kept.os,hp.tape.trans hs.kept.tape,hp.output.trans hs.kept.output,by rw[hp.size];exact hs.kept.size,λk hk hio=>?_,λk o hk hc=>?_⟩
  .rw[hp.block k (hh k (by have:=hs.hB;omega))];exact hs.kept.block k hk hio
  .rw[hp.block k (hh k (Array.getElem?_eq_some_iff.1 hk).1)];exact hs.kept.obj k o hk hc
 .rcases ho p hpp with⟨q1,q2⟩|⟨q1,q2,q3⟩
  .exact⟨by rw[hp.block _ q2];exact(hs.ob p q1).1,(hs.ob p q1).2⟩
  .exact⟨by rw[q1];exact q2,q3,by rw[q1];exact h3⟩
theorem MS.bool(hs:MS N B IoB W0 F0 obs e a w){t:Nat}{k:K}{b:Bool}(hg:ca e t=.v k (.bool b)):a.eval (.tmp t)=.bool b:=by
 obtain⟨F,ow,hx⟩:=hs.sim.rep;have hh:=hx.sr t;rw[hg]at hh;exact Ci (hh.avr (λ_ _ h=>by cases h))
theorem MS.drew(hs:MS N B IoB W0 F0 obs e a w)(m:Nat):MS N B IoB W0 F0 obs e a { w with drawn:=m }:=by
 have h:=hs.sim.drew m;exact hs.of_sim h
end
section
variable {P:Program}{ops:Array Oper}{Q:Exit->Act->World->Prop}
theorem gE{J:(Nat->Bool)->Act->World->Prop}(hback:Xl ops.toList 0=true)
  (hstep:∀(L:Nat->Bool) (a:Act) (w:World) (i:Nat) (o:Oper),ops[i]? = some o->L i=false->(∀e∈o.after,Region.binds .any e=true->L e.on=true)->Closed ops L->J L a w ->
    ∀(next:Act->World->Prop),(∀a' w',J (λj=>if j=i then true else L j) a' w'->next a' w')->wpOp P ops Q i next a w)
  (hQ:∀L a w,(∀i,i<ops.size->L i=true)->J L a w->Q .normal a w) :
  ∀(fuel:Nat) (listed:Array Bool) (a:Act) (w:World),listed.size=ops.size->listed.toList.count false=fuel->Closed ops (λi=>listed.getD i false)->J (λi=>listed.getD i false) a w->wpAny P .any ops Q fuel listed a w:=by
 have hu:∀i,ops.toList[i]? = ops[i]?:=λi=>Array.getElem?_toList;intro fuel
 induction fuel with
 |zero=>
  intro listed a w hsz hq hn hJ
  have hk:∀i,i<ops.size->listed.getD i false=true:=by
   intro i hi
   have hf:false ∉ listed.toList:=λhm=>by
    have:=List.count_pos_iff.2 hm;omega
   have hv:i<listed.toList.length:=by rw[Array.length_toList];omega
   have hc:=List.getElem_mem hv;cases hb:listed.toList[i] with
   |false=>rw[hb]at hc;exact absurd hc hf
   |true=>rw[Array.getD_eq_getD_getElem?,<-Array.getElem?_toList,List.getElem?_eq_getElem hv,hb];rfl
  refine⟨?_,hQ _ a w hk hJ⟩;cases hr:Region.ready .any ops listed with
  |nil=>rfl
  |cons j r=>
   have hj:j∈Region.ready .any ops listed:=by rw[hr];simp
   obtain⟨h0,o,ho,_⟩:=mem_ready.1 hj;have ha:j<ops.size:=(Array.getElem?_eq_some_iff.1 ho).1;have:=hk j ha;rw[Array.getD_eq_getD_getElem?]at this h0;rw[Array.getElem?_eq_getElem (by omega)]at this h0;simp at this h0;rw[this]at h0;cases h0
 |succ fuel ih=>
  intro listed a w hsz hq hn hJ;refine⟨λhr=>?_,λi hi=>?_⟩
  .exfalso
   have hk:∀i,i<ops.size->listed.getD i false=true:=by
    intro i
    induction i using Nat.strongRecOn with
    |ind i ihi=>
     intro hi;cases hb:listed.getD i false with
     |true=>rfl
     |false=>
      have hc:i∈Region.ready .any ops listed:=by
       refine mem_ready.2 ⟨?_,ops[i],Array.getElem?_eq_getElem hi,λe he hl=>?_⟩
       .rw[Array.getD_eq_getD_getElem?,Array.getElem?_eq_getElem (by omega)]at hb⊢;simpa using hb
       .have:=PD hback i ops[i] (by rw[hu];exact Array.getElem?_eq_getElem hi) e he hl;exact ihi e.on (by omega) (by omega)
      rw[hr]at hc;simp at hc
   have io:0<listed.toList.count false:=by omega
   have hm:=List.count_pos_iff.1 io;obtain⟨i,hi⟩:=List.mem_iff_getElem?.1 hm;have ha:=(List.getElem?_eq_some_iff.1 hi).1;rw[Array.length_toList]at ha;have:=hk i (by omega);rw[Array.getD_eq_getD_getElem?,<-Array.getElem?_toList,hi]at this;cases this
  .obtain⟨hw,o,ho,ht⟩:=mem_ready.1 hi;have hy:i<ops.size:=(Array.getElem?_eq_some_iff.1 ho).1
   have hh:listed.getD i false=false:=by
    rw[Array.getD_eq_getD_getElem?,Array.getElem?_eq_getElem (by omega)]at hw⊢;simpa using hw
   have hz:listed.toList[i]? = some false:=by
    rw[Array.getElem?_toList,Array.getElem?_eq_getElem (by omega)];rw[Array.getD_eq_getD_getElem?,Array.getElem?_eq_getElem (by omega)]at hh;simpa using hh
   have it:(λj=>(listed.setIfInBounds i true).getD j false)=λj=>if j=i then true else listed.getD j false:=by
    funext j
    by_cases e:j=i
    .subst e;rw[if_pos rfl,Array.getD_eq_getD_getElem?,Array.getElem?_setIfInBounds_self_of_lt (by omega)];rfl
    .rw[if_neg e,getD_set_ne false (Ne.symm e)]
   have hp:Closed ops (λi'=>(listed.setIfInBounds i true).getD i' false):=by
    rw[it];intro j o' hg hj e he hl;simp only[]at hj⊢;split
    .rfl
    .split at hj
     .rename_i e';subst e';rw[ho]at hg;cases hg;exact ht e he hl
     .exact hn j o' hg hj e he hl
   have hs:(listed.setIfInBounds i true).toList.count false=fuel:=by
    rw[Array.toList_setIfInBounds];have:=WJ hz;omega
   exact hstep _ a w i o ho hh ht hn hJ _ (λa' w' hJ'=>ih _ a' w' (by rw[Array.size_setIfInBounds];exact hsz) hs hp (by rw[it];exact hJ'))
end
def Ec(ks:List Int):List Value:=ks.map (Value.int .i64)
def Ha(ks:List Int):Value:=.agg (Ec ks).toArray
abbrev MP:=List (List Int×Int)
def Ob(i:Nat)(p:List Int×Int):MapEntry:={ key:=Ha p.1,val:=.int .i64 p.2,born:=i }
def Ua:Nat->MP->List MapEntry
 |_,[]=>[]
 |i,p::r=>Ob i p::Ua (i+1) r
def oa(m:MP):Obj:=.map (Ua 0 m).toArray m.length
def Vc(w:World)(r:Nat)(o:Obj):World:={ w with heap:=w.heap.setIfInBounds r o }
theorem zh(w:World)(r:Nat)(o:Obj):Pk w r (Vc w r o):=⟨rfl,rfl,rfl,by simp[Vc],λk hk=>by
   show(w.heap.setIfInBounds r o)[k]? = w.heap[k]?;rw[Array.getElem?_setIfInBounds,if_neg (λe=>hk e.symm)]⟩
theorem Ah{w:World}{r:Nat}{o o':Obj}(h:w.heap[r]? = some o):(Vc w r o').heap[r]? = some o':=by
 show(w.heap.setIfInBounds r o')[r]? = some o';rw[Array.getElem?_setIfInBounds,if_pos rfl,if_pos (Array.getElem?_eq_some_iff.1 h).1]
def Xb:MP->List Int->Nat->Option (Nat×Int)
 |[],_,_=>none
 |p::r,ks,i=>if p.1=ks then some (i,p.2) else Xb r ks (i+1)
def Xa(m:MP)(ks:List Int):Int:=match Xb m ks 0 with
 |some (_,v)=>v
 |none=>0
def stp(m:MP)(ks:List Int):Nat:=match Xb m ks 0 with
 |some (i,_)=>i
 |none=>m.length
def oc(m:MP)(ks:List Int):MP:=match Xb m ks 0 with
 |some _=>m
 |none=>m++[(ks,0)]
def jd:MP->Nat->Int->MP
 |[],_,_=>[]
 |p::r,0,v=>(p.1,v)::r
 |p::r,i+1,v=>p::jd r i v
theorem Ns:∀(j:Nat) (m:MP) (i:Nat),(Ua j m)[i]? = (m[i]?).map (Ob (j+i))
 |_,[],i=>by simp[Ua]
 |j,p::r,0=>by simp[Ua]
 |j,p::r,i+1=>by simp[Ua,Ns (j+1) r i,Nat.add_assoc,Nat.add_comm 1 i]
theorem nK:∀(j:Nat) (m n:MP),Ua j (m++n)=Ua j m++Ua (j+m.length) n
 |_,[],n=>by simp[Ua]
 |j,p::r,n=>by simp[Ua,nK (j+1) r n,Nat.add_assoc,Nat.add_comm 1 r.length]
theorem iE{j:Nat}{m:MP}{e:MapEntry}(h:e∈Ua j m):∃i p,m[i]? = some p/\e=Ob (j+i) p:=by
 obtain⟨i,hi⟩:=List.mem_iff_getElem?.1 h;rw[Ns]at hi;cases hm:m[i]? with
 |none=>rw[hm]at hi;cases hi
 |some p=>rw[hm]at hi;simp at hi;exact⟨i,p,hm,hi.symm⟩
theorem im:∀ {m:MP}{ks:List Int}{j i:Nat}{v:Int},Xb m ks j=some (i,v)->j<=i/\m[i - j]? = some (ks,v)
 |[],_,_,_,_,h=>by simp[Xb]at h
 |p::r,ks,j,i,v,h=>by
  simp only[Xb]at h;split at h
  .rename_i hp;simp only[Option.some.injEq,Prod.mk.injEq]at h;obtain⟨rfl,rfl⟩:=h;exact⟨Nat.le_refl _,by simp[<-hp]⟩
  .obtain⟨h1,h2⟩:=im h;refine⟨by omega,?_⟩;rw[show i - j=(i - (j+1))+1 by omega];simpa using h2
theorem oK:∀ {m:MP}{ks:List Int}{j:Nat},Xb m ks j=none->∀p∈m,p.1≠ks
 |[],_,_,_,p,hp=>by simp at hp
 |q::r,ks,j,h,p,hp=>by
  simp only[Xb]at h;split at h
  .cases h
  .rename_i hq;rcases List.mem_cons.1 hp with rfl|hp
   .exact hq
   .exact oK h p hp
section
variable {P:Program}{K n:Nat}
theorem pK:∀ {ks ls:List Int},ks.length=ls.length->pb (ks.map (C.int .i64)) (ls.map (C.int .i64))=some (decide (ks=ls))
 |[],[],_=>rfl
 |a::r,b::r',h=>by
  simp only[List.map_cons,pb];rw[pK (by simpa using h)];show some (cmp .eql a b&&decide (r=r'))=_
  congr 1
  by_cases h1:a=b<;>by_cases h2:r=r'<;>simp[cmp,h1,h2]
 |[],_::_,h=>by simp at h
 |_::_,[],h=>by simp at h
theorem qK(ks:List Int):((ks.map (C.int .i64)).map zv).toArray=(Ec ks).toArray:=by
 simp[Ec,zv]
theorem sK(hE:Dg P K n)(w:World){ks ls:List Int}(h1:ks.length=n)(h2:ls.length=n):(Op.equal K (Ha ks) (Ha ls)).run P w=.ok (decide (ks=ls)) w:=by
 have:=hE.2 w (ks.map (C.int .i64)) (ls.map (C.int .i64)) _ (pK (by omega)) (by simpa using h1);rw[qK,qK]at this;exact this
def Db(n:Nat)(m:MP):Prop:=∀p∈m,p.1.length=n
theorem uK(hE:Dg P K n)(w:World){ks:List Int}(hk:ks.length=n):∀(m:MP) (j i:Nat),Db n m ->
  (Instr.findAsking K (Ha ks) (Ua j m) i).run P w=.ok ((Xb m ks i).map λq=>(q.1,Value.int .i64 q.2)) w
 |[],j,i,_=>by simp[Ua,Instr.findAsking,Xb]
 |p::r,j,i,hm=>by
  have h1:=sK hE w hk (hm p (by simp));simp only[Ua,Instr.findAsking,Sem.run_bind,Xb];show((Op.equal K (Ha ks) (Ha p.1)).run P w).andThen _=_;rw[h1,Result.andThen_ok];by_cases e:p.1=ks
  .simp[e,Ob]
  .have e':¬ ks=p.1:=λh=>e h.symm;simp only[e',decide_false,e,if_false,Bool.false_eq_true];exact uK hE w hk r (j+1) (i+1) (λq hq=>hm q (by simp[hq]))
theorem vK(hE:Dg P K n){fs:Array Field}(hu:P.underlying K=some (.struct fs))(w:World){ks:List Int}(hk:ks.length=n)(m:MP)(hm:Db n m) :
  (Instr.findKey K (Ha ks) (Ua 0 m)).run P w=.ok ((Xb m ks 0).map λq=>(q.1,Value.int .i64 q.2)) w:=by
 unfold Instr.findKey;simp only[Sem.run_bind,run_underlying hu,Result.andThen_ok];cases m with
 |nil=>simp[Ua,Instr.findNow,Xb]
 |cons p r=>
  have:Instr.findNow (.struct fs) (Ha ks) (Ua 0 (p::r)) 0=none:=by simp[Ua,Instr.findNow,Instr.sameNow]
  rw[this];exact uK hE w hk _ 0 0 hm
def jE(P:Program)(K n:Nat):Prop:=∀(b:Bool) (w:World) (ks:List Int),ks.length=n->(Instr.checkKey b 10000 K (Ha ks)).run P w=.ok () w
theorem wK:∀(ks:List Int),(Ec ks).zip (Ec ks) |>.all (λ(x,y)=>Instr.sameBits 9999 x y)
 |[]=>rfl
 |a::r=>by
  simp only[Ec,List.map_cons,List.zip_cons_cons,List.all_cons,Bool.and_eq_true];exact⟨by simp[Instr.sameBits],wK r⟩
theorem xK(w:World)(ks:List Int):(Instr.keyThatStays (Ha ks) (Ha ks)).run P w=.ok (Ha ks) w:=by
 have:Instr.sameBits 10000 (Ha ks) (Ha ks)=true:=by
  show((Ec ks).toArray.size == (Ec ks).toArray.size&&_)=true;simp only[BEq.rfl,Bool.true_and];exact wK ks
 simp[Instr.keyThatStays,this]
structure kE(P:Program)(T K E n:Nat):Prop where
 u:P.underlying T=some (.map K E)
 k:∃fs,P.underlying K=some (.struct fs)
 eq:Dg P K n
 ck:jE P K n
 z:∀w,(zeroValue E).run P w=.ok (.int .i64 0) w
variable {T E:Nat} (M:kE P T K E n) {w:World}{r:Nat}{m:MP} (hr:w.heap[r]? = some (oa m)) (hm:Db n m) {ks:List Int} (hk:ks.length=n)
include M hr
include hm hk
theorem Ps:(Instr.lookup T (.map (some r)) (Ha ks) false).run P w=.ok (.int .i64 (Xa m ks)) w:=by
 obtain⟨fs,hu⟩:=M.k;have h1:=vK M.eq hu w hk m hm;have h2:∀b,(Instr.checkKey b 10000 K (Ha ks)).run P w=.ok () w:=λb=>M.ck b w ks hk;have hg:(getObj r).run P w=.ok (oa m) w:=by simp[getObj,Sem.run,hr,oa]
 unfold Instr.lookup;simp only[Sem.run_bind,run_underlying M.u,Result.andThen_ok,hg];simp only[oa,Sem.run_bind,Sem.run_pure,Result.andThen_ok,h2,h1];unfold Xa;cases hl:Xb m ks 0 with
 |none=>simp[M.z w]
 |some q=>simp
theorem yK:(Instr.mapEntry T (.map (some r)) (Ha ks)).run P w=.ok (.tuple #[.int .i64 (Xa m ks),goInt (stp m ks)]) (Vc w r (oa (oc m ks))):=by
 obtain⟨fs,hu⟩:=M.k;have h1:=vK M.eq hu w hk m hm;have h2:∀b,(Instr.checkKey b 10000 K (Ha ks)).run P w=.ok () w:=λb=>M.ck b w ks hk;have hg:(getObj r).run P w=.ok (oa m) w:=by simp[getObj,Sem.run,hr,oa]
 have hs:∀o,(setObj r o).run P w=.ok () (Vc w r o):=λo=>by simp[setObj,Sem.run,hr,oa,Vc]
 unfold Instr.mapEntry;simp only[Sem.run_bind,run_underlying M.u,Result.andThen_ok,hg];simp only[oa,Sem.run_bind,Result.andThen_ok,h2,h1];unfold Xa stp oc;cases hl:Xb m ks 0 with
 |none=>
  simp only[Option.map_none,Sem.run_bind,M.z w,Result.andThen_ok,hs,Sem.run_pure]
  have:oa (m++[(ks,0)])=.map ((Ua 0 m).toArray.push { key:=Ha ks,val:=.int .i64 0,born:=m.length }) (m.length+1):=by
   unfold oa;rw[nK];simp[Ua,Ob]
  rw[<-oa,this]
 |some q=>
  obtain⟨i,v⟩:=q;obtain⟨_,hi⟩:=im hl;rw[Nat.sub_zero]at hi
  have he:(Ua 0 m).toArray[i]? = some (Ob i (ks,v)):=by
   have:=Ns 0 m i;rw[hi]at this;simpa using this
  simp only[Option.map_some,Sem.run_bind,he,Option.getD_some];have ho:=xK (P:=P) w ks;have hj:(Ob i (ks,v)).key=Ha ks:=rfl;rw[hj,ho,Result.andThen_ok]
  have hn:((Ua 0 m).toArray.modify i λe=>{ e with key:=Ha ks })=(Ua 0 m).toArray:=by
   apply Array.ext';apply List.ext_getElem?;intro j;simp only[Array.toList_modify,List.getElem?_modify];by_cases hij:i=j
   .subst hij;have hh:(Ua 0 m)[i]? = some (Ob i (ks,v)):=by simpa using he
    simp[hh,Ob]
   .simp[hij]
  rw[hn,hs,Result.andThen_ok];simp[Ob]
omit hm hk in
theorem zK{i:Nat}(hi:i<m.length)(v:Int):(Instr.entryStore T (.map (some r)) (goInt i) (.int .i64 v)).run P w=.ok () (Vc w r (oa (jd m i v))):=by
 have _:=M;have hg:(getObj r).run P w=.ok (oa m) w:=by simp[getObj,Sem.run,hr,oa]
 have hs:∀o,(setObj r o).run P w=.ok () (Vc w r o):=λo=>by simp[setObj,Sem.run,hr,oa,Vc]
 have hj:∀(m:MP) (j i:Nat),i<m.length->(Ua j m).findIdx? (λe=>(e.born:Int) == ((j+i:Nat):Int))=some i:=by
  intro m
  induction m with
  |nil=>intro j i h;simp at h
  |cons p q ih=>
   intro j i h;cases i with
   |zero=>simp[Ua,Ob,List.findIdx?_cons]
   |succ i=>
    have h2:=ih (j+1) i (by simpa using h);simp only[Ua,List.findIdx?_cons];rw[show j+(i+1)=j+1+i by omega]
    have hn:(((Ob j p).born:Int) == ((j+1+i:Nat):Int))=false:=by
     have:((Ob j p).born:Int)=(j:Int):=rfl;rw[this];simp;omega
    rw[hn,h2];rfl
 have hk:(Ua 0 m).toArray.findIdx? (λe=>(e.born:Int) == (i:Int))=some i:=by
  have:=hj m 0 i hi;simpa using this
 unfold Instr.entryStore;have hh:(asInt (goInt i)).run P w=.ok (i:Int) w:=by simp[asInt,asIntOf,goInt]
 simp only[Sem.run_bind,hg,Result.andThen_ok,oa,hh,hk,hs]
 have hm:((Ua 0 m).toArray.modify i λe=>{ e with val:=.int .i64 v })=(Ua 0 (jd m i v)).toArray:=by
  have hl:∀(m:MP) (j i k:Nat),(Ua j (jd m i v))[k]? = if i=k then((Ua j m)[k]?).map (λe=>{ e with val:=.int .i64 v }) else(Ua j m)[k]?:=by
   intro m
   induction m with
   |nil=>intro j i k;simp[jd,Ua]
   |cons p q ih=>
    intro j i k;cases i with
    |zero=>cases k<;>simp[jd,Ua,Ob]
    |succ i=>
     cases k with
     |zero=>simp[jd,Ua]
     |succ k=>
      simp only[jd,Ua,List.getElem?_cons_succ,ih (j+1) i k];simp
  apply Array.ext';apply List.ext_getElem?;intro k;simp only[Array.toList_modify,List.getElem?_modify];rw[hl m 0 i k];by_cases h:i=k<;>simp[h]
 have hlen:∀(m:MP) (i:Nat),(jd m i v).length=m.length:=by
  intro m
  induction m with
  |nil=>intro i;rfl
  |cons p q ih=>intro i;cases i<;>simp[jd,ih]
 rw[hm,hlen]
end
def vb(r:Nat)(m:MP)(S:List Nat):Obj:=.mapIter (some r) m.length S.toArray m.length
section
variable {P:Program}{w:World}{r it:Nat}{m:MP} (hr:w.heap[r]? = some (oa m)) {S:List Nat} (hit:w.heap[it]? = some (vb r m S))
include hr hit
theorem BK(t:Nat):((∀i,i<m.length->i∈S)/\(Instr.next (.pointer (some ⟨it,0,none⟩)) false t).run P w=.ok (.tuple #[.bool false]) w) \/
  ∃i p n,i ∉ S/\m[i]? = some p/\(Instr.next (.pointer (some ⟨it,0,none⟩)) false t).run P w=.ok (.tuple #[.bool true,Ha p.1,.int .i64 p.2]) (Vc { w with drawn:=n } it (vb r m (S++[i]))):=by
 have hg:(getObj r).run P w=.ok (oa m) w:=by simp[getObj,Sem.run,hr,oa]
 have hn:(getObj it).run P w=.ok (vb r m S) w:=by simp[getObj,Sem.run,hit,vb]
 have hs:∀(n:Nat) o,(setObj it o).run P { w with drawn:=n }=.ok () (Vc { w with drawn:=n } it o):=λn o=>by simp[setObj,Sem.run,hit,vb,Vc]
 let L0:=(Ua 0 m).filter λe=>!S.toArray.contains e.born;have hh:(Ua 0 m).filter (λe=>!S.toArray.contains e.born)=L0:=rfl
 have hold:L0.filter (λe=>decide (e.born<m.length))=L0:=by
  apply List.filter_eq_self.2;intro e he;obtain⟨i,p,hp,rfl⟩:=iE (List.mem_filter.1 he).1;have:=(List.getElem?_eq_some_iff.1 hp).1;simp[Ob,this]
 have hu:L0.filter (λe=>decide (e.born >= m.length))=[]:=by
  apply List.filter_eq_nil_iff.2;intro e he;obtain⟨i,p,hp,rfl⟩:=iE (List.mem_filter.1 he).1;have:=(List.getElem?_eq_some_iff.1 hp).1;simp[Ob];omega
 have ho:(!S.toArray.isEmpty&&!(Ua 0 m).toArray.isEmpty&&(Ua 0 m).toArray.all (λe=>decide (e.born >= m.length)))=false:=by
  cases hm:m with
  |nil=>simp[Ua]
  |cons p q=>simp[Ua,Ob]
 have hv:(Instr.next (.pointer (some ⟨it,0,none⟩)) false t).run P w =
   (do let c <-choose (.mapNext ((if L0.isEmpty then #[none] else #[])++(L0.map some).toArray:Array (Option MapEntry)).size)
       match(((if L0.isEmpty then #[none] else #[])++(L0.map some).toArray:Array (Option MapEntry)))[c]? with
       |some (some e)=>do
        setObj it (.mapIter (some r) m.length (S.toArray.push e.born) m.length)
        pure (Value.tuple #[.bool true,e.key,e.val])
       |some none=>pure (.tuple #[.bool false])
       |none=>stuck "Next: no such candidate" : Sem Value).run P w:=by
  unfold Instr.next;simp only[Sem.run_bind,hn,Result.andThen_ok,vb,hg,oa,ho,Bool.false_eq_true,if_false];simp only[List.filter_toArray,hh,hold,hu,List.append_toArray,List.append_nil,List.map_toArray,List.isEmpty_toArray];rfl
 have ht:∀e∈L0,∃i p,m[i]? = some p/\e=Ob i p/\i ∉ S:=by
  intro e he;obtain⟨h1,h2⟩:=List.mem_filter.1 he;obtain⟨i,p,hp,rfl⟩:=iE h1;rw[Nat.zero_add]at h2⊢;refine⟨i,p,hp,rfl,?_⟩;simpa [Ob] using h2
 rw[hv];cases hL:L0 with
 |nil=>
  left;refine⟨λi hi=>?_,?_⟩
  .by_cases hiS:i∈S
   .exact hiS
   .exfalso
    have hq:Ob i m[i]∈L0:=by
     refine List.mem_filter.2 ⟨List.mem_iff_getElem?.2 ⟨i,by rw[Ns,List.getElem?_eq_getElem hi];simp⟩,?_⟩;simp[Ob,hiS]
    rw[hL]at hq;simp at hq
  .simp[choose,Sem.run,Question.forced]
 |cons e0 l=>
  right
  have hj:∃c n,c<(e0::l).length/\∀(k:Nat->Sem Value),((choose (.mapNext (e0::l).length)) >>= k).run P w=(k c).run P { w with drawn:=n }:=by
   cases hf:(Question.mapNext (e0::l).length).forced with
   |true=>exact⟨0,w.drawn,by simp,λk=>by show(if _ then _ else _)=_;rw[if_pos hf];rfl⟩
   |false=>
    refine⟨(Question.mapNext (e0::l).length).cut (w.tape w.drawn (.mapNext (e0::l).length)),w.drawn+1,?_,λk=>by show(if _ then _ else _)=_;rw[if_neg (by rw[hf];simp)];rfl⟩;exact Nat.mod_lt _ (by simp)
  obtain⟨c,n,hc,hk⟩:=hj;obtain⟨i,p,hp,he,hi⟩:=ht ((e0::l)[c]) (by rw[hL];exact List.getElem_mem hc);refine⟨i,p,n,hi,hp,?_⟩;have hsz:((if(e0::l).isEmpty then #[none] else #[])++((e0::l).map some).toArray:Array (Option MapEntry)).size=(e0::l).length:=by simp
  have hl:((if(e0::l).isEmpty then #[none] else #[])++((e0::l).map some).toArray:Array (Option MapEntry))[c]? = some (some (Ob i p)):=by
   rw[<-he];simp only[List.isEmpty_cons,Bool.false_eq_true,if_false,Array.empty_append,List.getElem?_toArray,List.getElem?_map,List.getElem?_eq_getElem hc,Option.map_some]
  rw[hsz,hk];simp only[hl,Sem.run_bind,hs,Result.andThen_ok,Sem.run_pure];simp[Ob,vb]
theorem CK{i:Nat}{p:List Int×Int}(hp:m[i]? = some p)(hS:∃S',S=S'++[i]):(Instr.entry (.pointer (some ⟨it,0,none⟩))).run P w=.ok (.tuple #[Ha p.1,.int .i64 p.2]) w:=by
 obtain⟨S',rfl⟩:=hS;have hg:(getObj r).run P w=.ok (oa m) w:=by simp[getObj,Sem.run,hr,oa]
 have hj:(getObj it).run P w=.ok (vb r m (S'++[i])) w:=by simp[getObj,Sem.run,hit,vb]
 have hh:∀(m:MP) (j i:Nat),m[i]? = some p->(Ua j m).find? (λe=>e.born == j+i)=some (Ob (j+i) p):=by
  intro m
  induction m with
  |nil=>intro j i h;simp at h
  |cons q r ih=>
   intro j i h;cases i with
   |zero=>simp at h;subst h;simp[Ua,Ob]
   |succ i=>
    have h2:=ih (j+1) i (by simpa using h);simp only[Ua,List.find?_cons];rw[show j+(i+1)=j+1+i by omega]
    have hk:((Ob j q).born == j+1+i)=false:=by
     show(j == j+1+i)=false;simp;omega
    rw[hk,h2]
 have hi:(Ua 0 m).toArray.find? (λe=>e.born == i)=some (Ob i p):=by
  have:=hh m 0 i hp;simpa using this
 unfold Instr.entry;simp only[Sem.run_bind,hj,Result.andThen_ok,vb];simp[hi,hg,oa,Ob]
end
section
variable {P:Program}
def CkP(P:Program)(d t n:Nat):Prop:=∀(b:Bool) (w:World) (cs:List Int) (off:Nat),((cs.drop off).take n).length=n ->
 ∃x,(Go.part t (Ec cs).toArray off).run P w=.ok x w/\(Instr.checkKey b d t x).run P w=.ok () w
theorem dV{d t:Nat}{k:IntKind}(hu:P.underlying t=some (.int k)):CkP P (d+1) t 1:=by
 intro b w cs hh hl;cases hc:cs.drop hh with
 |nil=>rw[hc]at hl;simp at hl
 |cons c cr=>
  have h1:cs[hh]? = some c:=by
   have:=List.getElem?_drop (xs:=cs) (i:=hh) (j:=0);rw[hc]at this;simpa using this.symm
  refine⟨.int .i64 c,?_,?_⟩
  .simp[Go.part,Go.isAgg,run_underlying hu,Ec,h1]
  .simp[Instr.checkKey,run_underlying hu]
theorem DK{d:Nat}{sz:Nat->Option Nat}(hsz:∀t n,sz t=some n->CkP P d t n)(b:Bool)(w:World)(cs:List Int):∀ {fs:List Field}{o n:Nat},dg sz fs o=some n->((cs.drop o).take (n - o)).length=n - o ->
  (forIn (m:=Sem) fs PUnit.unit λf _=>(if f.name≠"_" then do Instr.checkKey b d f.type (<-Go.part f.type (Ec cs).toArray f.offset);pure (ForInStep.yield PUnit.unit) else pure (ForInStep.yield PUnit.unit))).run P w=.ok PUnit.unit w
 |[],o,n,_,_=>by simp
 |f::fs,o,n,h,hl=>by
  simp only[dg]at h;split at h
  .rename_i k hc hk;simp only[Bool.and_eq_true,bne_iff_ne,ne_eq]at hc;have ho:=Nat.eq_of_beq_eq_true hc.1;have hi:=aE h
   have hj:∀l:List Int,(l.drop o).take (n - o)=(l.drop o).take k++(l.drop (o+k)).take (n - (o+k)):=λl=>by
    rw[show n - o=k+(n - (o+k)) by omega,List.take_add,List.drop_drop]
   rw[hj cs]at hl
   have hh:((cs.drop o).take k).length=k/\((cs.drop (o+k)).take (n - (o+k))).length=n - (o+k):=by
    rw[List.length_append]at hl;have h1:((cs.drop o).take k).length<=k:=by simp;omega
    have h2:((cs.drop (o+k)).take (n - (o+k))).length<=n - (o+k):=by simp;omega
    omega
   obtain⟨x,p1,p2⟩:=hsz f.type k hk b w cs o hh.1;have ih:=DK hsz b w cs h hh.2;simp only[List.forIn_cons,Sem.run_bind,ne_eq,hc.2,not_false_eq_true,if_true,ho,p1,p2,Result.andThen_ok,Sem.run_pure];exact ih
  .cases h
theorem FK:∀(m t n d:Nat),fg P m t=some n->CkP P (d+m) t n
 |0,_,_,_,h=>by simp[fg]at h
 |m+1,t,n,d,h=>by
  simp only[fg]at h;split at h
  .rename_i k i hu hi;simp only[Option.some.injEq]at h;subst h;exact dV (d:=d+m) hu
  .rename_i fs i hu hi;split at h
   .rename_i n' hs hf;split at h
    .rename_i hn;simp only[Option.some.injEq]at h;subst h;have hn:=Nat.eq_of_beq_eq_true hn;intro b w cs hh hl
     have hex:((Ec cs).toArray.extract hh (hh+n'))=(Ec ((cs.drop hh).take n')).toArray:=by
      apply Array.ext';simp[Ec,List.map_drop,List.map_take]
     refine⟨.agg (Ec ((cs.drop hh).take n')).toArray,?_,?_⟩
     .rw[<-hex];simp[Go.part,Go.isAgg,run_underlying hu,sizeOf,typeInfo,hi,hn]
     .have hk:=DK (λt n h=>FK m t n d h) b w ((cs.drop hh).take n') (fs:=fs.toList) hf (by rw[Nat.sub_zero,List.drop_zero,List.take_take,Nat.min_self];exact hl);rw[show d+(m+1)=(d+m)+1 from rfl];simp only[Instr.checkKey,Sem.run_bind,run_underlying hu,Result.andThen_ok];rw[<-Array.forIn_toList];rw[hk];rfl
    .cases h
   .cases h
  .cases h
theorem lE{K n:Nat}{fs:Array Field}(hu:P.underlying K=some (.struct fs)){i:TypeInfo}(hi:P.info? K=some i)(hin:i.size=n)(h:fg P 9 K=some n):jE P K n:=by
 intro b w ks hk;obtain⟨x,p1,p2⟩:=FK 9 K n 9991 h b w ks 0 (by simp;omega)
 have hex:((Ec ks).toArray.extract 0 n)=(Ec ks).toArray:=by
  apply Array.ext';simp[Ec,List.take_of_length_le (show(ks.map (Value.int .i64)).length<=n by simp;omega)]
 have hj:(Go.part K (Ec ks).toArray 0).run P w=.ok (Ha ks) w:=by
  have hh:Array.extract (Ec ks).toArray 0 n=(Ec ks).toArray:=hex;simp only[Go.part,Go.isAgg,run_underlying hu,sizeOf,typeInfo,hi,hin,Sem.run_bind,Sem.run_pure,Result.andThen_ok,Nat.zero_add,if_true,run_program];simp[hh,Ha]
 rw[hj]at p1;cases p1;exact p2
end
def stepM(m:MP)(q:List Int×Int):MP:=jd (oc m q.1) (stp m q.1) (ar .add .i64 (Xa m q.1) q.2)
def Sa(l:List (List Int×Int)):MP:=l.foldl stepM []
def na(m:MP):List (List Int):=m.map (·.1)
theorem mE:∀(m:MP) (i:Nat) (v:Int),na (jd m i v)=na m
 |[],_,_=>rfl
 |_::_,0,_=>rfl
 |p::r,i+1,v=>by
  have:=mE r i v;simp only[na,jd,List.map_cons]at this⊢;rw[this]
theorem eV(m:MP)(ks:List Int):na (oc m ks)=if ks∈na m then na m else na m++[ks]:=by
 unfold oc;cases h:Xb m ks 0 with
 |some q=>
  obtain⟨i,v⟩:=q;obtain⟨_,h2⟩:=im h;have:ks∈na m:=List.mem_map.2 ⟨_,List.mem_of_getElem? h2,rfl⟩;simp[this]
 |none=>
  have h2:=oK h
  have:ks ∉ na m:=λhm=>by
   obtain⟨p,hp,he⟩:=List.mem_map.1 hm;exact h2 p hp he
  rw[if_neg this];simp[na]
theorem Qs(m:MP)(q:List Int×Int):na (stepM m q)=if q.1∈na m then na m else na m++[q.1]:=by
 unfold stepM;rw[mE,eV]
theorem oE{m:MP}(h:(na m).Nodup)(q:List Int×Int):(na (stepM m q)).Nodup:=by
 rw[Qs];split
 .exact h
 .rename_i hn;rw[List.nodup_append];exact⟨h,by simp,λa ha b hb e=>by simp at hb;subst hb;subst e;exact hn ha⟩
theorem jm(l:List (List Int×Int)):(na (Sa l)).Nodup:=by
 unfold Sa
 suffices ∀(l:List (List Int×Int)) (m:MP),(na m).Nodup->(na (l.foldl stepM m)).Nodup from this l [] (by simp[na])
 intro l
 induction l with
 |nil=>exact λm h=>h
 |cons q r ih=>exact λm h=>ih _ (oE h q)
theorem fV(p:List Int×Int)(m:MP)(ks:List Int)(j:Nat):Xb (p::m) ks j=if p.1=ks then some (j,p.2) else Xb m ks (j+1):=rfl
theorem GK:∀(m:MP) (ks:List Int) (j:Nat),Xb m ks (j+1)=(Xb m ks j).map λq=>(q.1+1,q.2)
 |[],_,_=>rfl
 |p::r,ks,j=>by
  simp only[Xb];split
  .rfl
  .exact GK r ks (j+1)
theorem Cf(p:List Int×Int)(m:MP)(ks:List Int):Xa (p::m) ks=if p.1=ks then p.2 else Xa m ks:=by
 unfold Xa;rw[fV,GK];by_cases h:p.1=ks
 .simp[h]
 .simp only[h,if_false];cases Xb m ks 0<;>simp
theorem gV(m:MP)(ks ls:List Int):Xa (m++[(ks,0)]) ls=Xa m ls:=by
 induction m with
 |nil=>simp[Xa,Xb];split<;>simp_all
 |cons p r ih=>rw[List.cons_append,Cf,Cf,ih]
theorem IK(m:MP)(ks ls:List Int):Xa (oc m ks) ls=Xa m ls:=by
 unfold oc;split
 .rfl
 .exact gV m ks ls
theorem JK:∀ {m:MP}{i:Nat}{ks:List Int}{v0:Int} (v:Int),(na m).Nodup->m[i]? = some (ks,v0)->∀ls,Xa (jd m i v) ls=if ls=ks then v else Xa m ls
 |[],_,_,_,_,_,h,_=>by simp at h
 |p::r,0,ks,v0,v,_,h,ls=>by
  simp at h;subst h;simp only[jd,Cf];by_cases e:ks=ls
  .simp[e]
  .simp[e,Ne.symm e]
 |p::r,i+1,ks,v0,v,hn,h,ls=>by
  have h':r[i]? = some (ks,v0):=by simpa using h
  have hh:p.1 ∉ na r/\(na r).Nodup:=by simpa [na] using hn
  have ih:=JK v hh.2 h' ls;simp only[jd,Cf,ih];by_cases e:p.1=ls
  .have:ls≠ks:=λe2=>hh.1 (by rw[e,e2];exact List.mem_map.2 ⟨_,List.mem_of_getElem? h',rfl⟩);simp[e,this]
  .simp[e]
theorem LK(m:MP)(ks:List Int):∃v0,(oc m ks)[stp m ks]? = some (ks,v0):=by
 unfold oc stp;cases h:Xb m ks 0 with
 |some q=>
  obtain⟨i,v⟩:=q;obtain⟨_,h2⟩:=im h;exact⟨v,by simpa using h2⟩
 |none=>exact⟨0,by simp⟩
theorem iV{m:MP}(hn:(na m).Nodup)(q:List Int×Int)(ls:List Int):Xa (stepM m q) ls=if ls=q.1 then ar .add .i64 (Xa m q.1) q.2 else Xa m ls:=by
 obtain⟨v0,h⟩:=LK m q.1
 have hh:(na (oc m q.1)).Nodup:=by
  have:=oE hn q;unfold stepM at this;rwa [mE]at this
 unfold stepM;rw[JK _ hh h,IK]
theorem qE{m:MP}{ks:List Int}(h:ks ∉ na m):Xa m ks=0:=by
 unfold Xa;cases hl:Xb m ks 0 with
 |none=>rfl
 |some q=>
  obtain⟨i,v⟩:=q;obtain⟨_,h2⟩:=im hl;exact absurd (List.mem_map.2 ⟨_,List.mem_of_getElem? h2,rfl⟩) h
theorem Rs{m:MP}(hn:(na m).Nodup){p:List Int×Int}(h:p∈m):Xa m p.1=p.2:=by
 induction m with
 |nil=>simp at h
 |cons q r ih=>
  rw[Cf];have hh:q.1 ∉ na r/\(na r).Nodup:=by simpa [na] using hn
  rcases List.mem_cons.1 h with rfl|h
  .simp
  .have:q.1≠p.1:=λe=>hh.1 (e▸List.mem_map.2 ⟨p,h,rfl⟩);simp[this,ih hh.2 h]
def Df(l:List (List Int×Int))(ks:List Int):Int:=l.foldl (λs q=>if q.1=ks then ar .add .i64 s q.2 else s) 0
theorem rE(l:List (List Int×Int))(ks:List Int):Xa (Sa l) ks=Df l ks:=by
 unfold Sa Df
 suffices ∀(l:List (List Int×Int)) (m:MP),(na m).Nodup->Xa (l.foldl stepM m) ks=l.foldl (λs q=>if q.1=ks then ar .add .i64 s q.2 else s) (Xa m ks) by
  have:=this l [] (by simp[na]);simpa [Xa,Xb] using this
 intro l
 induction l with
 |nil=>exact λm _=>rfl
 |cons q r ih=>
  intro m hn;simp only[List.foldl_cons];rw[ih _ (oE hn q),iV hn]
  congr 1
  by_cases h:q.1=ks
  .simp[h]
  .simp[h,Ne.symm h]
def ltK:List Int->List Int->Bool
 |a::r,b::r'=>decide (a<b)||(decide (a=b)&&ltK r r')
 |_,_=>false
theorem Ef:∀a,ltK a a=false
 |[]=>rfl
 |a::r=>by simp[ltK,Ef r]
theorem Fg:∀ {a b c:List Int},ltK a b=true->ltK b c=true->ltK a c=true
 |a::r,b::r',c::r'',h1,h2=>by
  simp only[ltK,Bool.or_eq_true,Bool.and_eq_true,decide_eq_true_eq]at h1 h2⊢;rcases h1 with h1|⟨rfl,h1⟩<;>rcases h2 with h2|⟨rfl,h2⟩
  .left;omega
  .left;exact h1
  .left;exact h2
  .right;exact⟨rfl,Fg h1 h2⟩
 |[],_,_,h1,_=>by simp[ltK]at h1
 |_::_,[],_,h1,_=>by simp[ltK]at h1
 |_::_,_::_,[],_,h2=>by simp[ltK]at h2
theorem Ss:∀ {a b:List Int},a.length=b.length->a≠b->ltK a b=true\/ltK b a=true
 |[],[],_,h=>absurd rfl h
 |a::r,b::r',hl,h=>by
  simp only[ltK,Bool.or_eq_true,Bool.and_eq_true,decide_eq_true_eq];by_cases e:a=b
  .subst e;rcases Ss (a:=r) (b:=r') (by simpa using hl) (λe=>h (by rw[e])) with h|h
   .exact .inl (.inr ⟨rfl,h⟩)
   .exact .inr (.inr ⟨rfl,h⟩)
  .rcases Int.lt_or_gt_of_ne e with h|h
   .exact .inl (.inl h)
   .exact .inr (.inl h)
 |[],_::_,hl,_=>by simp at hl
 |_::_,[],hl,_=>by simp at hl
def Mi(p:List Int×Int):MP->MP
 |[]=>[p]
 |q::r=>if ltK p.1 q.1 then p::q::r else q::Mi p r
def Tj:MP->MP
 |[]=>[]
 |p::r=>Mi p (Tj r)
theorem tE(p:List Int×Int):∀m:MP,(Mi p m).Perm (p::m)
 |[]=>.refl _
 |q::r=>by
  simp only[Mi];split
  .exact .refl _
  .exact ((tE p r).cons q).trans (.swap p q r)
theorem lm:∀m:MP,(Tj m).Perm m
 |[]=>.refl _
 |p::r=>(tE p (Tj r)).trans ((lm r).cons p)
abbrev Asc(m:MP):Prop:=m.Pairwise λp q=>ltK p.1 q.1=true
theorem MK{n:Nat}{p:List Int×Int}:∀ {m:MP},Asc m->Db n m->p.1.length=n->p.1 ∉ na m->Asc (Mi p m)
 |[],_,_,_,_=>by simp[Mi]
 |q::r,h,hk,hp,hn=>by
  simp only[Mi];have h':=List.pairwise_cons.1 h;split
  .rename_i hlt;refine List.pairwise_cons.2 ⟨λs hs=>?_,h⟩;rcases List.mem_cons.1 hs with rfl|hs
   .exact hlt
   .exact Fg hlt (h'.1 s hs)
  .rename_i hlt;have hh:p.1≠q.1:=λe=>hn (by simp[na,e]);have hi:ltK q.1 p.1=true:=(Ss (by rw[hp,hk q (by simp)]) hh).elim (λh=>absurd h hlt) id;refine List.pairwise_cons.2 ⟨λs hs=>?_,MK h'.2 (λs hs=>hk s (by simp[hs])) hp (λhm=>hn (by simp only[na,List.map_cons,List.mem_cons];exact .inr hm))⟩;rcases List.mem_cons.1 ((tE p r).mem_iff.1 hs) with rfl|hs
   .exact hi
   .exact h'.1 s hs
theorem Ts{n:Nat}:∀ {m:MP},(na m).Nodup->Db n m->Asc (Tj m)
 |[],_,_=>by simp[Tj]
 |p::r,hn,hk=>by
  have hn':p.1 ∉ na r/\(na r).Nodup:=by simpa [na] using hn
  have hp:=lm r;refine MK (Ts hn'.2 (λs hs=>hk s (by simp[hs]))) (λs hs=>hk s (by simp[hp.mem_iff.1 hs])) (hk p (by simp)) (λhm=>hn'.1 ?_);obtain⟨s,hs,e⟩:=List.mem_map.1 hm;exact List.mem_map.2 ⟨s,hp.mem_iff.1 hs,e⟩
theorem uE:∀ {a b:MP},a.Perm b->Asc a->Asc b->a=b
 |[],b,hp,_,_=>(List.nil_perm.1 hp).symm
 |x::a,[],hp,_,_=>(List.perm_nil.1 hp)
 |x::a,y::b,hp,ha,hb=>by
  have ha':=List.pairwise_cons.1 ha;have hh:=List.pairwise_cons.1 hb
  have hi:x=y:=by
   rcases List.mem_cons.1 (hp.mem_iff.1 (List.mem_cons_self ..)) with h|h
   .exact h
   .rcases List.mem_cons.1 (hp.mem_iff.2 (List.mem_cons_self ..)) with h2|h2
    .exact h2.symm
    .have h3:=Fg (hh.1 x h) (ha'.1 y h2);rw[Ef]at h3;cases h3
  subst hi;rw[uE (List.perm_cons x |>.1 hp) ha'.2 hh.2]
def qc(l:List (List Int×Int)):MP:=Tj ((Sa l).filter λp=>p.2 != 0)
theorem Ni{n:Nat}{l:List (List Int×Int)}(hk:Db n l):Asc (qc l):=by
 have hh:Db n (Sa l):=by
  have key:∀(l:List (List Int×Int)) (m:MP),Db n l->(∀k∈na m,k.length=n)->∀k∈na (l.foldl stepM m),k.length=n:=by
   intro l
   induction l with
   |nil=>exact λm _ h=>h
   |cons q r ih=>
    intro m hl hm;refine ih _ (λp hp=>hl p (by simp[hp])) (λk hk=>?_);rw[Qs]at hk;split at hk
    .exact hm k hk
    .rcases List.mem_append.1 hk with hk|hk
     .exact hm k hk
     .simp at hk;subst hk;exact hl q (by simp)
  intro p hp;exact key l [] hk (by simp[na]) p.1 (List.mem_map.2 ⟨p,hp,rfl⟩)
 refine Ts (n:=n) ?_ (λp hp=>hh p (List.mem_filter.1 hp).1);exact(jm l).sublist (List.Sublist.map _ List.filter_sublist)
theorem Ye{l:List (List Int×Int)}{p:List Int×Int}:p∈qc l↔p.2=Df l p.1/\p.2≠0:=by
 unfold qc;rw[(lm _).mem_iff,List.mem_filter];constructor
 .rintro⟨h1,h2⟩;exact⟨by rw[<-rE,Rs (jm l) h1],by simpa using h2⟩
 .rintro⟨h1,h2⟩;refine⟨?_,by simpa using h2⟩;by_cases hm:p.1∈na (Sa l)
  .obtain⟨q,hq,e⟩:=List.mem_map.1 hm;have:=Rs (jm l) hq;rw[rE,e,<-h1]at this;have:q=p:=Prod.ext e this.symm;rwa [this]at hq
  .exact absurd (by rw[h1,<-rE,qE hm]) h2
def opsOf:Code->Array Oper
 |.region _ ops _=>ops
 |_=>#[]
def Gg:Code->Nat
 |.region i _ _=>i
 |_=>0
def opN(ops:Array Oper)(i:Nat):Oper:=(ops[i]?).getD default
def Hg(o:Oper)(j:Nat):Bool:=o.after.toList.any λe=>Nat.beq e.on j&&Region.binds .any e
theorem Uj{o:Oper}{L:Nat->Bool}(h:∀e∈o.after,Region.binds .any e=true->L e.on=true){j:Nat}(hj:Hg o j=true):L j=true:=by
 unfold Hg at hj;rw[List.any_eq_true]at hj;obtain⟨e,he,hb⟩:=hj;simp only[Bool.and_eq_true]at hb;have:=h e (by simpa using he) hb.2;rwa [Nat.eq_of_beq_eq_true hb.1]at this
theorem Vj{ops:Array Oper}{i:Nat}{o:Oper}(h:ops[i]? = some o):opN ops i=o:=by
 unfold opN;rw[h];rfl
section
variable {P:Program}{a:Act}{w:World}{o:Oper}
theorem Ld{o:Oper}{s:Sem Value}{v:Value}{w':World}(h:execOp a.eval o=(do pure (.value (<-s))))(hr:s.run P w=.ok v w'):(execOp a.eval o).run P w=.ok (.value v) w':=by
 rw[h];simp[hr]
theorem NK{o:Oper}{s:Sem Unit}{w':World}(h:execOp a.eval o=(do s;pure .skip))(hr:s.run P w=.ok () w'):(execOp a.eval o).run P w=.ok .skip w':=by
 rw[h];simp[hr]
theorem Ae{s:Nat}(hop:o.op=.move (.tmp s)):(execOp a.eval o).run P w=.ok (.value (a.tmps.getD s undef)) w:=by
 obtain⟨hh,op,ty,pos,aft,gd⟩:=o;simp only[]at hop;subst hop;simp[execOp,Act.eval]
theorem Us{s:Nat}(hop:o.op=.assign (.tmp s)):(execOp a.eval o).run P w=.ok (.value (a.tmps.getD s undef)) w:=by
 obtain⟨hh,op,ty,pos,aft,gd⟩:=o;simp only[]at hop;subst hop;simp[execOp,Act.eval]
theorem vE{t:Nat}(hop:o.op=.makeMap t none):(execOp a.eval o).run P w=.ok (.value (.map (some w.heap.size))) (w.alloc (.map #[] 0)):=by
 obtain⟨hh,op,ty,pos,aft,gd⟩:=o;simp only[]at hop;subst hop;exact Ld (s:=Instr.makeMap t none) rfl rfl
theorem Vs{t x k:Nat}(hop:o.op=.lookup t (.tmp x) (.tmp k) false){v:Value}(h:(Instr.lookup t (a.tmps.getD x undef) (a.tmps.getD k undef) false).run P w=.ok v w):(execOp a.eval o).run P w=.ok (.value v) w:=by
 obtain⟨hh,op,ty,pos,aft,gd⟩:=o;simp only[]at hop;subst hop;exact Ld (s:=Instr.lookup t (a.tmps.getD x undef) (a.tmps.getD k undef) false) rfl h
theorem PK{t x k:Nat}(hop:o.op=.mapEntry t (.tmp x) (.tmp k)){v:Value}{w':World}(h:(Instr.mapEntry t (a.tmps.getD x undef) (a.tmps.getD k undef)).run P w=.ok v w'):(execOp a.eval o).run P w=.ok (.value v) w':=by
 obtain⟨hh,op,ty,pos,aft,gd⟩:=o;simp only[]at hop;subst hop;exact Ld (s:=Instr.mapEntry t (a.tmps.getD x undef) (a.tmps.getD k undef)) rfl h
theorem QK{t x k v:Nat}(hop:o.op=.entryStore t (.tmp x) (.tmp k) (.tmp v)){w':World}(h:(Instr.entryStore t (a.tmps.getD x undef) (a.tmps.getD k undef) (a.tmps.getD v undef)).run P w=.ok () w'):(execOp a.eval o).run P w=.ok .skip w':=by
 obtain⟨hh,op,ty,pos,aft,gd⟩:=o;simp only[]at hop;subst hop;exact NK (s:=Instr.entryStore t (a.tmps.getD x undef) (a.tmps.getD k undef) (a.tmps.getD v undef)) rfl h
theorem RK{t x:Nat}(hop:o.op=.range t (.tmp x)){v:Value}{w':World}(h:(Instr.range t (a.tmps.getD x undef)).run P w=.ok v w'):(execOp a.eval o).run P w=.ok (.value v) w':=by
 obtain⟨hh,op,ty,pos,aft,gd⟩:=o;simp only[]at hop;subst hop;exact Ld (s:=Instr.range t (a.tmps.getD x undef)) rfl h
theorem Ws{x:Nat}(hop:o.op=.next (.tmp x) false){v:Value}{w':World}(h:(Instr.next (a.tmps.getD x undef) false o.type).run P w=.ok v w'):(execOp a.eval o).run P w=.ok (.value v) w':=by
 obtain⟨hh,op,ty,pos,aft,gd⟩:=o;simp only[]at hop h;subst hop;exact Ld (s:=Instr.next (a.tmps.getD x undef) false ty) rfl h
theorem SK{x:Nat}(hop:o.op=.entry (.tmp x)){v:Value}{w':World}(h:(Instr.entry (a.tmps.getD x undef)).run P w=.ok v w'):(execOp a.eval o).run P w=.ok (.value v) w':=by
 obtain⟨hh,op,ty,pos,aft,gd⟩:=o;simp only[]at hop;subst hop;exact Ld (s:=Instr.entry (a.tmps.getD x undef)) rfl h
theorem ig{x i:Nat}(hop:o.op=.extract (.tmp x) i){vs:Array Value}{v:Value}(hx:a.tmps.getD x undef=.tuple vs)(h:vs[i]? = some v):(execOp a.eval o).run P w=.ok (.value v) w:=by
 obtain⟨hh,op,ty,pos,aft,gd⟩:=o;simp only[]at hop;subst hop;exact Ld (s:=Instr.extract (a.tmps.getD x undef) i) rfl (by rw[hx];simp[Instr.extract,h])
theorem jV{t:Nat}{d:TD}(hd:Cb P t d){fs:List (Nat×Nat)}(hs:d.sh=.struct fs){i o n:Nat}(hi:fs[i]? = some (o,n))(b p:Nat):(Instr.fieldAt t (.pointer (some ⟨b,p,none⟩)) i).run P w=.ok (.pointer (some ⟨b,p+o,none⟩)) w:=by
 obtain⟨u,hu,hh⟩:=hd.und;rw[hs]at hh;obtain⟨fields,rfl,hf⟩:=hh;obtain⟨f,hj,hm,hl,ho⟩:=pJ hf hi;have hk:fields[i]? = some f:=by rw[<-Array.getElem?_toList];exact hj
 have hsz:=kD (P:=P) hl ho w;have hn:¬ n=0:=by omega
 simp[Instr.fieldAt,run_underlying hu,hk,Instr.sureAddr,fieldPlace,hsz,hn,addr_add,hm]
theorem Bh{t x i:Nat}(hop:o.op=.fieldAddr t (.tmp x) i){b c:Nat}(hx:a.tmps.getD x undef=.pointer (some ⟨b,c,none⟩)){d:TD}(hd:Cb P t d){fs:List (Nat×Nat)}(hs:d.sh=.struct fs){k n:Nat}(hi:fs[i]? = some (k,n)) :
  (execOp a.eval o).run P w=.ok (.value (.pointer (some ⟨b,c+k,none⟩))) w:=by
 obtain⟨hh,op,ty,pos,aft,gd⟩:=o;simp only[]at hop;subst hop;exact Ld (s:=Instr.fieldAt t (a.tmps.getD x undef) i) rfl (by rw[hx];exact jV hd hs hi b c)
theorem Ff{t x:Nat}(hop:o.op=.load t (.tmp x)){b c:Nat}(hx:a.tmps.getD x undef=.pointer (some ⟨b,c,none⟩)){d:TD}(hd:Cb P t d)(ha:isAgg d=false){u:Value}(hu:w.cell? ⟨b,c,none⟩=some u) :
  (execOp a.eval o).run P w=.ok (.value u) w:=by
 obtain⟨hh,op,ty,pos,aft,gd⟩:=o;simp only[]at hop;subst hop;have hl:=Sl hd ha (w:=w) hu;exact Ld (s:=Instr.loadAt t (a.tmps.getD x undef)) rfl (by rw[hx];exact hl)
theorem TK{t x y u:Nat}(hop:o.op=.binOp .add t (.tmp x) (.tmp y) u){m n:Int}(hx:a.tmps.getD x undef=.int .i64 m)(hy:a.tmps.getD y undef=.int .i64 n):(execOp a.eval o).run P w=.ok (.value (.int .i64 (ar .add .i64 m n))) w:=by
 obtain⟨hh,op,ty,pos,aft,gd⟩:=o;simp only[]at hop;subst hop;have hi:a.eval (.tmp x)=.int .i64 m:=hx;have hj:a.eval (.tmp y)=.int .i64 n:=hy;simp only[execOp,hi,hj];simp[eqGuard,binOp,Op.intArith,ar]
theorem UK{t x:Nat}(hop:o.op=.makeInterface t (.tmp x)){e:Nat}(hu:P.underlying t=some (.slice e)):(execOp a.eval o).run P w=.ok (.value (.iface t (a.tmps.getD x undef))) w:=by
 obtain⟨hh,op,ty,pos,aft,gd⟩:=o;simp only[]at hop;subst hop;exact Ld (s:=Instr.makeInterface t (a.tmps.getD x undef)) rfl (by simp[Instr.makeInterface,run_underlying hu])
theorem VK{f:Fn}{x:Nat}(hop:o.op=.makeFunc f #[] #[.tmp x]):(execOp a.eval o).run P w=.ok (.value (.func f #[] #[a.tmps.getD x undef])) w:=by
 obtain⟨hh,op,ty,pos,aft,gd⟩:=o;simp only[]at hop;subst hop;exact Ld (s:=Instr.makeFunc f #[] #[a.tmps.getD x undef]) (by simp[execOp,Act.eval]) rfl
theorem WK{t:Nat}{ps:Array (Nat×Operand)}(hop:o.op=.build t ps){v:Value}(h:(Instr.build t (ps.map λp=>(p.1,a.eval p.2))).run P w=.ok v w):(execOp a.eval o).run P w=.ok (.value v) w:=by
 obtain⟨hh,op,ty,pos,aft,gd⟩:=o;simp only[]at hop;subst hop;exact Ld (s:=Instr.build t (ps.map λp=>(p.1,a.eval p.2))) rfl h
theorem XK{T K E:Nat}(hu:P.underlying T=some (.map K E)){r:Nat}{m:MP}(hr:w.heap[r]? = some (oa m)):(Instr.range T (.map (some r))).run P w=.ok (.pointer (some ⟨w.heap.size,0,none⟩)) (w.alloc (vb r m [])):=by
 have hg:(getObj r).run P w=.ok (oa m) w:=by simp[getObj,Sem.run,hr,oa]
 unfold Instr.range;simp only[Sem.run_bind,run_underlying hu,Result.andThen_ok,hg,oa];rfl
theorem Ra{o:Oper}{v:Value}{w':World}{next:Act->World->Prop}{Q:Exit->Act->World->Prop}(h:(execOp a.eval o).run P w=.ok (.value v) w')(hn:next (a.put o.dst v) w'):o.wp P a w next Q:=by
 unfold Oper.wp;rw[h,Oper.upon_value];exact hn
theorem Oi{o:Oper}{w':World}{next:Act->World->Prop}{Q:Exit->Act->World->Prop}(h:(execOp a.eval o).run P w=.ok .skip w')(hn:next (a.put o.dst undef) w'):o.wp P a w next Q:=by
 unfold Oper.wp;rw[h,Oper.upon_skip];exact hn
end
section
variable {P:Program}{N:NP}{B:Nat}{IoB:List Nat}{W0:World}{F0:Fz}{obs:List (Nat×Obj)}{e:Env}{a:Act}{w:World}{Q:Exit->Act->World->Prop}
theorem ma{c c1 c2:Code}(hc:c=.seq c1 c2)(h:c1.wp P (Exit.then (c2.wp P Q) Q) a w):c.wp P Q a w:=by subst hc;exact wp_seq h
theorem Nc{c c1:Code}{id:Nat}(hc:c=.block id c1)(h:c1.wp P (Exit.inBlock id Q) a w):c.wp P Q a w:=by subst hc;exact wp_block h
theorem Gc{c:Code}(hc:c=.region (Gg c) (opsOf c) false){l:List Nat}(hl:List.range (opsOf c).size=l)(h:wpOps P (opsOf c) Q l a w):c.wp P Q a w:=by
 rw[hc];exact wp_region (by rw[hl];exact h)
theorem ld{c c1 c2:Code}{o:Operand}(hc:c=.cond o c1 c2){t:Bool}(hv:a.eval o=.bool t)(h1:t=true->c1.wp P Q a w)(h2:t=false->c2.wp P Q a w):c.wp P Q a w:=by
 subst hc;exact wp_cond_split hv h1 h2
theorem Md{c:Code}(hc:c=.skip)(h:Q .normal a w):c.wp P Q a w:=by subst hc;exact wp_skip h
theorem jg{c:Code}{i:Nat}(hc:c=.exit i)(h:Q (.exit i) a w):c.wp P Q a w:=by subst hc;exact wp_exit h
theorem Pi{c:Code}(hc:c=.ret)(h:Q .ret a w):c.wp P Q a w:=by subst hc;exact wp_ret h
theorem MS.regC{tt:TT}{sp:SP}(G:Good P tt sp){c:Code}{keep:List Nat}{e':Env}{ps:List Prop}(hc:Go.Proofs.YtiiidenbemkihaaGreat.regC tt sp N keep c e=some (e',ps))(ho:da ps)(hs:MS N B IoB W0 F0 obs e a w)
  (hQ:∀a w,MS N B IoB W0 F0 obs e' a w->Q .normal a w):c.wp P Q a w:=by
 unfold Go.Proofs.YtiiidenbemkihaaGreat.regC at hc;split at hc
 .split at hc
  .rename_i hok;exact hs.reg G hok hc ho hQ
  .cases hc
 .cases hc
theorem MS.weak{e':Env}(h:xa e e')(hs:MS N B IoB W0 F0 obs e a w):MS N B IoB W0 F0 obs e' a w:=⟨h _ _ _ _ _ _ _ hs.sim,hs.kept,hs.ob,hs.hB⟩
theorem MS.k(hs:MS N B IoB W0 F0 obs e a w){s:Nat}{v:Value}(h:(s,v)∈N.k):a.tmps.getD s undef=v:=hs.sim.tmps.kp _ h
theorem MS.o(hs:MS N B IoB W0 F0 obs e a w){r:Nat}{o:Obj}(h:(r,o)∈obs):w.heap[r]? = some o:=(hs.ob _ h).1
theorem MS.tmps(hs:MS N B [] W0 F0 obs e a w){D:List Nat}(hfl:ce e=true)(hd:∀d∈D,Ja (ca e d)=true/\yi d N.k=true)(hr:N.r=none){a':Act}(hdf:a'.defers=[])(hsz:a'.tmps.size=a.tmps.size)
  (heq:∀n,n ∉ D->a'.tmps.getD n undef=a.tmps.getD n undef):MS N B [] W0 F0 obs e a' w:=by
 obtain⟨F,ow,hx⟩:=hs.sim.rep;refine⟨⟨hdf,⟨hsz.trans hs.sim.tmps.size,(λs h=>by rw[hr]at h;cases h),λp hp=>?_⟩,hs.sim.base,hs.sim.f0,hs.sim.kept,F,ow,⟨hx.sub,hx.new,hx.live,hx.inj,λs i b h=>?_,λn=>?_⟩⟩,hs.kept,hs.ob,hs.hB⟩
 .rw[heq p.1 (λh=>cD (hd p.1 h).2 p hp rfl)];exact hs.sim.tmps.kp p hp
 .have:=hx.bd s i b h;exact⟨this.1,this.2.elim .inl (λh=>by simp at h)⟩
 .have h1:=hx.sr n;by_cases hn:n∈D
  .have h2:=(hd n hn).1;cases hg:ca e n with
   |dead=>trivial
   |_=>rw[hg]at h2;simp[Ja]at h2
  .have hf:=Rj hfl n;rw[Le hf]at h1⊢;simp only[heq n hn];exact h1
def YK(tt:TT)(sp:SP)(dsts:List (Option Nat))(keep:List Nat)(l:List Oper)(e:Env):Option (Env×List Prop):=
 match runF tt sp dsts l e with
 |some (e2,q)=>some (mask (clean (settle keep keep e2)) keep,q)
 |none=>none
def Xs(N:NP)(ops:Array Oper):Nat->List Oper->Bool
 |_,[]=>true
 |i,o::r=>o.guard.isNone&&(Zf N [o]&&Xs N ops (i+1) r)
theorem MS.runF{tt:TT}{sp:SP}(G:Good P tt sp){ops:Array Oper}:∀ {l:List Oper}{i:Nat}{e e2:Env}{ps:List Prop}{a:Act}{w:World},(∀j o,l[j]? = some o->ops[i+j]? = some o)->Xs N ops i l=true ->
  Go.Proofs.YtiiidenbemkihaaGreat.runF tt sp (ops.toList.map (·.dst)) l e=some (e2,ps)->da ps->MS N B IoB W0 F0 obs e a w->(∀a w,MS N B IoB W0 F0 obs e2 a w->Q .normal a w)->wpOps P ops Q (List.range' i l.length) a w
 |[],i,e,e2,ps,a,w,_,_,hr,_,hs,hQ=>by
  simp only[Go.Proofs.YtiiidenbemkihaaGreat.runF,Option.some.injEq,Prod.mk.injEq]at hr;obtain⟨rfl,rfl⟩:=hr;exact hQ a w hs
 |o::r,i,e,e2,ps,a,w,hl,hk,hr,ho,hs,hQ=>by
  simp only[Go.Proofs.YtiiidenbemkihaaGreat.runF]at hr;split at hr
  .rename_i e1 p h1;split at hr
   .rename_i e2' q h2;simp only[Option.some.injEq,Prod.mk.injEq]at hr;obtain⟨rfl,rfl⟩:=hr;simp only[Xs,Bool.and_eq_true]at hk;have hh:=ho.all
    have hp:da p:=by
     have:∀ {l:List Prop},(∀x∈l,x)->da l:=by
      intro l
      induction l with
      |nil=>exact λ_=>trivial
      |cons x l ih=>exact λh=>⟨h x (by simp),ih (λy hy=>h y (by simp[hy]))⟩
     exact this (λx hx=>hh x (List.mem_append_left _ hx))
    have hq:da q:=by
     have:∀ {l:List Prop},(∀x∈l,x)->da l:=by
      intro l
      induction l with
      |nil=>exact λ_=>trivial
      |cons x l ih=>exact λh=>⟨h x (by simp),ih (λy hy=>h y (by simp[hy]))⟩
     exact this (λx hx=>hh x (List.mem_append_right _ hx))
    have hi:o.guard=none:=by cases h:o.guard<;>simp_all
    rw[List.length_cons,List.range'_succ,wpOps_cons];refine ra (by simpa using hl 0 o rfl) hi ?_;refine hs.stepF G hi h1 hp (λd hd=>Qj hk.2.1 0 o rfl d hd) (λa' w' hs'=>?_);exact MS.runF G (i:=i+1) (λj o' hj=>by rw[show i+1+j=i+(j+1) by omega];exact hl (j+1) o' (by simpa using hj)) hk.2.2 h2 hq hs' hQ
   .cases hr
  .cases hr
theorem MS.suf{tt:TT}{sp:SP}(G:Good P tt sp){ops:Array Oper}{l:List Oper}{i:Nat}{keep:List Nat}{e e':Env}{ps:List Prop}{a:Act}{w:World}(hl:∀j o,l[j]? = some o->ops[i+j]? = some o)(hk:Xs N ops i l=true)
  (hr:YK tt sp (ops.toList.map (·.dst)) keep l e=some (e',ps)) (ho:da ps) (hs:MS N B IoB W0 F0 obs e a w) (hQ:∀a w,MS N B IoB W0 F0 obs e' a w->Q .normal a w):wpOps P ops Q (List.range' i l.length) a w:=by
 unfold YK at hr;split at hr
 .rename_i e2 q h2;simp only[Option.some.injEq,Prod.mk.injEq]at hr;obtain⟨rfl,rfl⟩:=hr;exact MS.runF G hl hk h2 ho hs (λa w h=>hQ a w (h.of_sim (h.sim.settle.cleanMask keep)))
 .cases hr
theorem sc(ops:Array Oper)(h:Q .normal a w):wpOps P ops Q [] a w:=h
end
def Xj(L:List Bool):List Edge->Bool
 |[]=>true
 |e::r=>(!Region.binds .any e||L.getD e.on false)&&Xj L r
def ac(L:List Bool):List Oper->Nat->List Nat
 |[],_=>[]
 |o::r,i=>match !L.getD i true&&Xj L o.after.toList with
  |true=>i::ac L r (i+1)
  |false=>ac L r (i+1)
def om{α:Type}(f:Nat->List α):List Nat->List α
 |[]=>[]
 |i::r=>f i++om f r
def kg(i:Nat)(p:List Prop):List (Nat×List Prop)->List (Nat×List Prop)
 |[]=>[(i,p)]
 |(j,q)::r=>match Nat.ble i j with
  |true=>(i,p)::(j,q)::r
  |false=>(j,q)::kg i p r
def Gf:List (Nat×List Prop)->List Prop
 |[]=>[]
 |(_,p)::r=>p++Gf r
theorem kt{x:Prop}{i:Nat}{p:List Prop}:∀ {l:List (Nat×List Prop)},x∈p\/x∈Gf l->x∈Gf (kg i p l)
 |[],h=>by simp[kg,Gf]at h⊢;exact h
 |(j,q)::r,h=>by
  simp only[kg];split
  .simpa [Gf] using h
  .simp only[Gf,List.mem_append]at h⊢;rcases h with h|h|h
   .exact .inr (kt (.inl h))
   .exact .inl h
   .exact .inr (kt (.inr h))
def lg(tt:TT)(sp:SP)(keep:List Nat)(ds:List (Option Nat))(all:List Oper):Nat->List Bool->List (Nat×List Prop)->Env->List (Option (Env×List Prop))
 |0,L,pre,e=>match ac L all 0 with
  |[]=>[some (mask (clean (settle keep keep e)) keep,Gf pre)]
  |_=>[none]
 |fuel+1,L,pre,e=>match ac L all 0 with
  |[]=>[some (mask (clean (settle keep keep e)) keep,Gf pre)]
  |i::r=>om (λi=>match all[i]? with
   |some o=>match stepF tt sp ds e o with
    |some (e1,p)=>lg tt sp keep ds all fuel (L.set i true) (kg i p pre) e1
    |none=>[none]
   |none=>[none]) (i::r)
theorem BE{L:List Bool}:∀ {l:List Edge},Xj L l=true↔∀e∈l,Region.binds .any e=true->L.getD e.on false=true
 |[]=>by simp[Xj]
 |e::r=>by
  rw[Xj,Bool.and_eq_true,BE];simp only[List.mem_cons,forall_eq_or_imp,Bool.or_eq_true,Bool.not_eq_true'];refine and_congr ⟨λh hb=>h.resolve_left (by rw[hb];simp),λh=>?_⟩ Iff.rfl;cases hb:Region.binds .any e with
  |true=>exact .inr (h hb)
  |false=>exact .inl rfl
theorem pm{L:List Bool}{j:Nat}:∀ {l:List Oper}{i:Nat},j∈ac L l i↔∃k o,j=i+k/\l[k]? = some o/\L.getD j true=false/\∀e∈o.after.toList,Region.binds .any e=true->L.getD e.on false=true
 |[],i=>by simp[ac]
 |o::r,i=>by
  have ih:=pm (L:=L) (j:=j) (l:=r) (i:=i+1)
  have hh:(∃k o',j=i+k/\(o::r)[k]? = some o'/\L.getD j true=false/\∀e∈o'.after.toList,Region.binds .any e=true->L.getD e.on false=true) ↔
    (j=i/\L.getD j true=false/\∀e∈o.after.toList,Region.binds .any e=true->L.getD e.on false=true)\/j∈ac L r (i+1):=by
   rw[ih];constructor
   .rintro⟨k,o',h1,h2,h3⟩;cases k with
    |zero=>simp at h2;subst h2;exact .inl ⟨h1,h3⟩
    |succ k=>exact .inr ⟨k,o',by omega,by simpa using h2,h3⟩
   .rintro (⟨h1,h3⟩|⟨k,o',h1,h2,h3⟩)
    .exact⟨0,o,h1,rfl,h3⟩
    .exact⟨k+1,o',by omega,by simpa using h2,h3⟩
  rw[hh];simp only[ac];split
  .rename_i hb;rw[Bool.and_eq_true,Bool.not_eq_true',BE]at hb;rw[List.mem_cons];refine or_congr ⟨λh=>⟨h,by rw[h];exact hb⟩,λh=>h.1⟩ Iff.rfl
  .rename_i hb;refine⟨.inr,λh=>h.resolve_left λ⟨h1,h2⟩=>?_⟩
   have:(!L.getD i true&&Xj L o.after.toList)=true:=by
    rw[Bool.and_eq_true,Bool.not_eq_true',BE,<-h1];exact h2
   rw[hb]at this;cases this
theorem eL{α:Type}{f:Nat->List α}{x:α}:∀ {l:List Nat}{i:Nat},i∈l->x∈f i->x∈om f l
 |a::r,i,hi,hx=>by
  rw[om,List.mem_append];rcases List.mem_cons.1 hi with rfl|hi
  .exact .inl hx
  .exact .inr (eL hi hx)
section
variable {P:Program}{tt:TT}{sp:SP}{B:Nat}{IoB:List Nat}{F0:Fz}{N:NP}{W0:World}
theorem fL{keep:List Nat}{ds:List (Option Nat)}{all:List Oper}:∀ {fuel:Nat}{L:List Bool}{pre:List (Nat×List Prop)}{e:Env},∃r∈lg tt sp keep ds all fuel L pre e,∀e1 q,r=some (e1,q)->∀x∈Gf pre,x∈q
 |0,L,pre,e=>by
  simp only[lg];split
  .exact⟨_,List.mem_singleton_self _,λe1 q h x hx=>by cases h;exact hx⟩
  .exact⟨none,by simp,λe1 q h=>by cases h⟩
 |fuel+1,L,pre,e=>by
  simp only[lg];split
  .exact⟨_,List.mem_singleton_self _,λe1 q h x hx=>by cases h;exact hx⟩
  .rename_i i r _
   have key:∃y∈(match all[i]? with
     |some o=>match stepF tt sp ds e o with
      |some (e1,p)=>lg tt sp keep ds all fuel (L.set i true) (kg i p pre) e1
      |none=>[none]
     |none=>[none]),∀e1 q,y=some (e1,q)->∀x∈Gf pre,x∈q:=by
    split
    .split
     .rename_i e1 p _;obtain⟨y,h1,h2⟩:=fL (keep:=keep) (ds:=ds) (all:=all) (fuel:=fuel) (L:=L.set i true) (pre:=kg i p pre) (e:=e1);exact⟨y,h1,λe2 q h x hx=>h2 e2 q h x (kt (.inr hx))⟩
     .exact⟨none,by simp,λe1 q h=>by cases h⟩
    .exact⟨none,by simp,λe1 q h=>by cases h⟩
   obtain⟨y,h1,h2⟩:=key;exact⟨y,by rw[om,List.mem_append];exact .inl h1,h2⟩
theorem wV(htt:Ub P tt)(hsp:∀f s,spk sp f=some s->Con P f s){ops:Array Oper}(hdst:Zf N ops.toList=true){keep:List Nat}{e':Env}{ps:List Prop}(hps:∀p∈ps,p)
  {Q:Exit->Act->World->Prop} (hQ:∀a w,Sim N B IoB W0 F0 e' a w->Q .normal a w) :
  ∀ (fuel:Nat) (listed:Array Bool) (pre:List (Nat×List Prop)) (e:Env) (a:Act) (w:World),(∀r∈lg tt sp keep (ops.toList.map (·.dst)) ops.toList fuel listed.toList pre e,r=some (e',ps)) ->
    Sim N B IoB W0 F0 e a w->wpAny P .any ops Q fuel listed a w:=by
 have hk:∀(listed:Array Bool) j,j∈ac listed.toList ops.toList 0↔j∈Region.ready .any ops listed:=by
  intro listed j;rw[pm,mem_ready]
  have hL:∀k b,listed.toList.getD k b=listed.getD k b:=λk b=>by
   rw[Array.getD_eq_getD_getElem?,List.getD_eq_getElem?_getD,Array.getElem?_toList]
  simp only[hL];constructor
  .rintro⟨k,o,h1,h2,h3,h4⟩;rw[Nat.zero_add]at h1;subst h1;exact⟨h3,o,by rw[<-Array.getElem?_toList];exact h2,λe he=>h4 e (by simpa using he)⟩
  .rintro⟨h1,o,h2,h3⟩;exact⟨j,o,by omega,by rw[Array.getElem?_toList];exact h2,h1,λe he=>h3 e (by simpa using he)⟩
 have hh:∀ {listed:Array Bool}{e:Env}{pre:List (Nat×List Prop)}{a:Act}{w:World},some (mask (clean (settle keep keep e)) keep,Gf pre)=some (e',ps)->Sim N B IoB W0 F0 e a w->Q .normal a w:=by
  intro listed e pre a w h hs;simp only[Option.some.injEq,Prod.mk.injEq]at h;have:=hs.settle.cleanMask (e:=settle keep keep e) keep;rw[h.1]at this;exact hQ a w this
 have hl:∀ {listed:Array Bool},Region.ready .any ops listed=[]->ac listed.toList ops.toList 0=[]:=by
  intro listed h;cases hr:ac listed.toList ops.toList 0 with
  |nil=>rfl
  |cons j r=>
   have:j∈ac listed.toList ops.toList 0:=by rw[hr];simp
   rw[hk,h]at this;cases this
 intro fuel
 induction fuel with
 |zero=>
  intro listed pre e a w h hs;simp only[lg]at h;cases hr:ac listed.toList ops.toList 0 with
  |cons j r=>
   rw[hr]at h;have:=h none (by simp);cases this
  |nil=>
   rw[hr]at h;refine⟨?_,hh (listed:=listed) (h _ (List.mem_singleton_self _)) hs⟩;cases hr':Region.ready .any ops listed with
   |nil=>rfl
   |cons j r=>
    have:j∈Region.ready .any ops listed:=by rw[hr'];simp
    rw[<-hk,hr]at this;cases this
 |succ fuel ih=>
  intro listed pre e a w h hs;simp only[lg]at h;refine⟨λhr=>?_,λi hi=>?_⟩
  .rw[hl hr]at h;exact hh (listed:=listed) (h _ (List.mem_singleton_self _)) hs
  .have hj:=(hk listed i).2 hi;cases hr:ac listed.toList ops.toList 0 with
   |nil=>rw[hr]at hj;cases hj
   |cons j r=>
    rw[hr]at h hj;simp only[]at h
    have h2:=λx hx=>h x (eL (f:=λi=>match ops.toList[i]? with
     |some o=>match stepF tt sp (ops.toList.map (·.dst)) e o with
      |some (e1,p)=>lg tt sp keep (ops.toList.map (·.dst)) ops.toList fuel (listed.toList.set i true) (kg i p pre) e1
      |none=>[none]
     |none=>[none]) hj hx)
    obtain⟨_,o,ho,_⟩:=mem_ready.1 hi;have hm:ops.toList[i]? = some o:=by rw[Array.getElem?_toList];exact ho
    simp only[hm]at h2;cases hst:stepF tt sp (ops.toList.map (·.dst)) e o with
    |none=>
     rw[hst]at h2;have:=h2 none (by simp);cases this
    |some q=>
     obtain⟨e1,p⟩:=q;rw[hst]at h2;simp only[]at h2
     have hp:∀x∈p,x:=by
      obtain⟨y,hy,hz⟩:=fL (tt:=tt) (sp:=sp) (keep:=keep) (ds:=ops.toList.map (·.dst)) (all:=ops.toList) (fuel:=fuel) (L:=listed.toList.set i true) (pre:=kg i p pre) (e:=e1);exact λx hx=>hps x (hz e' ps (h2 y hy) x (kt (.inl hx)))
     have h3:=Ul htt hsp hs hst hp (λd hd=>Qj hdst i o hm d hd) (Q:=Q) (next:=wpAny P .any ops Q fuel (listed.setIfInBounds i true))
      (λa' w' hs'=>ih (listed.setIfInBounds i true) (kg i p pre) e1 a' w' (λx hx=>h2 x (by rw[Array.toList_setIfInBounds]at hx;exact hx)) hs')
     unfold wpOp;rw[ho];simp only[];by_cases hw:Region.wanted o (yielded ops a.tmps)=true
     .rw[if_pos hw]at h3⊢;exact .inl h3
     .rw[if_neg hw]at h3⊢;exact h3
theorem any_ok(G:Good P tt sp){fr:Fr}{C:Code}{F:Fnn}{R A X Y Z:Type}{S:Pb R A X Y Z}(keep:List Nat)(k:Nat){ps:List Prop}{q:A}(T:Tr R A X Y Z)(hT:T=.w ps (.l (.n q)))(ho:S.o=T.val)(hb:S.ob=T.ob)
  (hC:Ba C S.path=.region (Gg (Ba C S.path)) (opsOf (Ba C S.path)) true) (hd:Zf N (opsOf (Ba C S.path)).toList=true)
  (h:lg tt sp keep ((opsOf (Ba C S.path)).toList.map (·.dst)) (opsOf (Ba C S.path)).toList (opsOf (Ba C S.path)).size (List.replicate (opsOf (Ba C S.path)).size false) [] (clean S.env)=List.replicate k (some (S.pn q,ps))) :
  Qc P tt N fr C F S:=by
 intro hh a w hs;subst hT;rw[hb]at hh;rw[hC];refine wp_region_any G.hm (wV (keep:=keep) G.htt G.hsp hd (da.all hh.1) (λa w hs=>⟨_,hs,q,ho,λ_ _ _ _ _ _ _ hs=>hs⟩) _ _ [] _ a _ (λr hr=>?_) (hs.clean.drew _));rw[Array.toList_replicate,h]at hr;exact List.eq_of_mem_replicate hr
end
def Ty.nol:Ty->Bool
 |.lrow=>false
 |.litem=>false
 |.sess=>false
 |_=>true
def Ty.sl:Ty->Bool
 |.lrow=>true
 |.litem=>true
 |_=>false
def noL:C->Bool
 |.lst t _=>t.nol
 |_=>true
def Yj:K×C->Bool
 |(.acc _,.lst t _)=>t.nol
 |(.acc _,_)=>false
 |(.own _,_)=>false
 |(_,c)=>noL c
def okL:AV->Bool
 |.dead=>true
 |.v (.acc _) (.lst t _)=>t.nol
 |.v (.acc _) _=>false
 |.v (.own _) (.lst t _)=>t.nol
 |.v (.own _) _=>false
 |.v _ c=>noL c
 |.agg _ cs=>cg noL cs
 |.box cs=>cg Yj cs
 |_=>false
def qm(s:Nat):Env->Bool
 |[]=>true
 |(n,a)::r=>(Nat.beq n s||okL a)&&qm s r
theorem iL{s:Nat}:∀ {e:Env},qm s e=true->∀n,n≠s->okL (ca e n)=true
 |[],_,_,_=>rfl
 |(m,a)::r,h,n,hn=>by
  simp only[qm,Bool.and_eq_true,Bool.or_eq_true]at h;simp only[ca];cases hb:Nat.beq m n with
  |true=>
   have:=Nat.eq_of_beq_eq_true hb;subst this;rcases h.1 with h1|h1
   .exact absurd (Nat.eq_of_beq_eq_true h1) hn
   .exact h1
  |false=>exact iL h.2 n hn
theorem xV{a:AV}(h:okL a=true):Vb a=true:=by
 cases a<;>first|rfl|(simp[okL]at h)
theorem jL{t:Ty}(ht:t.nol=true){x:t.T}{j:Nat}{c:C}(h:(cells t x)[j]? = some c):noL c=true:=by
 cases t<;>simp[Ty.nol]at ht
 all_goals
  (match j,h with
   |0,h=>simp[cells]at h;subst h;rfl
   |1,h=>first|(simp[cells]at h;done)|(simp[cells]at h;subst h;rfl)
   |2,h=>first|(simp[cells]at h;done)|(simp[cells]at h;subst h;rfl)
   |3,h=>first|(simp[cells]at h;done)|(simp[cells]at h;subst h;rfl)
   |4,h=>first|(simp[cells]at h;done)|(simp[cells]at h;subst h;rfl)
   |j+5,h=>simp[cells]at h)
def Si:Value->Bool
 |.slice _ _ _=>true
 |_=>false
theorem yV{F:Fz}{lo:Nat}{w:World}{t:Ty}(ht:t.nol=true){x:t.T}{c:C}{v:Value}(h:(cells t x)[0]? = some c)(hr:RC F lo w c v):Si v=false:=by
 cases t<;>simp[Ty.nol]at ht<;>simp[cells]at h<;>subst h<;>cases hr<;>rfl
theorem zV{t:Ty}(ht:t.sl=true):t.size=1:=by
 cases t<;>first|rfl|(simp[Ty.sl]at ht)
theorem BV{F:Fz}{lo:Nat}{w:World}{t:Ty}(ht:t.sl=true){x:t.T}{j:Nat}{c:C}{v:Value}(h:(cells t x)[j]? = some c)(hr:RC F lo w c v):Si v=true:=by
 cases t<;>simp[Ty.sl]at ht
 all_goals
  (match j,h with
   |0,h=>simp[cells]at h;subst h;cases hr<;>rfl
   |j+1,h=>simp[cells]at h)
theorem kL{t:Ty}(ht:t.sl=true){x:t.T}{j:Nat}{c:C}(h:(cells t x)[j]? = some c):noL c=true:=by
 cases t<;>simp[Ty.sl]at ht
 all_goals
  (match j,h with
   |0,h=>simp[cells]at h;subst h;rfl
   |j+1,h=>simp[cells]at h)
theorem RC.drop{F:Fz}{w:World}{b:Nat}(hb:∀o u,F b o->w.cell? ⟨b,o,none⟩=some u->Si u=true){lo:Nat}{c:C}{v:Value}(h:RC F lo w c v):noL c=true->RC (λb' o=>F b' o/\b'≠b) lo w c v:=by
 induction h with
 |int k n=>exact λ_=>.int k n
 |bool b=>exact λ_=>.bool b
 |str s=>exact λ_=>.str s
 |nl t=>exact λ_=>.nl t
 |nil t=>exact λ_=>.nil t
 |lst t xs b2 o cap vs hb2 hcap hf hc hr ih=>
  intro hn;have hn:t.nol=true:=hn;refine .lst t xs b2 o cap vs hb2 hcap (λi j hi hj=>⟨hf i j hi hj,λe=>?_⟩) hc (λi j x c hx hcc=>ih i j x c hx hcc (jL hn hcc));subst e;have hp:=Gj t;have h1:=hb _ _ (hf i 0 hi hp) (hc i 0 hi hp);have hh:(cells t xs[i])[0]? = some ((cells t xs[i])[0]'(by rw[we];exact hp)):=List.getElem?_eq_getElem _;rw[yV hn hh (hr i 0 _ _ (List.getElem?_eq_getElem hi) hh)]at h1;cases h1
section
variable {P:Program}{N:NP}{B:Nat}{IoB:List Nat}{W0:World}{F0:Fz}{obs:List (Nat×Obj)}{e:Env}{a:Act}{w:World}
theorem MS.freeze(hs:MS N B IoB W0 F0 obs e a w)(s:Nat):MS N B IoB W0 F0 obs (Fi e s) a w:=by
 obtain⟨F,ow,hx⟩:=hs.sim.rep;obtain⟨F',hi,hh⟩:=hx.freeze hs.sim.base s;exact⟨⟨hs.sim.defers,hs.sim.tmps,hs.sim.base,hs.sim.f0,hs.sim.kept,F',hi,hh⟩,hs.kept,hs.ob,hs.hB⟩
end
abbrev OkF(P:Program)(tt:TT)(fn:Func)(F:Fnn)(R:Type)(fr:Fr){A X Y Z:Type}(S:Pb R A X Y Z):Prop:=Qc P tt ⟨fn.ntmps,F.rd,[]⟩ fr (ee fn) F S
abbrev AV.B(l:List Int):AV:=.box (l.map λi=>(.fr,.i i))
abbrev AV.R(b:LB)(p:Int):AV:=.box [(.sh,.lst .byte b),(.fr,.i p)]
abbrev rvF(F:Fnn):F.rt.T->RV:=λq=>(some (F.rt.av q),.dead)
abbrev rvR(F:Fnn)(b:LB):F.rt.T×Int->RV:=λq=>(some (F.rt.av q.1),.R b q.2)
abbrev pE(p:Plan):Plan:=.mk p.Kind p.Num p.Kids
abbrev sE(s:Sess):Sess:=.mk (pE s.Plan) s.Ins s.Front s.Told
def pcT{R A X Y Z:Type}(t:Tr R A X Y Z)(path:List Nat)(env:Env)(rv:R->RV)(pn:A->Env:=by exact nE)(px:X->Nat×Env:=by exact nE)(py:Y->Nat×Env:=by exact nE)(pz:Z->Nat×Env:=by exact nE):Pb R A X Y Z:=⟨t.val,t.ob,path,env,rv,pn,px,py,pz⟩
def pcR{R A X Y Z:Type}(t:Tr R A X Y Z)(path:List Nat)(I:A->Env)(s:A)(rv:R->RV)(px:X->Nat×Env:=by exact nE)(py:Y->Nat×Env:=by exact nE)(pz:Z->Nat×Env:=by exact nE):Pb R A X Y Z:=⟨t.val,t.ob,path,I s,rv,I,px,py,pz⟩
noncomputable def pcL{σ R X Y Z:Type}[Inhabited R](S:σ->Pb R σ X Y Z)(s:σ):Pb R Empty X Y Z:=lpS (S s) (lpV (λs=>ka (S s).o) s) (LpT (λs=>ka (S s).o) (λs=>(S s).ob) s)
def Me:Operand->Nat
 |.tmp t=>Nat.shiftLeft 1 t
 |_=>0
def mt:List Operand->Nat
 |[]=>0
 |x::r=>Nat.lor (Me x) (mt r)
def qt:Option Operand->Nat
 |some x=>Me x
 |none=>0
def lL:List (Nat×Operand)->Nat
 |[]=>0
 |x::r=>Nat.lor (Me x.2) (lL r)
def CV:Callee->Nat
 |.value f=>Me f
 |.invoke r _=>Me r
 |.builtin _=>0
def opM:Op->Nat
 |.move x|.assign x|.box _ x|.load _ x|.unOp _ _ x|.convert _ _ x|.makeInterface _ x|.fieldAddr _ x _|.field _ x _|.range _ x|.next x _|.entry x|.extract x _|.nilCheck x=>Me x
 |.store _ x y|.binOp _ _ x y _|.makeSlice _ x y|.indexAddr _ x y|.index _ x y|.lookup _ x y _|.mapEntry _ x y=>Nat.lor (Me x) (Me y)
 |.pick x y z|.insert _ x y z|.mapUpdate _ x y z|.entryStore _ x y z=>Nat.lor (Me x) (Nat.lor (Me y) (Me z))
 |.build _ ps|.buildSlice _ _ ps=>lL ps.toList
 |.makeFunc _ a b=>Nat.lor (mt a.toList) (mt b.toList)
 |.makeMap _ x=>qt x
 |.slice _ x a b c=>Nat.lor (Me x) (Nat.lor (qt a) (Nat.lor (qt b) (qt c)))
 |.call c=>Nat.lor (CV c.callee) (mt c.args.toList)
 |_=>0
def lessM(a b:Nat):Nat:=Nat.xor a (Nat.land a b)
def nL:List Oper->Nat->Nat->Nat->Nat
 |[],m,n,out=>Nat.lor n (lessM out m)
 |o::r,m,n,out=>nL r (match o.dst with
  |some d=>Nat.lor m (Nat.shiftLeft 1 d)
  |none=>m) (Nat.lor n (lessM (opM o.op) m)) out
def qL:List (Nat×Nat)->Nat->Nat
 |[],_=>0
 |(i,a)::l,n=>match Nat.beq i n with
  |true=>a
  |false=>qL l n
def Dh(ret:Nat):Code->Nat->List (Nat×Nat)->Nat
 |.region _ ops _,out,_=>nL ops.toList 0 0 out
 |.exit i,_,ex=>qL ex i
 |.ret,_,_=>ret
 |.seq a b,out,ex=>Dh ret a (Dh ret b out ex) ex
 |.cond c a b,out,ex=>Nat.lor (Me c) (Nat.lor (Dh ret a out ex) (Dh ret b out ex))
 |.block i a,out,ex=>Dh ret a out ((i,out)::ex)
 |.loop a,_,ex=>Dh ret a 0 ex
 |_,out,_=>out
def CE:Nat->Nat->Nat->List Nat
 |0,_,_=>[]
 |f+1,i,m=>match Nat.testBit m i with
  |true=>i::CE f (i+1) m
  |false=>CE f (i+1) m
def Ti(ret n:Nat):Code->Nat->List (Nat×Nat)->List (Nat×List Nat)->List (Nat×List Nat)
 |.region id _ _,out,_,k=>(id,CE n 0 out)::k
 |.seq a b,out,ex,k=>Ti ret n a (Dh ret b out ex) ex (Ti ret n b out ex k)
 |.cond _ a b,out,ex,k=>Ti ret n a out ex (Ti ret n b out ex k)
 |.block i a,out,ex,k=>Ti ret n a out ((i,out)::ex) k
 |.loop a,_,ex,k=>Ti ret n a (Dh ret a 0 ex) ex k
 |_,_,_,k=>k
def rsM:List ResultVar->Nat
 |[]=>0
 |.tmp t::r=>Nat.lor (Nat.shiftLeft 1 t) (rsM r)
 |.cell t _::r=>Nat.lor (Nat.shiftLeft 1 t) (rsM r)
def DV(F:Fnn):Nat:=match F.rd with
 |some d=>Nat.lor (rsM F.rs) (Nat.shiftLeft 1 d)
 |none=>rsM F.rs
def kpF(n:Nat)(F:Fnn)(c:Code):List (Nat×List Nat):=Ti (DV F) n c 0 [] []
section
variable {P:Program}{tt:TT}{N:NP}{sp:SP}{fr:Fr}{C:Code}{F:Fnn}{R:Type}
section
variable {A X Y Z:Type} [Dft A] [Dft X] [Dft Y] [Dft Z] {t:Tr R A X Y Z}{path:List Nat}{env:Env}{rv:R->RV}{pn:A->Env}{px:X->Nat×Env}{py:Y->Nat×Env}{pz:Z->Nat×Env}
theorem EV(G:Good P tt sp)(subs:Ch R)(hs:Ri P tt N fr C F subs)(tb:List (Nat×Nat))(af:List (Nat×Bool×Nat))
  (h:runT tt sp N F (kpF N.n F C) tb af subs (Ba C path) path env (kn0 pn) (kx0 px py pz)=t.toE rv pn px py pz:=by kernel_rfl):Qc P tt N fr C F (pcT t path env rv pn px py pz):=ft G subs hs _ tb af t rfl rfl h
theorem Nd(G:Good P tt sp)(subs:Ch R)(hs:Ri P tt N fr C F subs)
  (h:runT tt sp N F (kpF N.n F C) [] [] subs (Ba C path) path env (kn0 pn) (kx0 px py pz)=t.toE rv pn px py pz:=by kernel_rfl):Qc P tt N fr C F (pcT t path env rv pn px py pz):=ft G subs hs _ [] [] t rfl rfl h
theorem fa(G:Good P tt sp)(S:Env->Ys R)(hs:∀e,Qc P tt N fr C F (S e).S)
  (h:runT tt sp N F (kpF N.n F C) [] [] [S] (Ba C path) path env (kn0 pn) (kx0 px py pz)=t.toE rv pn px py pz:=by kernel_rfl):Qc P tt N fr C F (pcT t path env rv pn px py pz):=ft G [S] ⟨hs,trivial⟩ _ [] [] t rfl rfl h
theorem ja(G:Good P tt sp)(h:runT tt sp N F (kpF N.n F C) [] [] [] (Ba C path) path env (kn0 pn) (kx0 px py pz)=t.toE rv pn px py pz:=by kernel_rfl):Qc P tt N fr C F (pcT t path env rv pn px py pz):=ft G [] trivial _ [] [] t rfl rfl h
end
theorem Aa{σ X Y Z:Type}[Inhabited R]{Sr:σ->Pb R σ X Y Z}{s0:σ}(hb:∀s,Qc P tt N fr C F (Sr s))(hpn:∀s,(Sr s).pn=λs'=>(Sr s').env:=by exact λ_=>rfl)
  (hp:∀s,(Sr s).path=0::(Sr s0).path.tail/\(Sr s).rv=(Sr s0).rv/\(Sr s).px=(Sr s0).px/\(Sr s).py=(Sr s0).py/\(Sr s).pz=(Sr s0).pz:=by exact λ_=>⟨rfl,rfl,rfl,rfl,rfl⟩)
  (hc:jt (Ba C (Sr s0).path.tail)=true:=by kernel_rfl):Qc P tt N fr C F (pcL Sr s0):=tV Sr s0 hpn hp hc hb
end
@[reducible] def Cur:List PT->Type->Type
  |[],T=>T
  |p::r,T=>p.T->Cur r T
@[reducible] def unc {T:Type}:(l:List PT)->Cur l T->ib l->T
  |[],v,_=>v
  |_::r,v,x=>unc r (v x.1) x.2
abbrev spF(pts:List PT)(rt:RT)(v:Cur pts rt.T)(p:Cur pts Prop):Spec:=⟨pts,rt,false,λx=>(unc pts v x,0),λx=>unc pts p x⟩
abbrev spR(pts:List PT)(rt:RT)(v:Cur pts (rt.T×Int))(p:Cur pts Prop):Spec:=⟨pts,rt,true,λx=>unc pts v x,λx=>unc pts p x⟩
section
variable {P:Program}{tt:TT}{sp:SP}
theorem ua{pts:List PT}{F:Fnn}{o:ib pts->Oc Empty F.rt.T Empty Empty Empty}{ob:ib pts->Prop}{f:Nat}{fn:Func}(G:Good P tt sp)
  (h:∀(x:ib pts) (fr:Fr),OkF P tt fn F F.rt.T fr (Pb.mk (o x) (ob x) [] (Wb pts x 0) (λq=>(some (F.rt.av q),.dead)) nE nE nE nE)) (hF:(P.funcs[f]?,fn.name == "runtime.NumGoroutine",fn.body,fn.results,Nat.ble pts.length fn.ntmps,Ya pts 0)=(some fn,false,some (ee fn),F.rs.toArray,true,F.rd):=by kernel_rfl) (hn:F.rd=none:=by exact rfl):Con P f ⟨pts,F.rt,false,λx=>(ocR (o x),0),ob⟩:=by
 obtain⟨rs,rt,rd,fz⟩:=F;cases hn;simp only[Prod.mk.injEq]at hF;obtain⟨h1,h2,h3,h4,h5,h6⟩:=hF;exact uV G h1 h2 h3 h4 h5 (λ_=>h6) h6 (λx=>Pb.mk (o x) (ob x) [] (Wb pts x 0) (λq=>(some (rt.av q),.dead)) nE nE nE nE) (λ_=>⟨rfl,rfl,rfl,rfl,rfl⟩) h
theorem Ze{pts:List PT}{F:Fnn}{k:Nat}{o:ib pts->Oc Empty (F.rt.T×Int) Empty Empty Empty}{ob:ib pts->Prop}{f:Nat}{fn:Func}(G:Good P tt sp)(bs:ib pts->List Int)
  (h:∀(x:ib pts) (fr:Fr),OkF P tt fn F (F.rt.T×Int) fr (Pb.mk (o x) (ob x) [] (Wb pts x 0) (λq=>(some (F.rt.av q.1),.box [(.sh,.lst .byte (bs x)),(.fr,.int .i64 q.2)])) nE nE nE nE)) (hF:(P.funcs[f]?,fn.name == "runtime.NumGoroutine",fn.body,fn.results,Nat.ble pts.length fn.ntmps,Ya pts 0)=(some fn,false,some (ee fn),F.rs.toArray,true,F.rd):=by kernel_rfl) (hn:F.rd=some k:=by exact rfl) (hr:Ji F.rt=false:=by exact rfl)
  (hb:∀x,rdB pts x=some (bs x):=by exact λ_=>rfl):Con P f ⟨pts,F.rt,true,λx=>ocR (o x),ob⟩:=by
 obtain⟨rs,rt,rd,fz⟩:=F;cases hn;simp only[Prod.mk.injEq]at hF;obtain⟨h1,h2,h3,h4,h5,h6⟩:=hF;exact vV G h1 h2 h3 h4 h5 (λh=>by rw[show Ji rt=false from hr]at h;cases h) h6 bs hb (λx=>Pb.mk (o x) (ob x) [] (Wb pts x 0) (λq=>(some (rt.av q.1),.box [(.sh,.lst .byte (bs x)),(.fr,.int .i64 q.2)])) nE nE nE nE) (λ_=>⟨rfl,rfl,rfl,rfl,rfl⟩) h
end
section
variable {N:NP}{B:Nat}{IoB:List Nat}{W0:World}{F0:Fz}{obs:List (Nat×Obj)}{e:Env}{a:Act}{w:World}
end
section
variable {F:Fz}{B:Nat}{w w1:World}{b:Nat}{o:Option Nat->Option Nat}
theorem ya.dropL(hsl:∀o u,F b o->w.cell? ⟨b,o,none⟩=some u->Si u=true){lo:Nat}{ob:Option Nat}{t:Ty}{ys:List t.T}{v:Value}(ht:t.nol=true)(h:ya F lo w ob (.lst t ys) v):ya (λb' o=>F b' o/\b'≠b) lo w ob (.lst t ys) v:=by
 refine⟨RC.drop hsl h.1 ht,?_⟩;rcases h.2 with h2|⟨t3,zs,b2,cap2,hh,q1,q2,q3,q4,q5,q6⟩
 .exact .inl h2
 .exact .inr ⟨t3,zs,b2,cap2,hh,q1,q2,q3,q4,q5,λo ho hF=>q6 o ho hF.1⟩
theorem rb.dropL(hsl:∀o u,F b o->w.cell? ⟨b,o,none⟩=some u->Si u=true){ob:Option Nat}{kc:K×C}{v:Value}(hk:Yj kc=true)(h:rb F B w ob kc v):rb (λb' o=>F b' o/\b'≠b) B w ob kc v:=by
 obtain⟨k,c⟩:=kc;cases k with
 |sh=>exact RC.drop hsl h hk
 |fr=>exact RC.drop hsl h hk
 |acc f=>
  cases c with
  |lst t ys=>exact ya.dropL hsl hk h
  |_=>simp[Yj]at hk
 |own f=>simp[Yj]at hk
theorem VR.dropL(hsl:∀o u,F b o->w.cell? ⟨b,o,none⟩=some u->Si u=true){av:AV}{v:Value}(ha:okL av=true)(h:VR F B w o av v):VR (λb' o=>F b' o/\b'≠b) B w o av v:=by
 cases av with
 |dead=>trivial
 |v k c=>
  cases k with
  |sh=>exact RC.drop hsl h ha
  |fr=>exact RC.drop hsl h ha
  |acc f=>
   cases c with
   |lst t2 ys=>exact ya.dropL hsl ha h
   |_=>simp[okL]at ha
  |own f2=>
   cases c with
   |lst t2 ys=>
    rcases h with h|⟨t3,zs,b2,cap2,hh,hj,q1,q2,q3,q4,q5,hi,q6,q7,q8,q9⟩
    .exact .inl h
    .refine .inr ⟨t3,zs,b2,cap2,hh,hj,q1,q2,q3,q4,q5,hi,q6,λo hF=>q7 o hF.1,q8,λi j x c hx hcc=>?_⟩;cases q1;exact RC.drop hsl (q9 i j x c hx hcc) (jL ha hcc)
   |_=>simp[okL]at ha
 |agg f2 hh=>
  obtain⟨us,q1,q2⟩:=h;refine⟨us,q1,RCs.mk q2.length (λj c v hc hv=>?_)⟩;obtain⟨v2,q3,q4⟩:=q2.get hc;rw[hv]at q3;cases q3;exact RC.drop hsl q4 (am ha hc)
 |box hh=>
  obtain⟨b2,us,q1,q2,q3,q4,q5,q6⟩:=h;exact⟨b2,us,q1,q2,q3,λo hF=>q4 o hF.1,q5,λj kc u hk hu=>rb.dropL hsl (am ha hk) (q6 j kc u hk hu)⟩
 |_=>simp[okL]at ha
theorem ya.extL{F':Fz}(h1:∀b o,F' b o->F b o)(h2:∀b' o,F b' o->F' b' o\/b'=b){lo:Nat}{ob:Option Nat}(hob:ob≠some b){c:C}{v:Value}(h:ya F' lo w ob c v):ya F lo w ob c v:=by
 refine⟨h.1.mono h1 (Nat.le_refl _) (λ_ _ _=>rfl),?_⟩;rcases h.2 with h|⟨t3,zs,b2,cap2,hh,q1,q2,q3,q4,q5,q6⟩
 .exact .inl h
 .exact .inr ⟨t3,zs,b2,cap2,hh,q1,q2,q3,q4,q5,λo ho hF=>(h2 _ _ hF).elim (q6 o ho) λe=>hob (e▸q3)⟩
theorem rb.extL{F':Fz}(h1:∀b o,F' b o->F b o)(h2:∀b' o,F b' o->F' b' o\/b'=b){ob:Option Nat}(hob:ob≠some b){kc:K×C}{v:Value}(h:rb F' B w ob kc v):rb F B w ob kc v:=by
 have rc:∀ {lo:Nat}{c:C}{v:Value},RC F' lo w c v->RC F lo w c v:=λh=>h.mono h1 (Nat.le_refl _) (λ_ _ _=>rfl);obtain⟨k,c⟩:=kc;cases k with
 |sh=>exact rc h
 |fr=>exact rc h
 |acc f=>exact ya.extL h1 h2 hob h
 |own f=>exact h
theorem VR.extL{F':Fz}(h1:∀b o,F' b o->F b o)(h2:∀b' o,F b' o->F' b' o\/b'=b)(hob:∀i,o i≠some b){av:AV}{v:Value}(h:VR F' B w o av v):VR F B w o av v:=by
 have rc:∀ {lo:Nat}{c:C}{v:Value},RC F' lo w c v->RC F lo w c v:=λh=>h.mono h1 (Nat.le_refl _) (λ_ _ _=>rfl);cases av with
 |dead=>trivial
 |v k c=>
  cases k with
  |sh=>exact rc h
  |fr=>exact rc h
  |acc f=>exact ya.extL h1 h2 (hob none) h
  |own f2=>
   rcases h with h|⟨t3,zs,b2,cap2,hh,hj,q1,q2,q3,q4,q5,hi,q6,q7,q8,q9⟩
   .exact .inl h
   .exact .inr ⟨t3,zs,b2,cap2,hh,hj,q1,q2,q3,q4,q5,hi,q6,λo hF=>(h2 _ _ hF).elim (q7 o) λe=>hob none (e▸q3),q8,λi j x c hx hcc=>rc (q9 i j x c hx hcc)⟩
 |agg f2 hh=>obtain⟨us,q1,q2⟩:=h;exact⟨us,q1,q2.mono h1 (Nat.le_refl _) (λ_ _ _=>rfl)⟩
 |tup l=>obtain⟨us,q1,q2⟩:=h;exact⟨us,q1,q2.mono h1 (Nat.le_refl _) (λ_ _ _=>rfl)⟩
 |box hh=>
  obtain⟨b2,us,q1,q2,q3,q4,q5,q6⟩:=h;exact⟨b2,us,q1,q2,q3,λo hF=>(h2 _ _ hF).elim (q4 o) λe=>hob none (e▸q2),q5,λj kc u hk hu=>rb.extL h1 h2 (hob _) (q6 j kc u hk hu)⟩
 |cond k a=>exact h.elim
 |view s i=>exact h.elim
 |baddr s i=>exact h.elim
 |faddr f cs=>exact h.elim
 |oaddr s i j=>exact h.elim
end
def rm(j:Nat):Nat->List (K×C)->Bool
 |_,[]=>true
 |i,kc::r=>(Nat.beq i j||Yj kc)&&rm j (i+1) r
theorem rL{j:Nat}:∀ {l:List (K×C)}{i n:Nat}{kc:K×C},rm j i l=true->l[n]? = some kc->i+n≠j->Yj kc=true
 |[],_,_,_,_,h,_=>by simp at h
 |x::r,i,0,kc,h,hx,hn=>by
  simp only[rm,Bool.and_eq_true,Bool.or_eq_true]at h;simp at hx;subst hx;exact h.1.resolve_left λe=>hn (Nat.eq_of_beq_eq_true e)
 |x::r,i,n+1,kc,h,hx,hn=>by
  simp only[rm,Bool.and_eq_true]at h;exact rL h.2 (by simpa using hx) (by omega)
theorem ga.pokeL{B:Nat}{IoB:List Nat}{F0 F:Fz}{e:Env}{tm:Nat->Value}{w w1:World}{ow:Nat->Option Nat->Option Nat}(hs:ga B IoB F0 e tm w F ow)(_hf0:∀b o,F0 b o->b<B/\b ∉ IoB){s j:Nat}{cs:List (K×C)}{f:Bool}{t:Ty}{xs:List t.T}
  (hg:ca e s=.box cs) (hj:cs[j]? = some (.acc f,.lst t xs)) (ht:t.sl=true) (hok:qm s e=true) (hno:rm j 0 cs=true) {bx:Nat} (hbx:tm s=.pointer (some ⟨bx,0,none⟩)) {b cap:Nat}{u:Value} (hu:w.cell? ⟨bx,j,none⟩=some u) (hub:u=.slice (some ⟨b,0,none⟩) xs.length cap)
  {i:Nat} (hi:i<xs.length) {y:t.T}{vy:Value} (hy:∀c,(cells t y)[0]? = some c->RC F (lof B f) w c vy) (hp:Pk w b w1) (hc1:∀k,k≠i->w1.cell? ⟨b,k,none⟩=w.cell? ⟨b,k,none⟩) (hci:w1.cell? ⟨b,i,none⟩=some vy)
  (hbl:∀vs,Blk w b vs->∃vs',Blk w1 b vs'/\vs'.length=vs.length) :
  ga B IoB F0 (Ma e s (.box (cs.set j (.acc f,.lst t (xs.set i y))))) tm w1 F ow:=by
 obtain⟨hh,us,q1,q2,q3,q4,q5,q6⟩:=hs.box hg;rw[hbx]at q1;have ie:hh=bx:=by simpa using q1.symm
 subst ie;have kj:j<us.length:=by rw[q5];exact(List.getElem?_eq_some_iff.1 hj).1
 have kz:us[j]? = some u:=by
  rw[q3.cell]at hu;exact hu
 have it:ya F (lof B f) w (ow s (some j)) (.lst t xs) u:=q6 j _ u hj kz;obtain⟨kr,hd⟩:=it;rcases hd with⟨t0,e1,e2⟩|⟨t0,kb,b0,hl,cb,e1,e2,e3,e4,e5,e6⟩
 .rw[hub]at e2;cases e2
 have e1:C.lst t xs=.lst t0 kb:=e1;cases e1;rw[hub]at e2;have ix:b0=b/\hl=cap:=by simp at e2;exact⟨e2.1.symm,e2.2.symm⟩
 obtain⟨rfl,rfl⟩:=ix;have hsz:t.size=1:=zV ht;rw[hub]at kr;cases kr with
 |lst _ _ _ o cap' vs hb hcap hf hc hr=>
  have hz:Mn B IoB b0:=(hs.bd s (some j) b0 e3).2
  have ky:∀o u,F b0 o->w.cell? ⟨b0,o,none⟩=some u->Si u=true:=by
   intro o u io hu
   have ho:o<xs.length:=by
    by_cases h:o<xs.length
    .exact h
    .exact absurd io (e6 o (by rw[hsz];omega))
   have h1:=hc o 0 ho (by omega);rw[hsz,Nat.zero_add,Nat.mul_one,Nat.add_zero]at h1;rw[h1]at hu;cases hu;have ju:(cells t xs[o])[0]? = some ((cells t xs[o])[0]'(by rw[we];omega)):=List.getElem?_eq_getElem _;exact BV ht ju (hr _ _ _ _ (List.getElem?_eq_getElem ho) ju)
  let F':Fz:=λb' o=>F b' o/\b'≠b0;have he:∀b o,F' b o->F b o:=λ_ _ h=>h.1
  have ih:∀b' o,F b' o->F' b' o\/b'=b0:=λb' o h=>by
   by_cases e:b'=b0
   .exact .inr e
   .exact .inl ⟨h,e⟩
  have kx:Ke F' w w1:=hp.same λo h=>h.2 rfl;have ks:∀ {lo:Nat}{c:C}{v:Value},noL c=true->RC F lo w c v->RC F lo w1 c v:=λhc h=>((RC.drop ky h hc).poke hp kx).mono he (Nat.le_refl _) (λ_ _ _=>rfl);have kn:hh≠b0:=λe=>by have:=(hs.inj s none s (some j) b0 (e▸q2) e3).2;cases this
  have kk:Live F w1:=λb' o h=>by
   by_cases e:b'=b0
   .subst e
    have ho:o<xs.length:=by
     by_cases h2:o<xs.length
     .exact h2
     .exact absurd h (e6 o (by rw[hsz];omega))
    by_cases e2:o=i
    .rw[e2,hci];rfl
    .rw[hc1 o e2];exact hs.live _ _ h
   .rw[cell_of_heap (hp.block b' e)];exact hs.live _ _ h
  refine⟨hs.sub,hs.new,kk,hs.inj,λn k b hn=>by rw[hp.size];exact hs.bd n k b hn,λn=>?_⟩;have ki:∀m,m≠s->ca (Ma e s (.box (cs.set j (.acc f,.lst t (xs.set i y))))) m=ca e m:=λm hm=>by rw[Fa,if_neg hm]
  rw[Fa];by_cases hn:n=s
  .rw[if_pos hn,hn];refine⟨hh,us,hbx,q2,q3.same (hp.block hh kn),q4,by rw[List.length_set];exact q5,λk kc v hk hv=>?_⟩;by_cases hkj:k=j
   .subst hkj;rw[List.getElem?_set_self (by rw[<-q5];exact kj)]at hk;cases hk;rw[kz]at hv;cases hv;rw[hub];obtain⟨hw,g1,g2⟩:=hbl cb e4;refine⟨?_,.inr ⟨t,xs.set i y,b0,hl,hw,rfl,by rw[List.length_set],e3,g1,g2.trans e5,λo ho=>e6 o (by rwa [List.length_set]at ho)⟩⟩;have km:(xs.set i y).length=xs.length:=List.length_set
    have hL:=RC.lst (F:=F) (lo:=lof B f) (w:=w1) t (xs.set i y) b0 0 hl (λk q=>if k=i then vy else vs k q) hb (by rw[km];exact hcap) (λk q hk hq=>hf k q (by omega) hq) (λk q hk hq=>by
     have kq:q=0:=by omega
     subst kq;by_cases hki:k=i
     .subst hki;simp only[if_true];rw[hsz,Nat.zero_add,Nat.mul_one,Nat.add_zero];exact hci
     .simp only[hki,if_false];have h1:=hc k 0 (by omega) hq;rw[hsz,Nat.zero_add,Nat.mul_one,Nat.add_zero]at h1⊢;rw[hc1 k hki];exact h1) (λk q x c hx hcc=>by
     have kq:q=0:=by have:=(List.getElem?_eq_some_iff.1 hcc).1;rw[we]at this;omega
     subst kq;by_cases hki:k=i
     .subst hki;rw[List.getElem?_set_self hi]at hx;cases hx;simp only[if_true];exact ks (kL ht hcc) (hy c hcc)
     .simp only[hki,if_false];rw[List.getElem?_set_ne (by omega)]at hx;exact ks (kL ht hcc) (hr k 0 x c hx hcc))
    rw[km]at hL;exact hL
   .rw[List.getElem?_set_ne (by omega)]at hk;have kp:ow s (some k)≠some b0:=λe=>hkj (by have:=(hs.inj s (some k) s (some j) b0 e e3).2;simpa using this);exact rb.extL he ih kp ((rb.dropL ky (rL hno hk (by omega)) (q6 k kc v hk hv)).poke hp kx kp)
  .rw[if_neg hn];have ha:=iL hok n hn;have jb:=xV ha;have h:=hs.sr n;rw[Le jb]at h⊢;have kp:∀k,ow n k≠some b0:=λk e=>hn (hs.inj n k s (some j) b0 e e3).1;exact VR.extL he ih kp ((VR.dropL ky ha h).poke hp kx kp)
structure ut(P:Program)(f:Nat)(v:Sess->Sess)(p:Sess->Prop):Prop where
 fn:∃fn,P.funcs[f]? = some fn/\(fn.name == "runtime.NumGoroutine")=false/\fn.body.isNone=false
 call:∀(y:Sess),p y->∀(w:World) (F:Fz) (us:List Value),Live F w->RCs F 0 w (cells .sess y) us ->
  Calls P f #[.agg us.toArray] w (λe w'=>∃vs F' ob,e=.returned (.agg vs.toArray)/\Left F w none F' w'/\RCs F' 0 w' (cells .sess (v y)) vs/\(∀b,ob=some b->w.heap.size<=b/\b<w'.heap.size)/\∃u,vs[3]? = some u/\ya F' 0 w' ob (.lst .lrow (v y).Ins) u)
abbrev md(y:Sess):AV:=.box [(.fr,.i y.Plan.Kind),(.fr,.i y.Plan.Num),(.sh,.lst .plan y.Plan.Kids),(.acc false,.lst .lrow y.Ins),(.sh,.lst .time y.Front),(.sh,.lst .row y.Told)]
abbrev boxS(y:Sess):AV:=.box [(.fr,.i y.Plan.Kind),(.fr,.i y.Plan.Num),(.sh,.lst .plan y.Plan.Kids),(.sh,.lst .lrow y.Ins),(.sh,.lst .time y.Front),(.sh,.lst .row y.Told)]
abbrev um:AV:=.box [(.fr,.i 0),(.fr,.i 0),(.fr,.nl .plan),(.fr,.nl .lrow),(.fr,.nl .time),(.fr,.nl .row)]
theorem tL{cs us:List Value}(h:us.length=cs.length):fb cs 0 us=us:=by
 unfold fb;rw[h,Nat.zero_add,List.drop_length,List.take_zero,List.nil_append,List.append_nil]
section
variable {P:Program}{tt:TT}{sp:SP}{a:Act}{w:World}
theorem uL{o:Oper}{t x:Nat}(hop:o.op=.load t (.tmp x)){b:Nat}(hx:a.tmps.getD x undef=.pointer (some ⟨b,0,none⟩)){d:TD}(hd:Cb P t d)(ha:isAgg d=true){us:List Value}(hb:Blk w b us)(hl:us.length=d.size) :
  (execOp a.eval o).run P w=.ok (.value (.agg us.toArray)) w:=by
 obtain⟨hh,op,ty,pos,aft,gd⟩:=o;simp only[]at hop;subst hop;have hl:=zi hd ha (w:=w) (b:=b) (o:=0) hl (λj u h=>by rw[Nat.zero_add,hb.cell];exact h);exact Ld (s:=Instr.loadAt t (a.tmps.getD x undef)) rfl (by rw[hx];exact hl)
theorem DE{o:Oper}{t x y:Nat}(hop:o.op=.store t (.tmp x) (.tmp y)){b p:Nat}(hx:a.tmps.getD x undef=.pointer (some ⟨b,p,none⟩)){d:TD}(hd:Cb P t d){cs:List Value}(hb:Blk w b cs){v:Value}(hv:a.tmps.getD y undef=v)(hl:v.cells.toList.length=d.size)(hfit:p+v.cells.toList.length<=cs.length)(h1:∀u∈v.cells.toList,u.oneCell'=true) :
  (execOp a.eval o).run P w=.ok .skip (w.setRow b (fb cs p v.cells.toList).toArray):=by
 obtain⟨hh,op,ty,pos,aft,gd⟩:=o;simp only[]at hop;subst hop;have hr:=FJ hd hb hl hfit h1;have hj:a.eval (.tmp x)=.pointer (some ⟨b,p,none⟩):=hx;have hi:a.eval (.tmp y)=v:=hv;simp[execOp,hj,hi,hr]
theorem FV{o:Oper}{t:Nat}(hop:o.op=.alloc t){d:TD}(hd:Cb P t d):∃zs:List Value,zs.length=d.zero.length/\(execOp a.eval o).run P w=.ok (.value (.pointer (some ⟨w.heap.size,0,none⟩))) (w.alloc (.cells zs.toArray t)):=by
 obtain⟨hh,op,ty,pos,aft,gd⟩:=o;simp only[]at hop;subst hop;obtain⟨z,hz,hi⟩:=hd.zeroV w;exact⟨z.cells.toList,by rw[Jj hi,List.length_map],by simp[execOp,Instr.alloc,hz,newVar,newRow]⟩
theorem GV{o:Oper}{t x m:Nat}{i:Int}{k:IntKind}(hop:o.op=.indexAddr t (.tmp x) (.tmp m))(hm:a.tmps.getD m undef=.int k i){b f len cap:Nat}(hx:a.tmps.getD x undef=.slice (some ⟨b,f,none⟩) len cap)(h0:0<=i)(hn:i<len)
  {e sz:Nat} (he:P.underlying t=some (.slice e)) (hz:∀w,(sizeOf e).run P w=.ok sz w):(execOp a.eval o).run P w=.ok (.value (.pointer (some ⟨b,f+i.toNat*sz,none⟩))) w:=by
 obtain⟨hh,op,ty,pos,aft,gd⟩:=o;simp only[]at hop;subst hop;refine Ld (s:=Instr.indexAt t (a.tmps.getD x undef) (a.tmps.getD m undef)) rfl ?_;rw[hx,hm];exact Tl he hz h0 hn
theorem rb.rcZ{F:Fz}{B:Nat}{ob:Option Nat}{kc:K×C}{v:Value}(h:rb F B w ob kc v):RC F 0 w kc.2 v:=by
 obtain⟨k,c⟩:=kc;cases k with
 |sh=>exact h
 |fr=>exact RC.lo0 h
 |acc f=>exact RC.lo0 h.1
 |own f=>exact h.elim
theorem vL{F:Fz}{cs:List C}{us:List Value}(hl:cs.length=us.length)(h:∀(j:Nat) (c:C) (u:Value),cs[j]? = some c->us[j]? = some u->RC F 0 w c u):RCs F 0 w cs us:=RCs.mk hl (λj c v hc hv=>h j c v hc hv)
theorem wL{F:Fz}{cs:List C}{us:List Value}(h:RCs F 0 w cs us):∀u∈us,u.oneCell'=true:=by
 induction h with
 |nil=>intro u hu;cases hu
 |cons h _ ih=>
  intro u hu;rcases List.mem_cons.1 hu with rfl|hu
  .exact RC.one h
  .exact ih u hu
theorem HV(htt:Ub P tt){t:Nat}{d:TD}(hlk:lk tt t=some d)(hag:isAgg d=true)(hsz:d.size=6){fn:Func}{X R d0:Nat}(hrs:fn.results=[ResultVar.cell R t].toArray)(hXR:X≠R)(hd0:d0≠R)(_hdX:d0≠X)
  {c c1 c2:Code} (hc:c=.seq c1 c2) (hc1:c1=.region (Gg c1) (opsOf c1) false) (hr:List.range (opsOf c1).size=[0,1]) {o0 o1:Oper} (h0:(opsOf c1)[0]? = some o0) (h1:(opsOf c1)[1]? = some o1)
  (p0:o0.op=.load t (.tmp X)) (q0:o0.dst=some d0) (g0:o0.guard=none) (p1:o1.op=.store t (.tmp R) (.tmp d0)) (q1:o1.dst=none) (g1:o1.guard=none) (hc2:c2=.ret)
  {N:NP}{W0:World}{F0:Fz}{y:Sess} (hs:Sim N W0.heap.size [] W0 F0 [(R,um),(X,md y)] a w) (hd0n:d0<a.tmps.size) {Q:Exit->Act->World->Prop}
  (hQ:∀a' w',a'.defers=[]->(∃vs F' ob,(results fn a'.tmps).run P w'=.ok (.agg vs.toArray) w'/\Left F0 W0 none F' w'/\RCs F' 0 w' (cells .sess y) vs/\(∀b,ob=some b->W0.heap.size<=b/\b<w'.heap.size)/\∃u,vs[3]? = some u/\ya F' 0 w' ob (.lst .lrow y.Ins) u)->Q .ret a' w'):c.wp P Q a w:=by
 have hq:=htt.td _ _ hlk;obtain⟨F,ow,hx⟩:=hs.rep;have gR:ca ([(R,um),(X,md y)]:Env) R=um:=by simp[ca,Nat.beq_refl]
 have gX:ca ([(R,um),(X,md y)]:Env) X=md y:=by simp[ca,Nat.beq_refl,Ue (n:=R) (d:=X) (λe=>hXR e.symm)]
 obtain⟨bX,us,e1,e2,e3,e4,e5,e6⟩:=hx.box gX;obtain⟨bR,zs,f1,f2,f3,f4,f5,_⟩:=hx.box gR;have e1:a.tmps.getD X undef=.pointer (some ⟨bX,0,none⟩):=e1;have f1:a.tmps.getD R undef=.pointer (some ⟨bR,0,none⟩):=f1;have ha:us.length=6:=e5;have he:zs.length=6:=f5
 have hy:RCs F 0 w (cells .sess y) us:=by
  refine vL ha.symm λj c u hc hu=>?_
  match j,hc with
  |0,hc=>simp[cells]at hc;subst hc;exact(e6 0 _ u rfl hu).rcZ
  |1,hc=>simp[cells]at hc;subst hc;exact(e6 1 _ u rfl hu).rcZ
  |2,hc=>simp[cells]at hc;subst hc;exact(e6 2 _ u rfl hu).rcZ
  |3,hc=>simp[cells]at hc;subst hc;exact(e6 3 _ u rfl hu).rcZ
  |4,hc=>simp[cells]at hc;subst hc;exact(e6 4 _ u rfl hu).rcZ
  |5,hc=>simp[cells]at hc;subst hc;exact(e6 5 _ u rfl hu).rcZ
  |j+6,hc=>simp[cells]at hc
 obtain⟨u,hu⟩ : ∃u,us[3]? = some u:=⟨_,List.getElem?_eq_getElem (by omega)⟩;have hm:ya F 0 w (ow X (some 3)) (.lst .lrow y.Ins) u:=e6 3 _ u rfl hu;refine ma hc ?_;refine Gc hc1 hr ?_;rw[wpOps_cons];refine ra h0 g0 ?_;refine Ra (uL p0 e1 hq hag e3 (ha.trans hsz.symm)) ?_;rw[q0,wpOps_cons];have hw:=Ga a d0 (Value.agg us.toArray) hd0n;have hh:(a.put (some d0) (.agg us.toArray)).tmps.getD R undef=.pointer (some ⟨bR,0,none⟩):=by rw[hw R,if_neg (λe=>hd0 e.symm)];exact f1
 have hj:(a.put (some d0) (.agg us.toArray)).tmps.getD d0 undef=.agg us.toArray:=by rw[hw d0,if_pos rfl]
 have ho:(Value.agg us.toArray).cells.toList=us:=rfl;refine ra h1 g1 ?_;refine Oi (DE p1 hh hq f3 hj (by rw[ho];exact ha.trans hsz.symm) (by rw[ho];omega) (by rw[ho];exact wL hy)) ?_;rw[q1,ho,tL (ha.trans he.symm)];refine sc _ ?_;have hp:=Blk.poke f3 us;have hz:Ke F w (w.setRow bR us.toArray):=hp.same f4;have ht:ow X (some 3)≠some bR:=λe=>hXR (hx.inj _ _ _ _ _ e f2).1;have hn:∀ {s i b},ow s i=some b->W0.heap.size<=b/\b<w.heap.size:=λh=>⟨(hx.bd _ _ _ h).2.elim id λh=>by simp at h,(hx.bd _ _ _ h).1⟩;show c2.wp P Q _ _;refine Pi hc2 (hQ _ _ hs.defers ⟨us,F,ow X (some 3),?_,⟨hp.os.trans hs.kept.os,hp.tape.trans hs.kept.tape,hp.output.trans hs.kept.output,by rw[hp.size];exact hs.kept.size,λk hk _=>?_,hx.sub,λb o hb=>?_,λb o hb=>?_⟩,hy.poke hp.toPk hz,λb hb=>?_,u,hu,ya.poke hp.toPk hz ht hm⟩)
 .refine Ls hrs (vs:=[.agg us.toArray]) rfl (λj rv v hr hv=>?_);cases j with
  |zero=>
   simp at hr hv;subst hr;subst hv;have hl:=zi (P:=P) hq hag (w:=w.setRow bR us.toArray) (b:=bR) (o:=0) (ha.trans hsz.symm) (λj u h=>by rw[Nat.zero_add,hp.blk.cell];exact h);have hl:(loadVar t ⟨bR,0,none⟩).run P (w.setRow bR us.toArray)=.ok (.agg us.toArray) (w.setRow bR us.toArray):=by simpa [Instr.loadAt,Instr.sureAddr] using hl
   have hi:((a.put (some d0) (.agg us.toArray)).put none undef).tmps.getD R undef=.pointer (some ⟨bR,0,none⟩):=hh;simp only[Bf,hi,asAddr,Sem.run_bind,Sem.run_pure,Result.andThen_ok,hl]
  |succ j=>simp at hr
 .rw[hp.block k (λe=>by have:=(hn f2).1;omega)];exact hs.kept.block k hk (by simp)
 .exact (hx.new b o hb).imp_right λh=>h.elim id λh=>by simp at h
 .rw[hz b o hb];exact hx.live b o hb
 .rw[hp.size];exact hn hb
theorem IV(G:Good P tt sp){v:Sess->Sess}{p:Sess->Prop}{f:Nat}(hK:ut P f v p)(t s d0 d1 x:Nat){N:NP}{fr:Fr}{Cd:Code}{F:Fnn}{R A X Y Z:Type}{S:Pb R A X Y Z}{y:Sess}{q:A}(pat:List (Nat×Tk))(T:Tr R A X Y Z)
  (hT:T=.w [p y] (.l (.n q)):=by exact rfl) (ho:S.o=T.val:=by exact rfl) (hb:S.ob=T.ob:=by exact rfl)
  (hlk:(lk tt t).map (λd=>(isAgg d,d.size,d.zero.length))=some (true,6,6):=by kernel_rfl)
  (hC:Ba Cd S.path=.region (Gg (Ba Cd S.path)) (opsOf (Ba Cd S.path)) false:=by kernel_rfl)
  (hops:(opsOf (Ba Cd S.path)).toList.map (λo=>(o.op,o.dst,o.guard))=[(.load t (.tmp s),some d0,none),(.call ⟨.value (.func f),#[.tmp d0],#[t]⟩,some d1,none),(.alloc t,some x,none),(.store t (.tmp x) (.tmp d1),none,none)]:=by kernel_rfl)
  (hok:(ce S.env&&(Ja (ca S.env d0)&&(Ja (ca S.env d1)&&(Ja (ca S.env x)&&(N.ok d0&&(N.ok d1&&(N.ok x&&(!(Nat.beq d0 d1)&&(!(Nat.beq d0 x)&&!(Nat.beq d1 x))))))))))=true:=by kernel_rfl)
  (hg:ca S.env s=boxS y:=by kernel_rfl) (hpn:bg ((x,md (v y))::S.env) pat=some (S.pn q):=by kernel_rfl):Qc P tt N fr Cd F S:=by
 intro lo a w hs;subst hT;rw[hb]at lo;have mp:p y:=lo.1.1;simp only[Bool.and_eq_true,Bool.not_eq_true']at hok;obtain⟨k1,k2,k3,k4,k5,k6,k7,k8,k9,pz⟩:=hok;have li:∀ {m n:Nat},Nat.beq m n=false->m≠n:=λh e=>by rw[e,Nat.beq_refl]at h;cases h
 obtain⟨d,hd,it⟩:=Option.map_eq_some_iff.1 hlk;simp only[Prod.mk.injEq]at it;obtain⟨ht,hsz,hz⟩:=it;have ix:=G.htt.td _ _ hd;obtain⟨F1,ow,hx⟩:=hs.rep;obtain⟨bS,us,e1,e2,e3,e4,e5,e6⟩:=hx.box hg;have e1:a.tmps.getD s undef=.pointer (some ⟨bS,0,none⟩):=e1;have pi:us.length=6:=e5
 have nt:RCs F1 0 w (cells .sess y) us:=by
  refine vL pi.symm λj c u hc hu=>?_
  match j,hc with
  |0,hc=>simp[cells]at hc;subst hc;exact(e6 0 _ u rfl hu).rcZ
  |1,hc=>simp[cells]at hc;subst hc;exact(e6 1 _ u rfl hu).rcZ
  |2,hc=>simp[cells]at hc;subst hc;exact(e6 2 _ u rfl hu).rcZ
  |3,hc=>simp[cells]at hc;subst hc;exact(e6 3 _ u rfl hu).rcZ
  |4,hc=>simp[cells]at hc;subst hc;exact(e6 4 _ u rfl hu).rcZ
  |5,hc=>simp[cells]at hc;subst hc;exact(e6 5 _ u rfl hu).rcZ
  |j+6,hc=>simp[cells]at hc
 have hlen:(opsOf (Ba Cd S.path)).toList.length=4:=by have:=congrArg List.length hops;simpa using this
 have hv:∀(j:Nat) q,[((.load t (.tmp s):Op),some d0,(none:Option (Nat×Bool))),(.call ⟨.value (.func f),#[.tmp d0],#[t]⟩,some d1,none),(.alloc t,some x,none),(.store t (.tmp x) (.tmp d1),none,none)][j]? = some q->∃o,(opsOf (Ba Cd S.path))[j]? = some o/\o.op=q.1/\o.dst=q.2.1/\o.guard=q.2.2:=λj q hq=>by
  rw[<-hops,List.getElem?_map]at hq;obtain⟨o,h1,h2⟩:=Option.map_eq_some_iff.1 hq;exact⟨o,by rw[<-Array.getElem?_toList];exact h1,by rw[<-h2],by rw[<-h2],by rw[<-h2]⟩
 obtain⟨o0,a0,p0,q0,g0⟩:=hv 0 _ rfl;obtain⟨o1,a1,p1,q1,g1⟩:=hv 1 _ rfl;obtain⟨o2,a2,p2,q2,g2⟩:=hv 2 _ rfl;obtain⟨o3,a3,p3,q3,g3⟩:=hv 3 _ rfl;have nq:List.range (opsOf (Ba Cd S.path)).size=[0,1,2,3]:=by rw[show(opsOf (Ba Cd S.path)).size=4 by simpa using hlen];rfl
 refine Gc hC nq ?_;rw[wpOps_cons];refine ra a0 g0 ?_;refine Ra (uL p0 e1 ix ht e3 (pi.trans hsz.symm)) ?_;rw[q0,wpOps_cons];refine ra a1 g1 ?_;have l0:d0<a.tmps.size:=by rw[hs.tmps.size];exact NP.ok_lt k5
 have l1:d1<a.tmps.size:=by rw[hs.tmps.size];exact NP.ok_lt k6
 have lx:x<a.tmps.size:=by rw[hs.tmps.size];exact NP.ok_lt k7
 have ot:∀(a:Act) (n:Nat) (v:Value),(a.put (some n) v).tmps.size=a.tmps.size:=λa n v=>by simp[Act.put]
 have hh:(a.put (some d0) (.agg us.toArray)).tmps.getD d0 undef=.agg us.toArray:=by rw[Ga a d0 _ l0 d0,if_pos rfl]
 generalize hae:a.put (some d0) (.agg us.toArray)=aa at hh;have ih:=hK.call y mp w F1 us hx.live nt;obtain⟨fn,ju,kb,ha⟩:=hK.fn
 have oj:(execOp aa.eval o1).run P w=.ok (.enter f #[.agg us.toArray]) w:=by
  obtain⟨dst,op,ty,pos,aft,gd⟩:=o1;simp only[]at p1;subst p1;have ke:¬ fn.name="runtime.NumGoroutine":=by simpa using kb
  have he:¬ fn.body=none:=by intro e;rw[e]at ha;simp at ha
  rw[Array.getD_eq_getD_getElem?]at hh;simp[execOp,resolve,Act.eval,Deferred.ofValue,invoke,callFunc,ju,ke,he,hh]
 unfold Oper.wp;rw[oj,Oper.upon_enter];refine ih.mono ?_;rintro e w1 ⟨vs,F2,ob,rfl,kr,pt,lp,u,oy,hr⟩;have hi:fr.B<=w.heap.size:=Nat.le_trans hs.base hs.kept.size;have km:Pa F1 w F2 w1:=⟨kr.os,kr.tape,kr.output,kr.size,λj hj=>kr.block j hj (by simp),kr.sub,kr.new⟩;have hx1:=hx.grow hi km kr.live;show wpOps P _ _ _ (aa.put o1.dst (.agg vs.toArray)) w1;rw[q1,wpOps_cons];refine ra a2 g2 ?_;obtain⟨zs,py,nl⟩:=FV (a:=aa.put (some d1) (.agg vs.toArray)) (w:=w1) p2 ix;refine Ra nl ?_;rw[q2,wpOps_cons];have ki:=Pa.alloc F2 w1 (.cells zs.toArray t);have kq:Live F2 (w1.alloc (.cells zs.toArray t)):=Live.grow kr.live ki;have pw:=hx1.grow (Nat.le_trans hi kr.size) ki kq;have hy:Blk (w1.alloc (.cells zs.toArray t)) w1.heap.size zs:=Blk.new zs t;generalize hw2:w1.alloc (.cells zs.toArray t)=w2 at ki kq pw hy;have ks:aa.tmps.size=a.tmps.size:=by rw[<-hae];exact ot _ _ _
 have hm:((aa.put (some d1) (.agg vs.toArray)).put (some x) (.pointer (some ⟨w1.heap.size,0,none⟩))).tmps.getD x undef=.pointer (some ⟨w1.heap.size,0,none⟩):=by rw[Ga _ x _ (by rw[ot,ks];exact lx) x,if_pos rfl]
 have hl:((aa.put (some d1) (.agg vs.toArray)).put (some x) (.pointer (some ⟨w1.heap.size,0,none⟩))).tmps.getD d1 undef=.agg vs.toArray:=by rw[Ga _ x _ (by rw[ot,ks];exact lx) d1,if_neg (li pz),Ga _ d1 _ (by rw[ks];exact l1) d1,if_pos rfl]
 have io:(Value.agg vs.toArray).cells.toList=vs:=rfl;have ps:vs.length=6:=pt.length.symm;have pv:RCs F2 0 w2 (cells .sess (v y)) vs:=pt.grow ki kr.live;refine ra a3 g3 ?_;refine Oi (DE p3 hm ix hy hl (by rw[io];exact ps.trans hsz.symm) (by rw[io];omega) (by rw[io];exact wL pv)) ?_;rw[q3,io,tL (by omega)];refine sc _ ?_;have hp:=Blk.poke hy vs;have jb:∀s' i,ow s' i≠some w1.heap.size:=λs' i h=>by have:=(hx1.bd _ _ _ h).1;omega
 have kz:∀o,¬ F2 w1.heap.size o:=λo h=>by have:=kr.live.lt h;omega
 have oo:Ke F2 w2 (w2.setRow w1.heap.size vs.toArray):=hp.same kz;let ow':Nat->Option Nat->Option Nat:=λn i=>if n=x then(match i with|none=>some w1.heap.size|some j=>if j=3 then ob else none) else ow n i
 have ox:∀n,Ja (ca S.env n)=false->n≠x->((((aa.put (some d1) (.agg vs.toArray)).put (some x) (.pointer (some ⟨w1.heap.size,0,none⟩))).put none undef).tmps.getD n undef)=a.tmps.getD n undef:=λn hn hnx=>by
  show(((aa.put (some d1) (.agg vs.toArray)).put (some x) (.pointer (some ⟨w1.heap.size,0,none⟩))).tmps.getD n undef)=_;have ky:n≠d1:=λe=>by rw[e,k3]at hn;cases hn
  have kx:n≠d0:=λe=>by rw[e,k2]at hn;cases hn
  rw[Ga _ x _ (by rw[ot,ks];exact lx) n,if_neg hnx,Ga _ d1 _ (by rw[ks];exact l1) n,if_neg ky,<-hae,Ga _ d0 _ l0 n,if_neg kx]
 have lb:∀b,ob=some b->(∀s i,ow s i≠some b)/\b<w1.heap.size/\fr.B<=b:=λb hb=>by
  obtain⟨h1,h2⟩:=lp b hb;exact⟨λs' i h=>by have:=(hx.bd _ _ _ h).1;omega,h2,by omega⟩
 have px:ga fr.B fr.IoB fr.F0 ((x,md (v y))::S.env) (λn=>(((aa.put (some d1) (.agg vs.toArray)).put (some x) (.pointer (some ⟨w1.heap.size,0,none⟩))).put none undef).tmps.getD n undef) (w2.setRow w1.heap.size vs.toArray) F2 ow':=by
  refine⟨pw.sub,pw.new,λb o hb=>by rw[oo b o hb];exact pw.live b o hb,λn i n' i' b h h'=>?_,λn i b h=>?_,λn=>?_⟩
  .by_cases h1:n=x
   .by_cases h2:n'=x
    .refine⟨h1.trans h2.symm,?_⟩;simp only[ow',h1,h2,if_true]at h h';cases i with
     |none=>
      cases i' with
      |none=>rfl
      |some j=>
       simp only[Option.some.injEq]at h;subst h;simp only[]at h';split at h'
       .have:=(lb _ h').2.1;omega
       .cases h'
     |some j=>
      cases i' with
      |none=>
       simp only[Option.some.injEq]at h';subst h';simp only[]at h;split at h
       .have:=(lb _ h).2.1;omega
       .cases h
      |some j'=>
       simp only[]at h h';split at h
       .split at h'
        .rename_i hj hj';rw[hj,hj']
        .cases h'
       .cases h
    .simp only[ow',h1,h2,if_true,if_false]at h h';cases i with
     |none=>simp only[Option.some.injEq]at h;subst h;exact absurd h' (jb _ _)
     |some j=>
      simp only[]at h;split at h
      .exact absurd h' ((lb _ h).1 _ _)
      .cases h
   .by_cases h2:n'=x
    .simp only[ow',h1,h2,if_true,if_false]at h h';cases i' with
     |none=>simp only[Option.some.injEq]at h';subst h';exact absurd h (jb _ _)
     |some j=>
      simp only[]at h';split at h'
      .exact absurd h ((lb _ h').1 _ _)
      .cases h'
    .simp only[ow',h1,h2,if_false]at h h';exact hx.inj _ _ _ _ _ h h'
  .rw[hp.size];by_cases h1:n=x
   .simp only[ow',h1,if_true]at h;cases i with
    |none=>simp only[Option.some.injEq]at h;subst h;exact⟨hy.lt,.inl (Nat.le_trans hi kr.size)⟩
    |some j=>
     simp only[]at h;split at h
     .obtain⟨_,h2,h3⟩:=lb _ h;exact⟨Nat.lt_of_lt_of_le h2 ki.size,.inl h3⟩
     .cases h
   .simp only[ow',h1,if_false]at h;exact pw.bd _ _ _ h
  .by_cases h1:n=x
   .rw[h1];have kn:ca ((x,md (v y))::S.env) x=md (v y):=by simp[ca,Nat.beq_refl]
    rw[kn];have pp:=pv.poke hp.toPk oo;refine⟨w1.heap.size,vs,hm,by simp[ow'],hp.blk,kz,ps,λj kc u' hk hu'=>?_⟩
    have kj:∀ {c:C},(cells .sess (v y))[j]? = some c->RC F2 0 (w2.setRow w1.heap.size vs.toArray) c u':=λhc=>by
     obtain⟨v2,r1,r2⟩:=pp.get hc;rw[hu']at r1;cases r1;exact r2
    match j,hk with
    |0,hk=>simp at hk;subst hk;have h:=kj (c:=.int .i64 (v y).Plan.Kind) rfl;cases h;exact .int _ _
    |1,hk=>simp at hk;subst hk;have h:=kj (c:=.int .i64 (v y).Plan.Num) rfl;cases h;exact .int _ _
    |2,hk=>simp at hk;subst hk;exact kj rfl
    |3,hk=>
     simp at hk;subst hk;rw[oy]at hu';cases hu';have hw:(if x=x then(if(3:Nat)=3 then ob else none) else ow x (some 3))=ob:=by simp
     show ya F2 0 _ (ow' x (some 3)) _ _;simp only[ow',if_true];exact ya.poke hp.toPk oo (λe=>by have:=(lb _ e).2.1;omega) (hr.grow ki kr.live)
    |4,hk=>simp at hk;subst hk;exact kj rfl
    |5,hk=>simp at hk;subst hk;exact kj rfl
    |j+6,hk=>simp at hk
   .have kk:ca ((x,md (v y))::S.env) n=ca S.env n:=by simp[ca,Ue (n:=x) (d:=n) (λe=>h1 e.symm)]
    rw[kk];have hf:=Rj k1 n;have h2:=pw.sr n;rw[Le hf]at h2⊢;have how:ow' n=ow n:=by simp[ow',h1]
    rw[how];cases hdn:Ja (ca S.env n) with
    |true=>cases kk:ca S.env n<;>rw[kk]at hdn<;>first|trivial|(simp[Ja]at hdn)
    |false=>
     rw[ox n hdn h1];exact VR.poke hp.toPk oo (λi=>jb n i) h2
 have kp:Kept fr.B fr.IoB fr.W0 (w2.setRow w1.heap.size vs.toArray):=by
  refine hs.kept.trans ⟨hp.os.trans (ki.os.trans km.os),hp.tape.trans (ki.tape.trans km.tape),hp.output.trans (ki.output.trans km.output),by rw[hp.size];exact Nat.le_trans km.size ki.size,λk hk _=>?_,λk o hk _=>?_⟩
  .have h1:k<w.heap.size:=Nat.lt_of_lt_of_le hk hi;have h2:k<w1.heap.size:=Nat.lt_of_lt_of_le h1 km.size;rw[hp.block k (by omega),ki.block k h2,km.block k h1]
  .have h1:k<w.heap.size:=(Array.getElem?_eq_some_iff.1 hk).1;have h2:k<w1.heap.size:=Nat.lt_of_lt_of_le h1 km.size;rw[hp.block k (by omega),ki.block k h2,km.block k h1];exact hk
 have ie:ce ((x,md (v y))::S.env)=true:=by simp only[ce,k1,Bool.and_true];rfl
 have ou:=(hs.tmps.put k5 (.agg us.toArray)).put (a:=a.put (some d0) (.agg us.toArray)) k6 (.agg vs.toArray);refine⟨_,⟨?_,?_,hs.base,hs.f0,kp,F2,ow',px⟩,q,ho,xa.cast ie hpn⟩
 .show aa.defers=[];rw[<-hae];exact hs.defers
 .rw[hae]at ou;exact ou.put (a:=aa.put (some d1) (.agg vs.toArray)) k7 _
theorem ga.tmD{B:Nat}{IoB:List Nat}{F0 F:Fz}{e:Env}{tm tm':Nat->Value}{w:World}{ow:Nat->Option Nat->Option Nat}(hs:ga B IoB F0 e tm w F ow)(hf:∀n,Vb (ca e n)=true)(h:∀n,Ja (ca e n)=false->tm' n=tm n):ga B IoB F0 e tm' w F ow:=by
 refine⟨hs.sub,hs.new,hs.live,hs.inj,hs.bd,λn=>?_⟩;have h1:=hs.sr n;rw[Le (hf n)]at h1⊢;cases hd:Ja (ca e n) with
 |true=>cases hg:ca e n<;>rw[hg]at hd<;>first|trivial|(simp[Ja]at hd)
 |false=>rw[h n hd];exact h1
def JV:K->Bool
 |.own _=>false
 |_=>true
theorem LV(G:Good P tt sp)(t ti tr x m r f0 d m1 r1 ad:Nat)(fs:List (Nat×Nat))(n3:Nat){N:NP}{fr:Fr}{Cd:Code}{F:Fnn}{R A X Y Z:Type}{S:Pb R A X Y Z}{y:Sess}{i:Int}{kr:K}{z:List Row}{q:A}(pat:List (Nat×Tk))(T:Tr R A X Y Z)
  (hT:T=.w [inb i (ba .lrow y.Ins)] (.l (.n q)):=by exact rfl) (ho:S.o=T.val:=by exact rfl) (hb:S.ob=T.ob:=by exact rfl)
  (hlk:(lk tt t).map (·.sh)=some (.struct fs):=by kernel_rfl) (hfs:fs[1]? = some (3,n3):=by kernel_rfl) (hli:(lk tt ti).map (λd=>(isAgg d,d.sh))=some (false,.slice tr):=by kernel_rfl) (hlr:(lk tt tr).map (·.size)=some 1:=by kernel_rfl)
  (hC:Ba Cd S.path=.region (Gg (Ba Cd S.path)) (opsOf (Ba Cd S.path)) false:=by kernel_rfl)
  (hops:(opsOf (Ba Cd S.path)).toList.map (λo=>(o.op,o.dst,o.guard))=[(.fieldAddr t (.tmp x) 1,some f0,none),(.load ti (.tmp f0),some d,none),(.move (.tmp m),some m1,none),(.move (.tmp r),some r1,none),(.indexAddr ti (.tmp d) (.tmp m1),some ad,none),(.store tr (.tmp ad) (.tmp r1),none,none)]:=by kernel_rfl)
  (hok:(qm x S.env&&(ce S.env&&(cg (λj=>Ja (ca S.env j)&&N.ok j) [f0,d,m1,r1,ad]&&(!(Ja (ca S.env x))&&(!(Ja (ca S.env m))&&(!(Ja (ca S.env r))&&(JV kr&&(!(Nat.beq m1 r1)&&(!(Nat.beq m1 d)&&(!(Nat.beq r1 d)&&(!(Nat.beq r1 ad)&&(!(Nat.beq d f0)))))))))))))=true:=by kernel_rfl)
  (hg:ca S.env x=md y:=by kernel_rfl) (hm:ca S.env m=.I i:=by kernel_rfl) (hr:ca S.env r=.v kr (.lst .row z):=by kernel_rfl)
  (hpn:bg (Ma S.env x (md ⟨y.Plan,y.Ins.set i.toNat z,y.Front,y.Told⟩)) pat=some (S.pn q):=by kernel_rfl):Qc P tt N fr Cd F S:=by
 intro lp a w hs;subst hT;rw[hb]at lp;obtain⟨kq,ks⟩ : inb i (ba .lrow y.Ins):=lp.1.1;simp only[Bool.and_eq_true,Bool.not_eq_true',cg,Bool.and_true]at hok;obtain⟨kT,kF,⟨⟨u1,v1⟩,⟨u2,v2⟩,⟨u3,v3⟩,⟨u4,v4⟩,⟨u5,v5⟩⟩,kx,km,pt,kn,n1,n2,n4,n5,n6⟩:=hok;have lo:∀ {m n:Nat},Nat.beq m n=false->m≠n:=λh e=>by rw[e,Nat.beq_refl]at h;cases h
 have jb:∀ {m n:Nat},Ja (ca S.env m)=true->Ja (ca S.env n)=false->n≠m:=λh h' e=>by rw[e,h]at h';cases h'
 obtain⟨dt,io,it⟩:=Option.map_eq_some_iff.1 hlk;obtain⟨di,ky,kz⟩:=Option.map_eq_some_iff.1 hli;obtain⟨dr,mp,nl⟩:=Option.map_eq_some_iff.1 hlr;simp only[Prod.mk.injEq]at kz;have ix:=G.htt.td _ _ io;have ju:=G.htt.td _ _ ky;have hdr:=G.htt.td _ _ mp;obtain⟨F1,ow,hx⟩:=hs.rep;obtain⟨bX,us,e1,e2,e3,e4,e5,e6⟩:=hx.box hg;have e1:a.tmps.getD x undef=.pointer (some ⟨bX,0,none⟩):=e1;have ox:us.length=6:=e5;obtain⟨u,hu⟩ : ∃u,us[3]? = some u:=⟨_,List.getElem?_eq_getElem (by omega)⟩;have hv:ya F1 0 w (ow x (some 3)) (.lst .lrow y.Ins) u:=e6 3 _ u rfl hu;have kb:i.toNat<y.Ins.length:=by unfold ba at ks;omega
 obtain⟨b,cap,cb,ou,lx,hz,hf,ha⟩ : ∃b cap cb,u=.slice (some ⟨b,0,none⟩) y.Ins.length cap/\ow x (some 3)=some b/\Blk w b cb/\cb.length=cap/\y.Ins.length<=cap:=by
  obtain⟨nt,hd⟩:=hv;generalize y.Ins=ins at nt hd kb⊢;rcases hd with⟨t0,q1,q2⟩|⟨t0,pv,b,cap,cb,q1,q2,q3,q4,q5,q6⟩
  .have q1:C.lst .lrow ins=.lst t0 []:=q1;have h:=congrArg (λc=>match c with|C.lst _ xs=>xs.length|_=>0) q1;simp at h;rw[h]at kb;simp at kb
  .have q1:C.lst .lrow ins=.lst t0 pv:=q1;cases q1;rw[q2]at nt;cases nt with
   |lst _ _ _ _ _ _ _ ha _ _ _=>exact⟨b,cap,cb,q2,q3,q4,by rw[q5];exact Nat.mul_one _,ha⟩
 have li:a.tmps.getD m undef=.int .i64 i:=by
  have h:=hx.sr m;rw[hm]at h;have h:RC F1 fr.B w (.int .i64 i) (a.tmps.getD m undef):=h;exact h.ofInt
 have oj:RC F1 0 w (.lst .row z) (a.tmps.getD r undef):=by
  have h:=hx.sr r;rw[hr]at h;cases kr with
  |sh=>exact h
  |fr=>exact RC.lo0 h
  |acc f=>exact RC.lo0 h.1
  |own f=>cases kn
 generalize hvz:a.tmps.getD r undef=vz at oj;have lb:vz.oneCell'=true:=RC.one oj;have pi:vz.cells.toList=[vz]:=by cases oj<;>rfl
 have hw:∀(j:Nat) q,[((.fieldAddr t (.tmp x) 1:Op),some f0,(none:Option (Nat×Bool))),(.load ti (.tmp f0),some d,none),(.move (.tmp m),some m1,none),(.move (.tmp r),some r1,none),(.indexAddr ti (.tmp d) (.tmp m1),some ad,none),(.store tr (.tmp ad) (.tmp r1),none,none)][j]? = some q->∃o,(opsOf (Ba Cd S.path))[j]? = some o/\o.op=q.1/\o.dst=q.2.1/\o.guard=q.2.2:=λj q hq=>by
  rw[<-hops,List.getElem?_map]at hq;obtain⟨o,h1,h2⟩:=Option.map_eq_some_iff.1 hq;exact⟨o,by rw[<-Array.getElem?_toList];exact h1,by rw[<-h2],by rw[<-h2],by rw[<-h2]⟩
 have hlen:(opsOf (Ba Cd S.path)).toList.length=6:=by have:=congrArg List.length hops;simpa using this
 obtain⟨o0,a0,p0,q0,g0⟩:=hw 0 _ rfl;obtain⟨o1,a1,p1,q1,g1⟩:=hw 1 _ rfl;obtain⟨o2,a2,p2,q2,g2⟩:=hw 2 _ rfl;obtain⟨o3,a3,p3,q3,g3⟩:=hw 3 _ rfl;obtain⟨o4,a4,p4,q4,g4⟩:=hw 4 _ rfl;obtain⟨o5,a5,p5,q5,g5⟩:=hw 5 _ rfl;have nq:List.range (opsOf (Ba Cd S.path)).size=[0,1,2,3,4,5]:=by rw[show(opsOf (Ba Cd S.path)).size=6 by simpa using hlen];rfl
 have oo:∀(a:Act) (n:Nat) (v:Value),(a.put (some n) v).tmps.size=a.tmps.size:=λa n v=>by simp[Act.put]
 have ke:∀ {j:Nat},N.ok j=true->j<a.tmps.size:=λh=>by rw[hs.tmps.size];exact NP.ok_lt h
 refine Gc hC nq ?_;rw[wpOps_cons];refine ra a0 g0 ?_;refine Ra (Bh p0 e1 ix it hfs) ?_;rw[q0,wpOps_cons,Nat.zero_add];generalize hA1:a.put (some f0) (.pointer (some ⟨bX,3,none⟩))=A1;have hh:A1.tmps.size=a.tmps.size:=by rw[<-hA1];exact oo _ _ _
 have G1:∀n,A1.tmps.getD n undef=if n=f0 then .pointer (some ⟨bX,3,none⟩) else a.tmps.getD n undef:=λn=>by rw[<-hA1];exact Ga a f0 _ (ke v1) n
 refine ra a1 g1 ?_;refine Ra (Ff p1 (by rw[G1 f0,if_pos rfl]) ju kz.1 (u:=u) (by rw[e3.cell];exact hu)) ?_;rw[q1,wpOps_cons];generalize hA2:A1.put (some d) u=A2;have hi:A2.tmps.size=a.tmps.size:=by rw[<-hA2,oo];exact hh
 have G2:∀n,A2.tmps.getD n undef=if n=d then u else A1.tmps.getD n undef:=λn=>by rw[<-hA2];exact Ga A1 d _ (by rw[hh];exact ke v2) n
 refine ra a2 g2 ?_;refine Ra (Ae p2) ?_;rw[q2,wpOps_cons,G2 m,if_neg (jb u2 km),G1 m,if_neg (jb u1 km),li];generalize hA3:A2.put (some m1) (.int .i64 i)=A3;have hj:A3.tmps.size=a.tmps.size:=by rw[<-hA3,oo];exact hi
 have G3:∀n,A3.tmps.getD n undef=if n=m1 then .int .i64 i else A2.tmps.getD n undef:=λn=>by rw[<-hA3];exact Ga A2 m1 _ (by rw[hi];exact ke v3) n
 refine ra a3 g3 ?_;refine Ra (Ae p3) ?_;rw[q3,wpOps_cons,G3 r,if_neg (jb u3 pt),G2 r,if_neg (jb u2 pt),G1 r,if_neg (jb u1 pt),hvz];generalize hA4:A3.put (some r1) vz=A4;have hl:A4.tmps.size=a.tmps.size:=by rw[<-hA4,oo];exact hj
 have G4:∀n,A4.tmps.getD n undef=if n=r1 then vz else A3.tmps.getD n undef:=λn=>by rw[<-hA4];exact Ga A3 r1 _ (by rw[hj];exact ke v4) n
 have oy:P.underlying ti=some (.slice tr):=by
  obtain⟨uu,h1,h2⟩:=ju.und;rw[kz.2]at h2;rw[h1,h2]
 refine ra a4 g4 ?_;refine Ra (GV p4 (k:=.i64) (i:=i) (b:=b) (f:=0) (len:=y.Ins.length) (cap:=cap) (sz:=1) (by rw[G4 m1,if_neg (lo n1),G3 m1,if_pos rfl]) (by rw[G4 d,if_neg (λe=>lo n4 e.symm),G3 d,if_neg (λe=>lo n2 e.symm),G2 d,if_pos rfl];exact ou) kq (by unfold ba at ks;exact ks) oy (λw=>by rw[<-nl];exact hdr.size w)) ?_;rw[q4,wpOps_cons,Nat.zero_add,Nat.mul_one];generalize hA5:A4.put (some ad) (.pointer (some ⟨b,i.toNat,none⟩))=A5;have ht:A5.tmps.size=a.tmps.size:=by rw[<-hA5,oo];exact hl
 have G5:∀n,A5.tmps.getD n undef=if n=ad then .pointer (some ⟨b,i.toNat,none⟩) else A4.tmps.getD n undef:=λn=>by rw[<-hA5];exact Ga A4 ad _ (by rw[hl];exact ke v5) n
 refine ra a5 g5 ?_;refine Oi (DE p5 (by rw[G5 ad,if_pos rfl]) hdr hz (v:=vz) (by rw[G5 r1,if_neg (lo n5),G4 r1,if_pos rfl]) (by rw[pi];exact nl.symm) (by rw[pi,hf];simp only[List.length_singleton];omega) (by rw[pi];intro u' ot;simp at ot;subst ot;exact lb)) ?_;rw[q5,pi];refine sc _ ?_;have hp:=Blk.poke hz (fb cb i.toNat [vz]);have kj:i.toNat+[vz].length<=cb.length:=by rw[hf];simp only[List.length_singleton];omega
 have he:∀k,(w.setRow b (fb cb i.toNat [vz]).toArray).cell? ⟨b,k,none⟩=if i.toNat<=k/\k<i.toNat+1 then [vz][k - i.toNat]? else cb[k]?:=λk=>by
  rw[hp.blk.cell,Wr kj k];rfl
 have ih:(md y)=.box [(.fr,.i y.Plan.Kind),(.fr,.i y.Plan.Num),(.sh,.lst .plan y.Plan.Kids),(.acc false,.lst .lrow y.Ins),(.sh,.lst .time y.Front),(.sh,.lst .row y.Told)]:=rfl
 have pp:=hx.pokeL hs.f0 (s:=x) (j:=3) (f:=false) (t:=.lrow) (xs:=y.Ins) (hg.trans ih) rfl rfl kT rfl e1 (u:=u) (by rw[e3.cell];exact hu) ou (i:=i.toNat) kb (y:=z) (vy:=vz) (λc hc=>by simp[cells]at hc;subst hc;exact oj) hp.toPk
  (λk hk=>by rw[he k,if_neg (by omega),hz.cell]) (by rw[he,if_pos (by omega),Nat.sub_self];rfl) (λvs hvs=>⟨fb cb i.toNat [vz],hp.blk,by rw[Lj kj,Blk.inj hvs hz]⟩)
 have ki:ca (Ma S.env x (.box ([(K.fr,C.i y.Plan.Kind),(.fr,.i y.Plan.Num),(.sh,.lst .plan y.Plan.Kids),(.acc false,.lst .lrow y.Ins),(.sh,.lst .time y.Front),(.sh,.lst .row y.Told)].set 3 (.acc false,.lst .lrow (y.Ins.set i.toNat z)))))=ca (Ma S.env x (md ⟨y.Plan,y.Ins.set i.toNat z,y.Front,y.Told⟩)):=rfl
 have kk:∀n,Vb (ca (Ma S.env x (md ⟨y.Plan,y.Ins.set i.toNat z,y.Front,y.Told⟩)) n)=true:=λn=>by
  rw[Fa];split
  .rfl
  .exact Rj kF n
 have ie:∀ {n j:Nat},Ja (ca S.env j)=true->Ja (ca (Ma S.env x (md ⟨y.Plan,y.Ins.set i.toNat z,y.Front,y.Told⟩)) n)=false->n≠j:=λ{n j} h h' e=>by
  subst e;rw[Fa]at h';split at h'
  .rename_i e2;subst e2;rw[h]at kx;cases kx
  .rw[h]at h';cases h'
 have ps:=(pp:ga fr.B fr.IoB fr.F0 (Ma S.env x (md ⟨y.Plan,y.Ins.set i.toNat z,y.Front,y.Told⟩)) (λn=>a.tmps.getD n undef) _ F1 ow).tmD (tm':=λn=>(A5.put none undef).tmps.getD n undef) kk (λn hn=>by
  show A5.tmps.getD n undef=_;rw[G5 n,if_neg (ie u5 hn),G4 n,if_neg (ie u4 hn),G3 n,if_neg (ie u3 hn),G2 n,if_neg (ie u2 hn),G1 n,if_neg (ie u1 hn)])
 have hy:Mn fr.B fr.IoB b:=(hx.bd _ _ _ lx).2
 have kc:Kept fr.B fr.IoB fr.W0 (w.setRow b (fb cb i.toNat [vz]).toArray):=by
  refine hs.kept.trans ⟨hp.os,hp.tape,hp.output,by rw[hp.size];exact Nat.le_refl _,λk hk hio=>hp.block k (λe=>?_),λk o hk hc=>by
   rw[hp.block k (λe=>by rw[e]at hk;rw[hz.isC hk]at hc;cases hc)];exact hk⟩
  subst e;exact hy.elim (λh=>by omega) hio
 have kp:ce (Ma S.env x (md ⟨y.Plan,y.Ins.set i.toNat z,y.Front,y.Told⟩))=true:=by simp only[Ma,ce,kF,Bool.and_true];rfl
 have T1:=hs.tmps.put v1 (.pointer (some ⟨bX,3,none⟩));rw[hA1]at T1;have T2:=T1.put (a:=A1) v2 u;rw[hA2]at T2;have T3:=T2.put (a:=A2) v3 (.int .i64 i);rw[hA3]at T3;have T4:=T3.put (a:=A3) v4 vz;rw[hA4]at T4;have T5:=T4.put (a:=A4) v5 (.pointer (some ⟨b,i.toNat,none⟩));rw[hA5]at T5;refine⟨_,⟨?_,T5,hs.base,hs.f0,kc,F1,ow,ps⟩,q,ho,xa.cast kp hpn⟩;show A5.defers=[];rw[<-hA5,<-hA4,<-hA3,<-hA2,<-hA1];exact hs.defers
end
abbrev Tab:=List (List Bool×Env)
def eqL:List Bool->List Bool->Bool
 |[],[]=>true
 |true::r,true::s=>eqL r s
 |false::r,false::s=>eqL r s
 |_,_=>false
theorem EE:∀ {a b:List Bool},eqL a b=true->a=b
 |[],[],_=>rfl
 |true::r,true::s,h=>by rw[EE (a:=r) (b:=s) h]
 |false::r,false::s,h=>by rw[EE (a:=r) (b:=s) h]
 |true::_,false::_,h=>by simp[eqL]at h
 |false::_,true::_,h=>by simp[eqL]at h
 |[],_::_,h=>by simp[eqL]at h
 |_::_,[],h=>by simp[eqL]at h
def lkT:Tab->List Bool->Option Env
 |[],_=>none
 |(K,e)::r,L=>match eqL K L with
  |true=>some e
  |false=>lkT r L
theorem xL:∀ {T:Tab}{L:List Bool}{e:Env},lkT T L=some e->(L,e)∈T
 |[],_,_,h=>by cases h
 |(K,e1)::r,L,e,h=>by
  simp only[lkT]at h;split at h
  .rename_i hb;cases h;rw[EE hb];exact List.mem_cons_self
  .exact List.mem_cons_of_mem _ (xL h)
def mg(e:Env):List Nat->Env
 |[]=>[]
 |k::r=>(k,ca e k)::mg e r
def inK(n:Nat):List Nat->Bool
 |[]=>false
 |k::r=>Nat.beq k n||inK n r
def Zj(ks:List Nat):Env->Bool
 |[]=>true
 |(n,_)::r=>inK n ks&&Zj ks r
theorem yL{e:Env}{n:Nat}:∀ {ks:List Nat},ca (mg e ks) n=match inK n ks with
  |true=>ca e n
  |false=>.dead
 |[]=>rfl
 |k::r=>by
  simp only[mg,ca,inK];cases hb:Nat.beq k n with
  |true=>rw[Nat.eq_of_beq_eq_true hb];rfl
  |false=>exact yL (ks:=r)
theorem zL{ks:List Nat}{n:Nat}(hn:inK n ks=false):∀ {e:Env},Zj ks e=true->ca e n=.dead
 |[],_=>rfl
 |(m,a)::r,h=>by
  simp only[Zj,Bool.and_eq_true]at h;simp only[ca];cases hb:Nat.beq m n with
  |true=>rw[Nat.eq_of_beq_eq_true hb,hn]at h;cases h.1
  |false=>exact zL hn h.2
theorem AL{ks:List Nat}{e:Env}(h:Zj ks e=true):ca e=ca (mg e ks):=funext λn=>by
 rw[yL];cases hn:inK n ks with
 |true=>rfl
 |false=>exact zL hn h
theorem ga.sameE{B:Nat}{IoB:List Nat}{F0 F:Fz}{e e':Env}{tm:Nat->Value}{w:World}{ow:Nat->Option Nat->Option Nat}(hs:ga B IoB F0 e tm w F ow)(h:ca e=ca e'):ga B IoB F0 e' tm w F ow:=⟨hs.sub,hs.new,hs.live,hs.inj,hs.bd,λs=>by rw[<-h];exact hs.sr s⟩
theorem Sim.sameE{N:NP}{B:Nat}{IoB:List Nat}{W0:World}{F0:Fz}{e e':Env}{a:Act}{w:World}(hs:Sim N B IoB W0 F0 e a w)(h:ca e=ca e'):Sim N B IoB W0 F0 e' a w:=⟨hs.defers,hs.tmps,hs.base,hs.f0,hs.kept,by obtain⟨F,ow,hx⟩:=hs.rep;exact⟨F,ow,hx.sameE h⟩⟩
def prs(all:List Oper):Tab->List (List Bool×Env×Nat)
 |[]=>[]
 |(L,e)::r=>(ac L all 0).map (λi=>(L,e,i))++prs all r
theorem BL{all:List Oper}{L:List Bool}{e:Env}{i:Nat}(hi:i∈ac L all 0):∀ {T:Tab},(L,e)∈T->(L,e,i)∈prs all T
 |(K,d)::r,h=>by
  simp only[prs,List.mem_append];rcases List.mem_cons.1 h with h|h
  .cases h;exact .inl (List.mem_map.2 ⟨i,hi,rfl⟩)
  .exact .inr (BL hi h)
abbrev Rw:=Option (Env×Bool×List Prop)
def CL(tt:TT)(sp:SP)(ds:List (Option Nat))(all:List Oper)(ks:List Nat):List Bool×Env×Nat->Rw
 |(_,e,i)=>match all[i]? with
  |some o=>match stepF tt sp ds e o with
   |some (e1,p)=>some (mg e1 ks,Zj ks e1,p)
   |none=>some ([],false,[])
  |none=>some ([],false,[])
def DL(T:Tab)(obs:List (List Prop)):List Bool×Env×Nat->Rw
 |(L,_,i)=>match lkT T (L.set i true) with
  |some e=>some (e,true,obs.getD i [])
  |none=>none
def Ui(tt:TT)(sp:SP)(ds:List (Option Nat))(all:List Oper)(ks:List Nat):Tab->List (List Bool×Env×Nat)->Tab
 |T,[]=>T
 |T,(L,e,i)::r=>match lkT T (L.set i true) with
  |some _=>Ui tt sp ds all ks T r
  |none=>match all[i]? with
   |some o=>match stepF tt sp ds e o with
    |some (e1,_)=>Ui tt sp ds all ks (T++[(L.set i true,mg e1 ks)]) r
    |none=>Ui tt sp ds all ks T r
   |none=>Ui tt sp ds all ks T r
def ends(keep:List Nat)(all:List Oper):Tab->List Env
 |[]=>[]
 |(L,e)::r=>match ac L all 0 with
  |[]=>mask (clean (settle keep keep e)) keep::ends keep all r
  |_=>ends keep all r
theorem FE{keep:List Nat}{all:List Oper}{L:List Bool}{e:Env}(hr:ac L all 0=[]):∀ {T:Tab},(L,e)∈T->mask (clean (settle keep keep e)) keep∈ends keep all T
 |(K,d)::r,h=>by
  simp only[ends];rcases List.mem_cons.1 h with h|h
  .cases h;rw[hr];exact List.mem_cons_self
  .split
   .exact List.mem_cons_of_mem _ (FE hr h)
   .exact FE hr h
def wm(tt:TT)(sp:SP)(keep ks:List Nat)(ds:List (Option Nat))(all:List Oper):Nat->Tab->List (List Rw×List Env)
 |0,T=>[([],ends keep all T)]
 |n+1,T=>((prs all T).map (CL tt sp ds all ks),ends keep all T)::wm tt sp keep ks ds all n (Ui tt sp ds all ks [] (prs all T))
def xm(tt:TT)(sp:SP)(keep ks:List Nat)(ds:List (Option Nat))(all:List Oper)(obs:List (List Prop))(fin:Env):Nat->Tab->List (List Rw×List Env)
 |0,T=>[([],(ends keep all T).map λ_=>fin)]
 |n+1,T=>((prs all T).map (DL (Ui tt sp ds all ks [] (prs all T)) obs),(ends keep all T).map λ_=>fin)::xm tt sp keep ks ds all obs fin n (Ui tt sp ds all ks [] (prs all T))
def GE(tt:TT)(sp:SP)(ds:List (Option Nat)):List Oper->Env->List (List Prop)
 |[],_=>[]
 |o::r,e=>match stepF tt sp ds e o with
  |some (e1,p)=>p::GE tt sp ds r e1
  |none=>[]
def ak:List (List Prop)->List Prop
 |[]=>[]
 |p::r=>p++ak r
theorem FL:∀ {l:List (List Prop)}{i:Nat}{x:Prop},x∈l.getD i []->x∈ak l
 |[],i,x,h=>by simp at h
 |p::r,0,x,h=>by simp only[ak,List.mem_append];exact .inl h
 |p::r,i+1,x,h=>by simp only[ak,List.mem_append];exact .inr (FL (l:=r) (i:=i) (by simpa using h))
theorem GL{α β:Type}{f g:α->β}:∀ {l:List α},l.map f=l.map g->∀x∈l,f x=g x
 |y::r,h,x,hx=>by
  simp only[List.map_cons,List.cons.injEq]at h;rcases List.mem_cons.1 hx with rfl|hx
  .exact h.1
  .exact GL h.2 x hx
theorem IL{α:Type}{c:α}:∀ {l:List α},l=l.map (λ_=>c)->∀x∈l,x=c
 |y::r,h,x,hx=>by
  simp only[List.map_cons,List.cons.injEq]at h;rcases List.mem_cons.1 hx with rfl|hx
  .exact h.1
  .exact IL h.2 x hx
theorem ML{j:Nat}:∀ {L:List Bool},L.getD j true=false->0<L.count false/\(L.set j true).count false+1=L.count false:=by
 induction j with
 |zero=>
  intro L h;cases L with
  |nil=>simp at h
  |cons a r=>
   have h:a=false:=by simpa using h
   subst h;simp
 |succ j ih=>
  intro L h;cases L with
  |nil=>simp at h
  |cons a r=>
   obtain⟨h1,h2⟩:=ih (L:=r) (by simpa using h);simp only[List.set_cons_succ,List.count_cons];omega
section
variable {P:Program}{tt:TT}{sp:SP}{B:Nat}{IoB:List Nat}{F0:Fz}{N:NP}{W0:World}
theorem MV(htt:Ub P tt)(hsp:∀f s,spk sp f=some s->Con P f s){ops:Array Oper}(hdst:Zf N ops.toList=true){keep ks:List Nat}{fin:Env}{obs:List (List Prop)}(hps:∀p∈ak obs,p)
  {Q:Exit->Act->World->Prop} (hQ:∀a w,Sim N B IoB W0 F0 fin a w->Q .normal a w) :
  ∀ (n:Nat) (T:Tab) (listed:Array Bool) (e:Env) (a:Act) (w:World),wm tt sp keep ks (ops.toList.map (·.dst)) ops.toList n T=xm tt sp keep ks (ops.toList.map (·.dst)) ops.toList obs fin n T->(listed.toList,e)∈T->listed.toList.count false<=n ->
    Sim N B IoB W0 F0 e a w->wpAny P .any ops Q n listed a w:=by
 have hn:∀(listed:Array Bool) j,j∈ac listed.toList ops.toList 0↔j∈Region.ready .any ops listed:=by
  intro listed j;rw[pm,mem_ready]
  have hL:∀k b,listed.toList.getD k b=listed.getD k b:=λk b=>by
   rw[Array.getD_eq_getD_getElem?,List.getD_eq_getElem?_getD,Array.getElem?_toList]
  simp only[hL];constructor
  .rintro⟨k,o,h1,h2,h3,h4⟩;rw[Nat.zero_add]at h1;subst h1;exact⟨h3,o,by rw[<-Array.getElem?_toList];exact h2,λe he=>h4 e (by simpa using he)⟩
  .rintro⟨h1,o,h2,h3⟩;exact⟨j,o,by omega,by rw[Array.getElem?_toList];exact h2,h1,λe he=>h3 e (by simpa using he)⟩
 have hh:∀ {T:Tab}{listed:Array Bool}{e:Env}{a:Act}{w:World},ends keep ops.toList T=(ends keep ops.toList T).map (λ_=>fin)->(listed.toList,e)∈T->ac listed.toList ops.toList 0=[]->Sim N B IoB W0 F0 e a w->Q .normal a w:=by
  intro T listed e a w h hm hr hs;have h1:=IL h _ (FE hr hm);have:=hs.settle.cleanMask (e:=settle keep keep e) keep;rw[h1]at this;exact hQ a w this
 have hq:∀ {listed:Array Bool},Region.ready .any ops listed=[]->ac listed.toList ops.toList 0=[]:=by
  intro listed h;cases hr:ac listed.toList ops.toList 0 with
  |nil=>rfl
  |cons j r=>
   have:j∈ac listed.toList ops.toList 0:=by rw[hr];simp
   rw[hn,h]at this;cases this
 intro n
 induction n with
 |zero=>
  intro T listed e a w h hm hc hs;simp only[wm,xm,List.cons.injEq,Prod.mk.injEq]at h
  have hr:ac listed.toList ops.toList 0=[]:=by
   cases hr:ac listed.toList ops.toList 0 with
   |nil=>rfl
   |cons j r=>
    have hj:j∈ac listed.toList ops.toList 0:=by rw[hr];simp
    obtain⟨k,o,h1,h2,h3,h4⟩:=pm.1 hj;have:=(ML h3).1;omega
  refine⟨?_,hh h.1.2 hm hr hs⟩;cases hr':Region.ready .any ops listed with
  |nil=>rfl
  |cons j r=>
   have:j∈Region.ready .any ops listed:=by rw[hr'];simp
   rw[<-hn,hr]at this;cases this
 |succ n ih=>
  intro T listed e a w h hm hc hs;simp only[wm,xm,List.cons.injEq,Prod.mk.injEq]at h;obtain⟨⟨h1,h2⟩,h3⟩:=h;refine⟨λhr=>hh h2 hm (hq hr) hs,λi hi=>?_⟩;have hk:=(hn listed i).2 hi;obtain⟨_,_,_,_,hl,_⟩:=pm.1 hk;have hu:=GL h1 _ (BL hk hm);obtain⟨_,o,ho,_⟩:=mem_ready.1 hi;have ht:ops.toList[i]? = some o:=by rw[Array.getElem?_toList];exact ho
  simp only[CL,DL,ht]at hu;cases hst:stepF tt sp (ops.toList.map (·.dst)) e o with
  |none=>
   rw[hst]at hu;simp only[]at hu;split at hu
   .simp at hu
   .cases hu
  |some q=>
   obtain⟨e1,p⟩:=q;rw[hst]at hu;simp only[]at hu;split at hu
   .rename_i e2 hlk;simp only[Option.some.injEq,Prod.mk.injEq]at hu;obtain⟨r1,r2,r3⟩:=hu;have hp:∀x∈p,x:=λx hx=>hps x (FL (i:=i) (by rw[<-r3];exact hx))
    have h4:=Ul htt hsp hs hst hp (λd hd=>Qj hdst i o ht d hd) (Q:=Q) (next:=wpAny P .any ops Q n (listed.setIfInBounds i true))
     (λa' w' hs'=>ih _ (listed.setIfInBounds i true) e2 a' w' h3 (by rw[Array.toList_setIfInBounds];exact xL hlk) (by rw[Array.toList_setIfInBounds];have:=(ML hl).2;omega) (by rw[<-r1];exact hs'.sameE (AL r2)))
    unfold wpOp;rw[ho];simp only[];by_cases hw:Region.wanted o (yielded ops a.tmps)=true
    .rw[if_pos hw]at h4⊢;exact .inl h4
    .rw[if_neg hw]at h4⊢;exact h4
   .cases hu
theorem ym(G:Good P tt sp){fr:Fr}{C:Code}{F:Fnn}{R A X Y Z:Type}{S:Pb R A X Y Z}(keep ks:List Nat){q:A}{ps:List Prop}(T:Tr R A X Y Z)(hT:T=.w ps (.l (.n q)):=by exact rfl)(ho:S.o=T.val:=by exact rfl)(hb:S.ob=T.ob:=by exact rfl)
  (hC:Ba C S.path=.region (Gg (Ba C S.path)) (opsOf (Ba C S.path)) true:=by kernel_rfl) (hd:Zf N (opsOf (Ba C S.path)).toList=true:=by kernel_rfl) (hk:Zj ks (clean S.env)=true:=by kernel_rfl)
  (hps:ak (GE tt sp ((opsOf (Ba C S.path)).toList.map (·.dst)) (opsOf (Ba C S.path)).toList (mg (clean S.env) ks))=ps:=by kernel_rfl)
  (h:wm tt sp keep ks ((opsOf (Ba C S.path)).toList.map (·.dst)) (opsOf (Ba C S.path)).toList (opsOf (Ba C S.path)).size [(List.replicate (opsOf (Ba C S.path)).size false,mg (clean S.env) ks)] =
    xm tt sp keep ks ((opsOf (Ba C S.path)).toList.map (·.dst)) (opsOf (Ba C S.path)).toList (GE tt sp ((opsOf (Ba C S.path)).toList.map (·.dst)) (opsOf (Ba C S.path)).toList (mg (clean S.env) ks)) (S.pn q) (opsOf (Ba C S.path)).size [(List.replicate (opsOf (Ba C S.path)).size false,mg (clean S.env) ks)]:=by kernel_rfl) :
  Qc P tt N fr C F S:=by
 intro hh a w hs;subst hT;rw[hb]at hh;rw[hC];refine wp_region_any G.hm (MV (keep:=keep) (ks:=ks) G.htt G.hsp hd (by rw[hps];exact da.all hh.1) (λa w hs=>⟨_,hs,q,ho,λ_ _ _ _ _ _ _ hs=>hs⟩) _ _ _ _ a _ h (by rw[Array.toList_replicate];exact List.mem_singleton_self _) ?_ ((hs.clean.drew _).sameE (AL hk)));rw[Array.toList_replicate];exact Nat.le_trans List.count_le_length (by rw[List.length_replicate];exact Nat.le_refl _)
end
def kI(x:Item):List Int:=[x.Key,x.Val,0]
def mkI(p:List Int×Int):Item:=match p.1 with
 |[k,v,_]=>⟨k,v,p.2⟩
 |_=>⟨0,0,p.2⟩
def chI(xs:List Item):List (List Int×Int):=xs.map λx=>(kI x,x.Count)
def gathI(xs:List Item):List Item:=(qc (chI xs)).map mkI
def mb(m:MP)(S:List Nat):List Item:=((S.map λi=>m.getD i ([0,0,0],0)).filter λp=>p.2 != 0).map mkI
noncomputable def vt(a0:List Item):List Item:=gathI a0
def Am(a0:List Item):Prop:=lim (ba .item a0) 1
noncomputable def iF:Spec:=⟨[.lst .item],.one .fr (.lst .item),false,λx=>(vt x.1,0),λx=>Am x.1⟩
section
open Go Go.Proofs Go.Shelf Go.RowKit Go.Lib Go.Sort
def NV:Go.Shelf.Ren:=⟨fun|6=>84|10=>120|11=>121|12=>122|13=>123|14=>124|24=>151|25=>152|26=>153|27=>154|28=>155|29=>156|30=>157|31=>158|32=>159|33=>160|34=>166|35=>167|36=>168|37=>169|38=>170|39=>173|n=>n,fun|20=>20|26=>98|35=>117|0=>0|37=>119|3=>3|41=>123|44=>126|49=>143|51=>145|4=>4|54=>148|53=>147|58=>152|5=>5|9=>9|60=>157|64=>161|66=>164|67=>165|17=>17|32=>114|33=>115|82=>180|12=>12|75=>173|76=>174|77=>175|78=>176|79=>177|80=>178|n=>n,fun|n=>n⟩
theorem sl6:Go.Proofs.LaysGg.n6 Tryz.prog NV:={
 mixed:=by kernel_rfl,
 f6:=Tryz.func84.trans (congrArg some (by kernel_rfl)),
 f10:=Tryz.func120.trans (congrArg some (by kernel_rfl)),
 f11:=Tryz.func121.trans (congrArg some (by kernel_rfl)),
 f12:=Tryz.func122.trans (congrArg some (by kernel_rfl)),
 f13:=Tryz.func123.trans (congrArg some (by kernel_rfl)),
 f14:=Tryz.func124.trans (congrArg some (by kernel_rfl)),
 f24:=Tryz.func151.trans (congrArg some (by kernel_rfl)),
 f25:=Tryz.func152.trans (congrArg some (by kernel_rfl)),
 f26:=Tryz.func153.trans (congrArg some (by kernel_rfl)),
 f27:=Tryz.func154.trans (congrArg some (by kernel_rfl)),
 f28:=Tryz.func155.trans (congrArg some (by kernel_rfl)),
 f29:=Tryz.func156.trans (congrArg some (by kernel_rfl)),
 f30:=Tryz.func157.trans (congrArg some (by kernel_rfl)),
 f31:=Tryz.func158.trans (congrArg some (by kernel_rfl)),
 f32:=Tryz.func159.trans (congrArg some (by kernel_rfl)),
 f33:=Tryz.func160.trans (congrArg some (by kernel_rfl)),
 f34:=Tryz.func166.trans (congrArg some (by kernel_rfl)),
 f35:=Tryz.func167.trans (congrArg some (by kernel_rfl)),
 f36:=Tryz.func168.trans (congrArg some (by kernel_rfl)),
 f37:=Tryz.func169.trans (congrArg some (by kernel_rfl)),
 f38:=Tryz.func170.trans (congrArg some (by kernel_rfl)),
 f39:=Tryz.func173.trans (congrArg some (by kernel_rfl)),
 t0:=Tryz.underlying0,
 a0:=Tryz.isAgg0,
 z0:=Tryz.sizeOf0,
 v0:=Tryz.zeroValue0,
 i0:=by kernel_rfl,
 t3:=Tryz.underlying3,
 a3:=Tryz.isAgg3,
 z3:=Tryz.sizeOf3,
 v3:=Tryz.zeroValue3,
 i3:=by kernel_rfl,
 t4:=Tryz.underlying4,
 a4:=Tryz.isAgg4,
 z4:=Tryz.sizeOf4,
 v4:=Tryz.zeroValue4,
 i4:=by kernel_rfl,
 t5:=Tryz.underlying5,
 a5:=Tryz.isAgg5,
 z5:=Tryz.sizeOf5,
 v5:=Tryz.zeroValue5,
 i5:=by kernel_rfl,
 t9:=Tryz.underlying9,
 a9:=Tryz.isAgg9,
 z9:=Tryz.sizeOf9,
 v9:=Tryz.zeroValue9,
 i9:=by kernel_rfl,
 t12:=Tryz.underlying12,
 a12:=Tryz.isAgg12,
 z12:=Tryz.sizeOf12,
 v12:=Tryz.zeroValue12,
 i12:=by kernel_rfl,
 t17:=Tryz.underlying17,
 a17:=Tryz.isAgg17,
 z17:=Tryz.sizeOf17,
 v17:=Tryz.zeroValue17,
 i17:=by kernel_rfl,
 t20:=Tryz.underlying20,
 a20:=Tryz.isAgg20,
 z20:=Tryz.sizeOf20,
 v20:=Tryz.zeroValue20,
 i20:=by kernel_rfl,
 t26:=Tryz.underlying98,
 a26:=Tryz.isAgg98,
 z26:=Tryz.sizeOf98,
 v26:=Tryz.zeroValue98,
 i26:=by kernel_rfl,
 t32:=Tryz.underlying114,
 a32:=Tryz.isAgg114,
 z32:=Tryz.sizeOf114,
 v32:=Tryz.zeroValue114,
 i32:=by kernel_rfl,
 t33:=Tryz.underlying115,
 a33:=Tryz.isAgg115,
 z33:=Tryz.sizeOf115,
 v33:=Tryz.zeroValue115,
 i33:=by kernel_rfl,
 t35:=Tryz.underlying117,
 a35:=Tryz.isAgg117,
 z35:=Tryz.sizeOf117,
 v35:=Tryz.zeroValue117,
 i35:=by kernel_rfl,
 t37:=Tryz.underlying119,
 a37:=Tryz.isAgg119,
 z37:=Tryz.sizeOf119,
 v37:=Tryz.zeroValue119,
 i37:=by kernel_rfl,
 t41:=Tryz.underlying123,
 a41:=Tryz.isAgg123,
 z41:=Tryz.sizeOf123,
 v41:=Tryz.zeroValue123,
 i41:=by kernel_rfl,
 t44:=Tryz.underlying126,
 a44:=Tryz.isAgg126,
 z44:=Tryz.sizeOf126,
 v44:=Tryz.zeroValue126,
 i44:=by kernel_rfl,
 t49:=Tryz.underlying143,
 a49:=Tryz.isAgg143,
 z49:=Tryz.sizeOf143,
 v49:=Tryz.zeroValue143,
 i49:=by kernel_rfl,
 t51:=Tryz.underlying145,
 a51:=Tryz.isAgg145,
 z51:=Tryz.sizeOf145,
 v51:=Tryz.zeroValue145,
 i51:=by kernel_rfl,
 t53:=Tryz.underlying147,
 a53:=Tryz.isAgg147,
 z53:=Tryz.sizeOf147,
 v53:=Tryz.zeroValue147,
 i53:=by kernel_rfl,
 t54:=Tryz.underlying148,
 a54:=Tryz.isAgg148,
 z54:=Tryz.sizeOf148,
 v54:=Tryz.zeroValue148,
 i54:=by kernel_rfl,
 t58:=Tryz.underlying152,
 a58:=Tryz.isAgg152,
 z58:=Tryz.sizeOf152,
 v58:=Tryz.zeroValue152,
 i58:=by kernel_rfl,
 t60:=Tryz.underlying157,
 a60:=Tryz.isAgg157,
 z60:=Tryz.sizeOf157,
 v60:=Tryz.zeroValue157,
 i60:=by kernel_rfl,
 t64:=Tryz.underlying161,
 a64:=Tryz.isAgg161,
 z64:=Tryz.sizeOf161,
 v64:=Tryz.zeroValue161,
 i64:=by kernel_rfl,
 t66:=Tryz.underlying164,
 a66:=Tryz.isAgg164,
 z66:=Tryz.sizeOf164,
 v66:=Tryz.zeroValue164,
 i66:=by kernel_rfl,
 t67:=Tryz.underlying165,
 a67:=Tryz.isAgg165,
 z67:=Tryz.sizeOf165,
 v67:=Tryz.zeroValue165,
 i67:=by kernel_rfl,
 t75:=Tryz.underlying173,
 a75:=Tryz.isAgg173,
 z75:=Tryz.sizeOf173,
 v75:=Tryz.zeroValue173,
 i75:=by kernel_rfl,
 t76:=Tryz.underlying174,
 a76:=Tryz.isAgg174,
 z76:=Tryz.sizeOf174,
 v76:=Tryz.zeroValue174,
 i76:=by kernel_rfl,
 t77:=Tryz.underlying175,
 a77:=Tryz.isAgg175,
 z77:=Tryz.sizeOf175,
 v77:=Tryz.zeroValue175,
 i77:=by kernel_rfl,
 t78:=Tryz.underlying176,
 a78:=Tryz.isAgg176,
 z78:=Tryz.sizeOf176,
 v78:=Tryz.zeroValue176,
 i78:=by kernel_rfl,
 t79:=Tryz.underlying177,
 a79:=Tryz.isAgg177,
 z79:=Tryz.sizeOf177,
 v79:=Tryz.zeroValue177,
 i79:=by kernel_rfl,
 t80:=Tryz.underlying178,
 a80:=Tryz.isAgg178,
 z80:=Tryz.sizeOf178,
 v80:=Tryz.zeroValue178,
 i80:=by kernel_rfl,
 t82:=Tryz.underlying180,
 a82:=Tryz.isAgg180,
 z82:=Tryz.sizeOf180,
 v82:=Tryz.zeroValue180,
 i82:=by kernel_rfl }
def ltI(x y:Item):Bool:=decide (x.Key<y.Key)||(decide (x.Key=y.Key)&&decide (x.Val<y.Val))
def encI(x:Item):List Value:=[.int .i64 x.Key,.int .i64 x.Val,.int .i64 x.Count]
theorem IE:SWO ltI:=by
 constructor
 .intro x;simp[ltI]
 .intro x y z h1 h2;simp only[ltI,Bool.or_eq_true,Bool.and_eq_true,decide_eq_true_eq]at h1 h2⊢;omega
 .intro x y z h1 h2;simp only[ltI,Bool.or_eq_false_iff,Bool.and_eq_false_iff,decide_eq_false_iff_not]at h1 h2⊢;omega
set_option maxHeartbeats 4000000 in
theorem JE(blk off c Bs size:Nat)(W:World)(G:Nat->Item)(hs:W.cell? ⟨Bs,0,none⟩=some (.slice (some ⟨blk,off,none⟩) size c))
  (hk:∀t,t<size->W.cell? ⟨blk,off+t*3,none⟩=some (.int .i64 (G t).Key)) (hv:∀t,t<size->W.cell? ⟨blk,off+t*3+1,none⟩=some (.int .i64 (G t).Val)) (i j:Nat) (hi:i<size) (hj:j<size) (_hsz:size<4611686018427387904) :
  Calls Tryz.prog 127 #[.int .i64 i,.int .i64 j,.pointer (some ⟨Bs,0,none⟩)] W λe w'=>e=.returned (.bool (ltI (G i) (G j)))/\∃q,w'=W.drewN q:=by
 have ki:=hk i hi;have kj:=hk j hj;have vi:=hv i hi;have vj:=hv j hj;by_cases h1:(G i).Key<(G j).Key
 .have e1:decide ((G i).Key<(G j).Key)=true:=decide_eq_true h1;have hl:ltI (G i) (G j)=true:=by simp[ltI,h1]
  rw[hl]
  go_enter Tryz.func127,Tryz.ntmps127
  go_wp2
  go_quiet (fail)
  go_wp2
  go_ret
  exact⟨rfl,nq,rfl⟩
 .have e1:decide ((G i).Key<(G j).Key)=false:=decide_eq_false h1;by_cases h2:(G i).Key=(G j).Key
  .have e2:((G i).Key == (G j).Key)=true:=by simp[h2]
   have hl:ltI (G i) (G j)=decide ((G i).Val<(G j).Val):=by simp[ltI,h2]
   rw[hl]
   go_enter Tryz.func127,Tryz.ntmps127
   go_wp2
   go_quiet (fail)
   go_wp2
   go_ret
   exact⟨rfl,nq,rfl⟩
  .have e2:((G i).Key == (G j).Key)=false:=by simp[h2]
   have hl:ltI (G i) (G j)=false:=by simp[ltI,h1,h2]
   rw[hl]
   go_enter Tryz.func127,Tryz.ntmps127
   go_wp2
   go_quiet (fail)
   go_wp2
   go_ret
   exact⟨rfl,nq,rfl⟩
noncomputable def svT:TypeInfo:=(Tryz.prog.info? 35).get (by kernel_rfl)
noncomputable def svE:TypeInfo:=(Tryz.prog.info? 77).get (by kernel_rfl)
theorem LE(n:Nat)(h2:2<=n):Lib.swapperK n svE 25=9:=by
 have a:svE.hasPointers=false:=by kernel_rfl
 have b:svE.bytes=24:=by kernel_rfl
 have c:(n == 0)=false:=by simp;omega
 have d:(n == 1)=false:=by simp;omega
 simp[Lib.swapperK,a,b,c,d]
theorem ME(blk off c Bs:Nat)(d:Array Item)(hsz:d.size<4611686018427387904)(w:World)(hH:HoldsK encI 3 w blk off d)(hblk:blk<w.heap.size)
  (hBs:w.cell? ⟨Bs,0,none⟩=some (.slice (some ⟨blk,off,none⟩) d.size c)) (hB1:Bs<w.heap.size) (hB2:Bs≠blk) :
  Calls Tryz.prog 84 #[.iface 35 (.slice (some ⟨blk,off,none⟩) d.size c),.func (.func 127) #[] #[.pointer (some ⟨Bs,0,none⟩)]] w λe w'=>
   e=.returned (.tuple #[])/\∃(d':Array Item) (n:Nat) (os:Array Obj),d'.toList.Perm d.toList/\(∀i j,i<j->j<d'.size->ltI d'[j]! d'[i]! = false)/\w'=grow (putRowK encI 3 (Sort.ahead w n) blk off d') os:=by
 by_cases h2:2<=d.size
 .have hl:LessReadsK Tryz.prog 127 #[.pointer (some ⟨Bs,0,none⟩)] encI 3 ltI blk off d.size w:=by
   intro m os dk hs i j hi hj
   have e:sortWorldK encI 3 w blk off m dk os=putRowK encI 3 (grow (Sort.ahead w m) os) blk off dk:=by
    unfold sortWorldK;rw[putRowK_grow _ _ (Sort.ahead w m) _ blk off _ hblk]
   have hh:HoldsK encI 3 (grow (Sort.ahead w m) os) blk off d:=holdsK_grow _ _ _ _ blk off d hblk (holdsK_ahead _ _ _ _ _ _ _ hH);refine JE blk off c Bs d.size _ (λt=>dk[t]!) ?_ (λt ht=>?_) (λt ht=>?_) i j hi hj (by omega)
   .rw[e,cell?_putRowK_other _ _ _ blk off dk _ (by exact hB2),cell?_grow _ _ _ (by exact hB1)];exact hBs
   .rw[e];exact((holdsK_putRowK _ _ _ blk off d dk hh hs).cell (i:=t) (c:=0) (by omega) (by omega)).1
   .rw[e];exact((holdsK_putRowK _ _ _ blk off d dk hh hs).cell (i:=t) (c:=1) (by omega) (by omega)).1
  refine(Any.sort_Slice_cells_sorted sl6 35 77 svT svE (by kernel_rfl) (by kernel_rfl) (by kernel_rfl) (by kernel_rfl) 25 (λ_=>by kernel_rfl) encI 3 (λ_=>rfl) (by kernel_rfl) (λ_=>by kernel_rfl)
   (λx v hv=>by simp[encI]at hv;rcases hv with rfl|rfl|rfl<;>rfl) ltI IE 127 _
   (enters_of Tryz.func127 (by kernel_rfl) rfl) blk off c d h2 hsz 150 (by rw[LE _ h2];kernel_rfl) false
   (λargs W=>run_callFunc_extern Tryz.func150 (by kernel_rfl) (by kernel_rfl) (by kernel_rfl) (e:=Extern.ReflectliteSwapper.swap false) (by kernel_rfl) args W) w hl hH hblk).mono ?_
  rintro e w' ⟨rfl,d',n,os,hp,hs,rfl⟩;refine⟨rfl,d',n,os,?_,λi j hij hj=>hs i j (Nat.zero_le _) hij (by rw[<-hp.1];exact hj),rfl⟩;have h3:=hp.2.2;have h4:d'.extract 0 d.size=d':=by rw[<-hp.1];simp
  rw[h4]at h3;simpa using h3
 .have hK:∃k,Tryz.prog.funcs.findIdx? (·.name == "internal/reflectlite"++".Swapper$"++toString (Lib.swapperK d.size svE 25))=some k:=by
   rcases Nat.lt_or_ge d.size 1 with h|h
   .have hd:d.size=0:=by omega
    exact⟨142,by rw[hd,show Lib.swapperK 0 svE 25=1 by kernel_rfl];kernel_rfl⟩
   .have hd:d.size=1:=by omega
    exact⟨143,by rw[hd,show Lib.swapperK 1 svE 25=2 by kernel_rfl];kernel_rfl⟩
  obtain⟨k,hk⟩:=hK;refine(Any.sort_Slice_tiny sl6 35 77 svT svE (by kernel_rfl) (by kernel_rfl) (by kernel_rfl) (by kernel_rfl) 25 (λ_=>by kernel_rfl) (some ⟨blk,off,none⟩) d.size c (by omega) k hk (.func 127) #[] _ w).mono ?_;rintro e w' ⟨rfl,os,rfl⟩;refine⟨rfl,d,0,os,.refl _,λi j hij hj=>by omega,?_⟩;rw[show Sort.ahead w 0=w from rfl,putRowK_self encI 3 w blk off d hH]
end
def ttg:TT:=[(3,⟨.scalar,1,[.int .i64 0],some .int,false⟩),(4,⟨.scalar,1,[.bool false],some .bool,false⟩),(35,⟨.slice 77,1,[.nl .item],none,false⟩),
 (77,⟨.struct [(0,1),(1,1),(2,1)],3,[.int .i64 0,.int .i64 0,.int .i64 0],some .item,true⟩)]
theorem Be:Ub Tryz.prog ttg:=gm (by kernel_rfl)
theorem gg:Good Tryz.prog ttg []:=⟨Be,(λ_ _ h=>by cases h),by kernel_rfl⟩
theorem tdE:Cb Tryz.prog 77 ⟨.struct [(0,1),(1,1),(2,1)],3,[.int .i64 0,.int .i64 0,.int .i64 0],some .item,true⟩:=Be.td _ _ (by kernel_rfl)
theorem td3:Cb Tryz.prog 3 ⟨.scalar,1,[.int .i64 0],some .int,false⟩:=Be.td _ _ (by kernel_rfl)
noncomputable def fsG:Array Field:=match Tryz.prog.underlying 77 with
 |some (.struct fs)=>fs
 |_=>#[]
noncomputable def sv3:TypeInfo:=(Tryz.prog.info? 3).get (by kernel_rfl)
theorem Jg:kE Tryz.prog 128 77 3 3:=by
 refine⟨by kernel_rfl,⟨fsG,by kernel_rfl⟩,Be.eq _ ⟨.struct [(0,1),(1,1),(2,1)],3,[.int .i64 0,.int .i64 0,.int .i64 0],some .item,true⟩ (by kernel_rfl) rfl,
  lE (fs:=fsG) (i:=svE) (by kernel_rfl) (by kernel_rfl) (by kernel_rfl) (by kernel_rfl),λw=>?_⟩
 have hi : Tryz.prog.info? 3=some sv3:=by kernel_rfl
 have hz:sv3.zero=some (.int .i64 0):=by kernel_rfl
 simp[zeroValue,typeInfo,hi,hz]
noncomputable def C0:Code:=ee Tryz.f96
noncomputable def o1(i:Nat):Oper:=opN (opsOf (nav C0 [1,0])) i
noncomputable def o5(i:Nat):Oper:=opN (opsOf (nav C0 [1,1,0,1,0,0,1,1,0,0,1])) i
noncomputable def o8(i:Nat):Oper:=opN (opsOf (nav C0 [1,1,1,1,0,0])) i
noncomputable def o9(i:Nat):Oper:=opN (opsOf (nav C0 [1,1,1,1,0,1,0,0,0])) i
noncomputable def o10(i:Nat):Oper:=opN (opsOf (nav C0 [1,1,1,1,0,1,0,0,1,1,0,0])) i
noncomputable def o14(i:Nat):Oper:=opN (opsOf (nav C0 [1,1,1,1,1,0])) i
theorem chk:(opsOf (nav C0 [1,0])).size=2/\(opsOf (nav C0 [1,1,0,1,0,0,1,1,0,0,1])).size=13/\(opsOf (nav C0 [1,1,1,1,0,0])).size=2/\(opsOf (nav C0 [1,1,1,1,0,1,0,0,0])).size=2 /\
 (opsOf (nav C0 [1,1,1,1,0,1,0,0,1,1,0,0])).size=6/\(opsOf (nav C0 [1,1,1,1,1,0])).size=4:=⟨by kernel_rfl,by kernel_rfl,by kernel_rfl,by kernel_rfl,by kernel_rfl,by kernel_rfl⟩
theorem PE(w:World)(k v:Int):(Instr.build 77 #[(0,.int .i64 k),(1,.int .i64 v)]).run Tryz.prog w=.ok (Ha [k,v,0]) w:=by
 obtain⟨us,h1,h2⟩:=qD (F:=λ_ _=>False) (B:=0) (w:=w) tdE rfl (ps:=[(0,⟨true,false,[.int .i64 k]⟩),(1,⟨true,false,[.int .i64 v]⟩)]) (vs:=#[(0,.int .i64 k),(1,.int .i64 v)])
  (f:=true) (cs:=[.int .i64 k,.int .i64 v,.int .i64 0]) rfl (λj i p u hp hu=>by
    match j,hp,hu with
    |0,hp,hu=>simp at hp hu;obtain⟨rfl,rfl⟩:=hp;subst hu;exact RC.int _ _
    |1,hp,hu=>simp at hp hu;obtain⟨rfl,rfl⟩:=hp;subst hu;exact RC.int _ _
    |j+2,hp,hu=>simp at hp) rfl
 rw[h1];cases h2 with
 |cons h2 h3=>cases h2;cases h3 with
  |cons h2 h3=>cases h2;cases h3 with
   |cons h2 h3=>cases h2;cases h3;rfl
def V5(r b5:Nat)(k v c:Int)(m:MP):Nat->Value
 |0=>.map (some r)
 |1=>.pointer (some ⟨b5,0,none⟩)
 |2=>.int .i64 k
 |3=>.pointer (some ⟨b5,1,none⟩)
 |4=>.int .i64 v
 |5=>Ha [k,v,0]
 |6=>.int .i64 (Xa m [k,v,0])
 |7=>.pointer (some ⟨b5,2,none⟩)
 |8=>.int .i64 c
 |9=>.int .i64 (ar .add .i64 (Xa m [k,v,0]) c)
 |10=>.tuple #[.int .i64 (Xa m [k,v,0]),goInt (stp m [k,v,0])]
 |_=>goInt (stp m [k,v,0])
def mL(m:MP)(q:List Int×Int)(L:Nat->Bool):MP:=if L 12 then stepM m q else if L 10 then oc m q.1 else m
structure J5(a0:Act)(w1:World)(r b5:Nat)(k v c:Int)(m:MP)(L:Nat->Bool)(a:Act)(w:World):Prop where
 df:a.defers=[]
 sz:a.tmps.size=a0.tmps.size
 vs:∀i,i<12->L i=true->a.tmps.getD (16+i) undef=V5 r b5 k v c m i
 ot:∀n,n<16\/27<n->a.tmps.getD n undef=a0.tmps.getD n undef
 pk:Pk w1 r w
 ob:w.heap[r]? = some (oa (mL m ([k,v,0],c) L))
theorem Db.ins{n:Nat}{m:MP}(h:Db n m){ks:List Int}(hk:ks.length=n):Db n (oc m ks):=by
 unfold oc;split
 .exact h
 .intro p hp;rcases List.mem_append.1 hp with hp|hp
  .exact h p hp
  .simp at hp;subst hp;exact hk
theorem NL(m:MP)(ks:List Int):Xa (oc m ks) ks=Xa m ks:=IK m ks ks
theorem PL(m:MP)(ks:List Int):stp m ks<(oc m ks).length:=by
 obtain⟨v0,h⟩:=LK m ks;exact(List.getElem?_eq_some_iff.1 h).1
theorem Pk.trans{w w' w'':World}{r:Nat}(h:Pk w r w')(k:Pk w' r w''):Pk w r w'':=⟨k.os.trans h.os,k.tape.trans h.tape,k.output.trans h.output,k.size.trans h.size,λi hi=>(k.block i hi).trans (h.block i hi)⟩
theorem J5.put{a0:Act}{w1:World}{r b5:Nat}{k v c:Int}{m:MP}{L:Nat->Bool}{a:Act}{w w':World}(h:J5 a0 w1 r b5 k v c m L a w)(h28:28<=a0.tmps.size){i:Nat}(hi:i<12)(hp:Pk w r w')
  (ho:w'.heap[r]? = some (oa (mL m ([k,v,0],c) λj=>if j=i then true else L j))):J5 a0 w1 r b5 k v c m (λj=>if j=i then true else L j) (a.put (some (16+i)) (V5 r b5 k v c m i)) w':=by
 have hs:16+i<a.tmps.size:=by rw[h.sz];omega
 refine⟨h.df,by rw[xe];exact h.sz,λj hj hL=>?_,λn hn=>?_,h.pk.trans hp,ho⟩
 .rw[Ga a _ _ hs];by_cases e:j=i
  .rw[if_pos (by omega),e]
  .rw[if_neg (by omega)];exact h.vs j hj (by simpa [e] using hL)
 .rw[Ga a _ _ hs,if_neg (by omega)];exact h.ot n hn
theorem RE{m:MP}{q:List Int×Int}{L:Nat->Bool}{i:Nat}(h1:i≠10)(h2:i≠12):mL m q (λj=>if j=i then true else L j)=mL m q L:=by
 unfold mL;have e1:¬ (12=i):=λe=>h2 e.symm;have e2:¬ (10=i):=λe=>h1 e.symm;simp[e1,e2]
theorem op5:(∀i,i<12->(o5 i).dst=some (16+i)/\(o5 i).guard=none)/\(o5 12).dst=none/\(o5 12).guard=none /\
  (o5 0).op=.move (.tmp 3)/\(o5 1).op=.fieldAddr 77 (.tmp 5) 0/\(o5 2).op=.load 3 (.tmp 17)/\(o5 3).op=.fieldAddr 77 (.tmp 5) 1/\(o5 4).op=.load 3 (.tmp 19)/\(o5 5).op=.build 77 #[(0,.tmp 18),(1,.tmp 20)] /\
  (o5 6).op=.lookup 128 (.tmp 16) (.tmp 21) false/\(o5 7).op=.fieldAddr 77 (.tmp 5) 2/\(o5 8).op=.load 3 (.tmp 23)/\(o5 9).op=.binOp .add 3 (.tmp 22) (.tmp 24) 3/\(o5 10).op=.mapEntry 128 (.tmp 16) (.tmp 21) /\
  (o5 11).op=.extract (.tmp 26) 1/\(o5 12).op=.entryStore 128 (.tmp 16) (.tmp 27) (.tmp 25):=by
 refine⟨λi hi=>?_,by kernel_rfl,by kernel_rfl,by kernel_rfl,by kernel_rfl,by kernel_rfl,by kernel_rfl,by kernel_rfl,by kernel_rfl,by kernel_rfl,by kernel_rfl,by kernel_rfl,by kernel_rfl,by kernel_rfl,by kernel_rfl,by kernel_rfl⟩;rcases (show i=0\/i=1\/i=2\/i=3\/i=4\/i=5\/i=6\/i=7\/i=8\/i=9\/i=10\/i=11 by omega) with rfl|rfl|rfl|rfl|rfl|rfl|rfl|rfl|rfl|rfl|rfl|rfl<;>exact⟨by kernel_rfl,by kernel_rfl⟩
set_option maxHeartbeats 1600000 in
set_option maxRecDepth 20000 in
theorem SE{Q:Exit->Act->World->Prop}{B:Nat}{W0:World}{F0:Fz}{r:Nat}{m:MP}{e:Env}{k v c:Int}{a:Act}{w:World}{N:NP}(hs:MS N B [] W0 F0 [(r,oa m)] e a w)(hfl:ce e=true)
  (hN:N.n=50/\N.r=none/\N.k=[(3,.map (some r))]) (hg:ca e 5=.box [(.fr,.int .i64 k),(.fr,.int .i64 v),(.fr,.int .i64 c)]) (hd:∀d,16<=d->d<=27->Ja (ca e d)=true) (hm:Db 3 m)
  (hQ:∀a w,MS N B [] W0 F0 [(r,oa (stepM m ([k,v,0],c)))] e a w->Q .normal a w):(nav C0 [1,1,0,1,0,0,1,1,0,0,1]).wp Tryz.prog Q a w:=by
 obtain⟨hw,hy,hz⟩:=hN;have ix:nav C0 [1,1,0,1,0,0,1,1,0,0,1]=.region (Gg (nav C0 [1,1,0,1,0,0,1,1,0,0,1])) (opsOf (nav C0 [1,1,0,1,0,0,1,1,0,0,1])) true:=by kernel_rfl
 have hsz:(opsOf (nav C0 [1,1,0,1,0,0,1,1,0,0,1])).size=13:=chk.2.1;obtain⟨F,ow,hx⟩:=hs.sim.rep;obtain⟨b5,us,kq,_,hc,_,hlen,io⟩:=hx.box hg;have kq:a.tmps.getD 5 undef=.pointer (some ⟨b5,0,none⟩):=kq;have hr:=hs.o (List.mem_singleton.2 rfl);have ih:b5≠r:=hc.ne hr rfl;have h3:a.tmps.getD 3 undef=.map (some r):=hs.k (by rw[hz];simp);have hq:28<=a.tmps.size:=by rw[hs.sim.tmps.size,hw];omega
 have ks:us=[.int .i64 k,.int .i64 v,.int .i64 c]:=by
  match us,hlen with
  |[u0,u1,u2],_=>
   have q0:RC F B w (.int .i64 k) u0:=io 0 _ u0 rfl rfl;have q1:RC F B w (.int .i64 v) u1:=io 1 _ u1 rfl rfl;have q2:RC F B w (.int .i64 c) u2:=io 2 _ u2 rfl rfl;cases q0;cases q1;cases q2;rfl
 subst ks;obtain⟨ju,ie,jb,p0,p1,p2,p3,p4,p5,p6,p7,p8,p9,p10,p11,p12⟩:=op5;have kk:([k,v,0]:List Int).length=3:=rfl;rw[ix];refine wp_region_any gg.hm ?_;refine gE (J:=J5 a { w with drawn:=w.drawn+1 } r b5 k v c m) (by kernel_rfl) ?_ ?_ (opsOf (nav C0 [1,1,0,1,0,0,1,1,0,0,1])).size _ a _ (by simp) (by simp) ?_ ?_
 .intro L a' w' i o kj hv hE it hJ next hn;have ki:i<13:=by have:=(Array.getElem?_eq_some_iff.1 kj).1;omega
  have ho:o=o5 i:=(Vj kj).symm;have hu:∀j,Hg (o5 i) j=true->L j=true:=λj hj=>Uj (by rw[<-ho];exact hE) hj
  have hC:∀i j,i<13->L i=true->Hg (o5 i) j=true->L j=true:=λi j hi hL hj=>by
   have km:i<(opsOf (nav C0 [1,1,0,1,0,0,1,1,0,0,1])).size:=by omega
   exact Uj (λe he hb=>it i (o5 i) (by have:=Array.getElem?_eq_getElem km;rw[this];exact congrArg some (Vj this).symm) hL e he hb) hj
  have hf:Blk w' b5 [.int .i64 k,.int .i64 v,.int .i64 c]:=by
   refine Blk.same (w:=w) hc ?_;rw[hJ.pk.block b5 ih]
  have t3:a'.tmps.getD 3 undef=.map (some r):=by rw[hJ.ot 3 (.inl (by omega))];exact h3
  have t5:a'.tmps.getD 5 undef=.pointer (some ⟨b5,0,none⟩):=by rw[hJ.ot 5 (.inl (by omega))];exact kq
  have kx:∀(hi:i<12),i≠10->(execOp a'.eval (o5 i)).run Tryz.prog w'=.ok (.value (V5 r b5 k v c m i)) w'->wpOp Tryz.prog (opsOf (nav C0 [1,1,0,1,0,0,1,1,0,0,1])) Q i next a' w':=by
   intro hi hh kr;refine ra kj (by rw[ho];exact(ju i hi).2) ?_;rw[ho];refine Ra kr ?_;rw[(ju i hi).1];exact hn _ _ (hJ.put hq hi ⟨rfl,rfl,rfl,rfl,λ_ _=>rfl⟩ (by rw[RE hh (by omega)];exact hJ.ob))
  have kn:L 12=false->w'.heap[r]? = some (oa (if L 10 then oc m [k,v,0] else m)):=λh=>by
   have:=hJ.ob;unfold mL at this;rw[h]at this;simpa using this
  rcases (show i=0\/i=1\/i=2\/i=3\/i=4\/i=5\/i=6\/i=7\/i=8\/i=9\/i=10\/i=11\/i=12 by omega) with rfl|rfl|rfl|rfl|rfl|rfl|rfl|rfl|rfl|rfl|rfl|rfl|rfl
  .exact kx (by omega) (by omega) (by rw[Ae p0,t3];rfl)
  .exact kx (by omega) (by omega) (Bh p1 t5 tdE rfl rfl)
  .exact kx (by omega) (by omega) (Ff p2 (hJ.vs 1 (by omega) (hu 1 (by kernel_rfl))) td3 rfl (by rw[hf.cell];rfl))
  .exact kx (by omega) (by omega) (Bh p3 t5 tdE rfl rfl)
  .exact kx (by omega) (by omega) (Ff p4 (hJ.vs 3 (by omega) (hu 3 (by kernel_rfl))) td3 rfl (by rw[hf.cell];rfl))
  .refine kx (by omega) (by omega) (WK p5 ?_);have e1:a'.tmps.getD 18 undef=.int .i64 k:=hJ.vs 2 (by omega) (hu 2 (by kernel_rfl));have e2:a'.tmps.getD 20 undef=.int .i64 v:=hJ.vs 4 (by omega) (hu 4 (by kernel_rfl))
   have:(#[(0,Operand.tmp 18),(1,Operand.tmp 20)].map λp=>(p.1,a'.eval p.2))=#[(0,Value.int .i64 k),(1,Value.int .i64 v)]:=by
    simp only[List.map_toArray,List.map_cons,List.map_nil];rw[show a'.eval (.tmp 18)=.int .i64 k from e1,show a'.eval (.tmp 20)=.int .i64 v from e2]
   rw[this];exact PE w' k v
  .refine kx (by omega) (by omega) (Vs p6 ?_);rw[hJ.vs 0 (by omega) (hu 0 (by kernel_rfl)),hJ.vs 5 (by omega) (hu 5 (by kernel_rfl))]
   have hl:L 12=false:=by
    cases h:L 12 with
    |false=>rfl
    |true=>
     have h9:=hC 12 9 (by omega) h (by kernel_rfl);have h6:=hC 9 6 (by omega) h9 (by kernel_rfl);rw[h6]at hv;cases hv
   have kp:=kn hl;cases hh:L 10 with
   |false=>
    rw[hh]at kp;exact Ps Jg kp hm kk
   |true=>
    rw[hh]at kp;have kp:w'.heap[r]? = some (oa (oc m [k,v,0])):=kp;have:=Ps Jg kp (hm.ins kk) kk;rw[NL]at this;exact this
  .exact kx (by omega) (by omega) (Bh p7 t5 tdE rfl rfl)
  .exact kx (by omega) (by omega) (Ff p8 (hJ.vs 7 (by omega) (hu 7 (by kernel_rfl))) td3 rfl (by rw[hf.cell];rfl))
  .exact kx (by omega) (by omega) (TK p9 (hJ.vs 6 (by omega) (hu 6 (by kernel_rfl))) (hJ.vs 8 (by omega) (hu 8 (by kernel_rfl))))
  .have hl:L 12=false:=by
    cases h:L 12 with
    |false=>rfl
    |true=>
     have hk:=hC 12 11 (by omega) h (by kernel_rfl);have hh:=hC 11 10 (by omega) hk (by kernel_rfl);rw[hh]at hv;cases hv
   have kp:=kn hl;rw[hv]at kp;have kp:w'.heap[r]? = some (oa m):=kp;have kr:=yK Jg kp hm kk;refine ra kj (by rw[ho];exact(ju 10 (by omega)).2) ?_;rw[ho];refine Ra (PK p10 (by rw[hJ.vs 0 (by omega) (hu 0 (by kernel_rfl)),hJ.vs 5 (by omega) (hu 5 (by kernel_rfl))];exact kr)) ?_;rw[(ju 10 (by omega)).1];refine hn _ _ (hJ.put hq (by omega) (zh _ _ _) ?_);rw[Ah kp];unfold mL;simp[hl]
  .have e10:a'.tmps.getD 26 undef=.tuple #[.int .i64 (Xa m [k,v,0]),goInt (stp m [k,v,0])]:=hJ.vs 10 (by omega) (hu 10 (by kernel_rfl));have kr:(execOp a'.eval (o5 11)).run Tryz.prog w'=.ok (.value (goInt (stp m [k,v,0]))) w':=ig (vs:=#[.int .i64 (Xa m [k,v,0]),goInt (stp m [k,v,0])]) p11 e10 (by simp);exact kx (by omega) (by omega) kr
  .have hh:L 10=true:=hC 11 10 (by omega) (hu 11 (by kernel_rfl)) (by kernel_rfl);have kp:=kn hv;rw[hh]at kp;have kp:w'.heap[r]? = some (oa (oc m [k,v,0])):=kp;have kr:=zK Jg kp (PL m [k,v,0]) (ar .add .i64 (Xa m [k,v,0]) c);refine ra kj (by rw[ho];exact jb) ?_;rw[ho];refine Oi (QK p12 (by rw[hJ.vs 0 (by omega) (hu 0 (by kernel_rfl)),hJ.vs 11 (by omega) (hu 11 (by kernel_rfl)),hJ.vs 9 (by omega) (hu 9 (by kernel_rfl))];exact kr)) ?_;rw[ie];refine hn _ _ ⟨hJ.df,hJ.sz,λj hj hL=>hJ.vs j hj (by simpa [show j≠12 by omega] using hL),hJ.ot,hJ.pk.trans (zh _ _ _),?_⟩;rw[Ah kp];rfl
 .intro L a' w' ha hJ;refine hQ a' w' ?_
  have kp:w'.heap[r]? = some (oa (stepM m ([k,v,0],c))):=by
   have:=hJ.ob;unfold mL at this;rw[ha 12 (by omega)]at this;simpa using this
  have h1:=(hs.drew (w.drawn+1)).set (obs':=[(r,oa (stepM m ([k,v,0],c)))]) (List.mem_singleton.2 rfl) hJ.pk (λp hp=>by
   rw[List.mem_singleton.1 hp];exact .inr ⟨rfl,kp,rfl⟩)
  refine h1.tmps (D:=[16,17,18,19,20,21,22,23,24,25,26,27]) hfl (λd hdm=>⟨hd d ?_ ?_,?_⟩) hy hJ.df hJ.sz (λn hn=>hJ.ot n ?_)
  .simp at hdm;omega
  .simp at hdm;omega
  .rw[hz];have ht:3≠d:=by simp at hdm;omega
   simp[yi,Ue ht]
  .simp at hn;omega
 .intro i o ho hL;simp only[Array.getD_eq_getD_getElem?]at hL;by_cases hi:i<(opsOf (nav C0 [1,1,0,1,0,0,1,1,0,0,1])).size
  .simp[hi]at hL
  .simp[hi]at hL
 .refine⟨hs.sim.defers,rfl,λi hi hL=>?_,λn _=>rfl,⟨rfl,rfl,rfl,rfl,λ_ _=>rfl⟩,?_⟩
  .simp only[Array.getD_eq_getD_getElem?]at hL;simp[hsz,show i<13 by omega]at hL
  .show w.heap[r]? = _;rw[hr];unfold mL;simp[Array.getD_eq_getD_getElem?,hsz]
abbrev N1(r:Nat):NP:=⟨50,none,[(3,.map (some r))]⟩
def EL(xs:List Item)(i:Int):Env:=[(10,.v .sh (.lst .item xs)),(11,.v .fr (.int .i64 (ba .item xs))),(12,.v .fr (.int .i64 i))]
theorem wrap_small{x:Int}(h0:0<=x)(h1:x<9223372036854775808):IntKind.i64.wrap x=x:=by
 have hm:x % (2 ^ 64:Int)=x:=Int.emod_eq_of_lt h0 (by omega)
 have h2:¬ x >= (2 ^ (64 - 1):Int):=by
  have:(2 ^ (64 - 1):Int)=9223372036854775808:=by decide
  omega
 show(if(true&&decide (x % (2 ^ 64:Int) >= (2 ^ (64 - 1):Int)))=true then _ else x % (2 ^ 64:Int))=x;rw[hm,if_neg (by simpa using h2)]
theorem Eh{x:Int}(h0:0<=x)(h1:x<=1099511627776):ar .add .i64 x 1=x+1:=wrap_small (by omega) (by omega)
theorem Vi(xs:List Item):Db 3 (Sa (chI xs))/\∀p∈Sa (chI xs),∃k v,p.1=[k,v,0]:=by
 have key:∀(l:List (List Int×Int)) (m:MP),(∀p∈l,∃k v,p.1=[k,v,0])->(∀ks∈na m,∃k v,ks=[k,v,(0:Int)])->∀ks∈na (l.foldl stepM m),∃k v,ks=[k,v,(0:Int)]:=by
  intro l
  induction l with
  |nil=>exact λm _ h=>h
  |cons q r ih=>
   intro m hl hm;refine ih _ (λp hp=>hl p (by simp[hp])) (λks hk=>?_);rw[Qs]at hk;split at hk
   .exact hm ks hk
   .rcases List.mem_append.1 hk with hk|hk
    .exact hm ks hk
    .simp at hk;subst hk;exact hl q (by simp)
 have h2:∀p∈Sa (chI xs),∃k v,p.1=[k,v,0]:=λp hp=>key (chI xs) [] (λq hq=>by
  obtain⟨x,_,rfl⟩:=List.mem_map.1 hq;exact⟨x.Key,x.Val,rfl⟩) (by simp[na]) p.1 (List.mem_map.2 ⟨p,hp,rfl⟩)
 exact⟨λp hp=>by obtain⟨k,v,h⟩:=h2 p hp;rw[h];rfl,h2⟩
theorem UE{xs:List Item}{i:Nat}(hi:i<xs.length):Sa (chI (xs.take (i+1)))=stepM (Sa (chI (xs.take i))) (kI (rd .item xs i),(rd .item xs i).Count):=by
 have:xs.take (i+1)=xs.take i++[rd .item xs i]:=by
  rw[List.take_succ_eq_append_getElem hi]
  congr 2
  unfold rd;rw[List.getD_eq_getElem?_getD,show(i:Int).toNat=i from rfl,List.getElem?_eq_getElem hi];rfl
 rw[this];unfold Sa chI;rw[List.map_append,List.foldl_append];rfl
theorem QL:∀(m:MP) (i:Nat) (v:Int),(jd m i v).length=m.length
 |[],_,_=>rfl
 |_::_,0,_=>rfl
 |p::r,i+1,v=>by simp[jd,QL r i v]
theorem QV(m:MP)(q:List Int×Int):(stepM m q).length<=m.length+1:=by
 unfold stepM oc;rw[QL];split<;>simp
theorem RL(l:List (List Int×Int)):(Sa l).length<=l.length:=by
 unfold Sa
 suffices ∀(l:List (List Int×Int)) (m:MP),(l.foldl stepM m).length<=m.length+l.length by simpa using this l []
 intro l
 induction l with
 |nil=>exact λm=>Nat.le_refl _
 |cons q r ih=>
  intro m;have h1:=ih (stepM m q);have h2:=QV m q;simp only[List.foldl_cons,List.length_cons];omega
set_option maxRecDepth 20000 in
theorem VE{xs:List Item}(hlim:lim (ba .item xs) 1){Q:Exit->Act->World->Prop}{B:Nat}{W0:World}{F0:Fz}{r:Nat}{a:Act}{w:World}(hs:MS (N1 r) B [] W0 F0 [(r,oa [])] (EL xs 0) a w)
  (hQ:∀a w,MS (N1 r) B [] W0 F0 [(r,oa (Sa (chI xs)))] [] a w->Q .normal a w):(nav C0 [1,1,0,1]).wp Tryz.prog Q a w:=by
 have hlen:(xs.length:Int)<=1099511627775:=by have:ba .item xs+1<=1099511627776:=hlim;unfold ba at this;omega
 refine Nc (c1:=nav C0 [1,1,0,1,0]) (id:=0) (by kernel_rfl) ?_;rw[show nav C0 [1,1,0,1,0]=.loop (nav C0 [1,1,0,1,0,0]) by kernel_rfl];refine We (σ:=Nat) (λi a w=>i<=xs.length/\MS (N1 r) B [] W0 F0 [(r,oa (Sa (chI (xs.take i))))] (EL xs i) a w) (λi=>xs.length - i) ?_ 0 ⟨Nat.zero_le _,hs⟩;rintro i a w ⟨hi,hs⟩;refine ma (c1:=nav C0 [1,1,0,1,0,0,0]) (c2:=nav C0 [1,1,0,1,0,0,1]) (by kernel_rfl) ?_;refine MS.regC gg (keep:=[10,11,12,13]) (e':=[(10,.v .sh (.lst .item xs)),(11,.v .fr (.int .i64 (ba .item xs))),(12,.v .fr (.int .i64 i)),(13,.v .fr (.bool (cmp .lss i (ba .item xs))))]) (ps:=[]) (by kernel_rfl) trivial hs (λa w hs=>?_);refine ma (c1:=nav C0 [1,1,0,1,0,0,1,0]) (c2:=nav C0 [1,1,0,1,0,0,1,1]) (by kernel_rfl) ?_;refine ld (o:=.tmp 13) (c1:=nav C0 [1,1,0,1,0,0,1,0,0]) (c2:=nav C0 [1,1,0,1,0,0,1,0,1]) (by kernel_rfl) (hs.bool (k:=.fr) rfl) (λht=>Md (by kernel_rfl) ?_) (λhf=>jg (i:=0) (by kernel_rfl) ?_)
 .have hj:i<xs.length:=by
   have:decide ((i:Int)<ba .item xs)=true:=ht;have:=of_decide_eq_true this;unfold ba at this;omega
  show(nav C0 [1,1,0,1,0,0,1,1]).wp _ _ a w;refine ma (c1:=nav C0 [1,1,0,1,0,0,1,1,0]) (c2:=nav C0 [1,1,0,1,0,0,1,1,1]) (by kernel_rfl) ?_;refine Nc (c1:=nav C0 [1,1,0,1,0,0,1,1,0,0]) (id:=1) (by kernel_rfl) ?_;refine ma (c1:=nav C0 [1,1,0,1,0,0,1,1,0,0,0]) (c2:=nav C0 [1,1,0,1,0,0,1,1,0,0,1]) (by kernel_rfl) ?_
  refine MS.regC gg (keep:=[5,10,11,12]) (e':=[(5,.box [(.fr,.int .i64 (rd .item xs i).Key),(.fr,.int .i64 (rd .item xs i).Val),(.fr,.int .i64 (rd .item xs i).Count)]),(10,.v .sh (.lst .item xs)),(11,.v .fr (.int .i64 (ba .item xs))),(12,.v .fr (.int .i64 i))])
   (ps:=[inb i (ba .item xs)]) (by kernel_rfl) ⟨⟨by omega,by unfold ba;omega⟩,trivial⟩ hs (λa w hs=>?_)
  refine SE hs (by kernel_rfl) ⟨rfl,rfl,rfl⟩ rfl (λd h1 h2=>?_) (Vi _).1 (λa w hs=>?_)
  .rcases (show d=16\/d=17\/d=18\/d=19\/d=20\/d=21\/d=22\/d=23\/d=24\/d=25\/d=26\/d=27 by omega) with rfl|rfl|rfl|rfl|rfl|rfl|rfl|rfl|rfl|rfl|rfl|rfl<;>rfl
  .show(nav C0 [1,1,0,1,0,0,1,1,1]).wp _ _ a w;refine MS.regC gg (keep:=[10,11,12]) (e':=EL xs (ar .add .i64 i 1)) (ps:=[]) (by kernel_rfl) trivial hs (λa w hs=>?_);refine⟨i+1,by omega,by omega,?_⟩;rw[UE hj];rw[Eh (by omega) (by omega)]at hs;exact hs
 .have hh:xs.length<=i:=by
   have:decide ((i:Int)<ba .item xs)=false:=hf;have:=of_decide_eq_false this;unfold ba at this;omega
  show Exit.inBlock 0 Q (.exit 0) a w;simp only[Exit.inBlock,if_true];refine hQ a w ?_;rw[List.take_of_length_le hh]at hs;exact hs.weak (xa.cast (pat:=[]) (by kernel_rfl) (by kernel_rfl))
end Go.Proofs.YtiiidenbemkihaaGreat
