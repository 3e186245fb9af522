/-
  A region whose operations come in any order that its edges allow. A region, run: in any order that it may take. Regions, and the rules of the code around them. The rules of code, over abstract environments. From a body's run to a function's contract. A body's run is a contract. What the printed proofs lean on: code by its path, outcomes, loops over outcomes. Code by a table: what a piece of code does is a tree of decisions; that the tree is the code's is shown by computation. '==' on structs of numbers, and a check of the table of types. Steps that the evaluator does not know: objects that are no rows of cells. Maps whose keys are structs of numbers and whose values are numbers: how the machine's operations on them run. Keys may be keys; sums by keys, in order. No statement is proved here.
-/
import Derived.Test.YthfkpijcajdnhaaGreatA1
import Derived.Laws.StructEq
import Derived.Test.YthfkpijcajdnhaaGreatProg
import Derived.Shelf.SlSortFuncK.WholeK
import Derived.Shelf.GgSortFunc.Tiny
import Derived.Tactics2

namespace Go.Proofs.YthfkpijcajdnhaaGreat
open Go
def wh(acc:List Nat):List Edge->Nat
 |[]=>0
 |e::r=>match Region.binds .any e with
  |true=>(2 ^ e.on ||| acc.getD e.on 0) ||| wh acc r
  |false=>wh acc r
def Cg:List Oper->List Nat->List Nat
 |[],acc=>acc
 |o::r,acc=>Cg r (acc++[wh acc o.after.toList])
def Bq(i:Nat):List Edge->Bool
 |[]=>true
 |e::r=>(!Region.binds .any e||Nat.blt e.on i)&&Bq i r
def ol:List Oper->Nat->Bool
 |[],_=>true
 |o::r,i=>Bq i o.after.toList&&ol r (i+1)
def Ci:List Nat->List Nat->Bool
 |[],_=>true
 |n::r,l=>!ue n l&&Ci r l
def Cq(m:Nat):Nat->Bool
 |0=>true
 |i+1=>Nat.testBit m i&&Cq m i
def ql(sp:SP)(all:List Oper)(ds:List (Option Nat)):List Oper->List (List Nat×List Nat)
 |[]=>[]
 |o::r=>(reads sp all ds o,writes sp all ds o)::ql sp all ds r
def Dq(m:Nat)(q:List Nat×List Nat):List (List Nat×List Nat)->Nat->Bool
 |[],_=>true
 |p::r,i=>(Nat.testBit m i||(Ci p.2 q.1&&(Ci p.2 q.2&&Ci p.1 q.2)))&&Dq m q r (i+1)
def Eq(ms:List Nat):List (List Nat×List Nat)->List (List Nat×List Nat)->Nat->Bool
 |_,[],_=>true
 |done,q::r,j=>Dq (ms.getD j 0) q done 0&&Eq ms (done++[q]) r (j+1)
def Fq(ms:List Nat)(j:Nat):Nat->Bool
 |0=>true
 |n+1=>Cq (ms.getD j 0) j&&Fq ms (j+1) n
def we(b:Bool)(sp:SP)(l:List Oper):Bool:=ol l 0&&(Eq (Cg l []) [] (ql sp l (l.map (·.dst)) (Rc b l)) 0&&Fq (Cg l []) (Rc b l).length (l.length - (Rc b l).length))
def rl(tt:TT)(sp:SP)(keep:List Nat)(ops:List Oper)(draw:Bool)(e:Env):Option (Env×List Prop):=
 match draw with
 |true=>match al tt sp (ops.map (·.dst)) ops (Rc (we true sp ops) ops) (clean e) with
  |some (e1,p)=>match runF tt sp (ops.map (·.dst)) (oh (we true sp ops) ops) e1 with
   |some (e2,q)=>some (mask (clean (settle keep keep e2)) keep,p++q)
   |none=>none
  |none=>none
 |false=>match runF tt sp (ops.map (·.dst)) ops (clean e) with
  |some (e2,q)=>some (mask (clean (settle keep keep e2)) keep,q)
  |none=>none
theorem Gq{n:Nat}:∀ {l r:List Nat},Ci l r=true->n∈l->n ∉ r
 |[],r,_,hn=>by simp at hn
 |m::l,r,h,hn=>by
  simp only[Ci,Bool.and_eq_true,Bool.not_eq_true']at h;rcases List.mem_cons.1 hn with rfl|hn
  .intro hr;rw[Aq.2 hr]at h;simp at h
  .exact Gq h.2 hn
theorem XK{m:Nat}:∀ {i:Nat},Cq m i=true->∀j,j<i->m.testBit j=true
 |0,_,j,hj=>by omega
 |i+1,h,j,hj=>by
  simp only[Cq,Bool.and_eq_true]at h;by_cases e:j=i
  .rw[e];exact h.1
  .exact XK h.2 j (by omega)
theorem YK{sp:SP}{all:List Oper}{ds:List (Option Nat)}:∀ {l:List Oper} {i:Nat} {o:Oper},l[i]? = some o->(ql sp all ds l)[i]? = some (reads sp all ds o,writes sp all ds o)
 |[],i,o,h=>by simp at h
 |o'::r,0,o,h=>by simp at h;subst h;rfl
 |o'::r,i+1,o,h=>by simpa [ql] using YK (by simpa using h)
theorem ZK{m:Nat}{q:List Nat×List Nat}:∀ {l:List (List Nat×List Nat)} {i:Nat},Dq m q l i=true->∀k p,l[k]? = some p ->
  m.testBit (i+k)=true\/((∀n,n∈p.2->n ∉ q.1)/\(∀n,n∈p.2->n ∉ q.2)/\(∀n,n∈p.1->n ∉ q.2))
 |[],i,_,k,p,hk=>by simp at hk
 |p0::r,i,h,k,p,hk=>by
  simp only[Dq,Bool.and_eq_true,Bool.or_eq_true]at h;cases k with
  |zero=>
   simp at hk;subst hk;exact h.1.imp id (λh=>⟨λn=>Gq h.1,λn=>Gq h.2.1,λn=>Gq h.2.2⟩)
  |succ k=>
   have:=ZK h.2 k p (by simpa using hk);rw[show i+1+k=i+(k+1) by omega]at this;exact this
theorem aL{ms:List Nat}:∀ {l done:List (List Nat×List Nat)} {j:Nat},Eq ms done l j=true->done.length=j->∀k q i p,l[k]? = some q->(done++l)[i]? = some p->i<j+k ->
  (ms.getD (j+k) 0).testBit i=true\/((∀n,n∈p.2->n ∉ q.1)/\(∀n,n∈p.2->n ∉ q.2)/\(∀n,n∈p.1->n ∉ q.2))
 |[],done,j,_,_,k,q,i,p,hk,_,_=>by simp at hk
 |q0::r,done,j,h,hd,k,q,i,p,hk,hi,hlt=>by
  simp only[Eq,Bool.and_eq_true]at h;cases k with
  |zero=>
   simp at hk;subst hk;rw[List.getElem?_append_left (by omega)]at hi;have:=ZK h.1 i p hi;rw[Nat.zero_add]at this;exact this
  |succ k=>
   have:=aL h.2 (by simp[hd]) k q i p (by simpa using hk) (by simpa using hi) (by omega);rw[show j+1+k=j+(k+1) by omega]at this;exact this
theorem WB{ms:List Nat}:∀ {n j:Nat},Fq ms j n=true->∀k,k<n->∀i,i<j+k->(ms.getD (j+k) 0).testBit i=true
 |0,j,_,k,hk,i,hi=>by omega
 |n+1,j,h,k,hk,i,hi=>by
  simp only[Fq,Bool.and_eq_true]at h;cases k with
  |zero=>exact XK h.1 i (by omega)
  |succ k=>
   have:=WB h.2 k (by omega) i (by omega);rw[show j+1+k=j+(k+1) by omega]at this;exact this
theorem bL{i:Nat}:∀ {l:List Edge},Bq i l=true->∀e∈l,Region.binds .any e=true->e.on<i
 |[],_,e,he,_=>by simp at he
 |e0::r,h,e,he,hb=>by
  simp only[Bq,Bool.and_eq_true,Bool.or_eq_true,Bool.not_eq_true']at h;rcases List.mem_cons.1 he with rfl|he
  ·rcases h.1 with h1|h1
   .rw[hb]at h1;cases h1
   .exact Nat.lt_of_lt_of_le (Nat.lt_succ_self _) (Nat.le_of_ble_eq_true h1)
  .exact bL h.2 e he hb
theorem XB:∀ {l:List Oper} {i:Nat},ol l i=true->∀k o,l[k]? = some o->∀e∈o.after,Region.binds .any e=true->e.on<i+k
 |[],i,_,k,o,hk,_,_,_=>by simp at hk
 |o0::r,i,h,k,o,hk,e,he,hb=>by
  simp only[ol,Bool.and_eq_true]at h;cases k with
  |zero=>simp at hk;subst hk;exact bL h.1 e (by simpa using he) hb
  |succ k=>
   have:=XB h.2 k o (by simpa using hk) e he hb;omega
def Closed(ops:Array Oper)(L:Nat->Bool):Prop:=∀i o,ops[i]? = some o->L i=true->∀e∈o.after,Region.binds .any e=true->L e.on=true
theorem dL{L:Nat->Bool}{acc:List Nat}(hacc:∀i,L i=true->∀j,(acc.getD i 0).testBit j=true->L j=true) :
  ∀ {l:List Edge},(∀e∈l,Region.binds .any e=true->L e.on=true)->∀j,(wh acc l).testBit j=true->L j=true
 |[],_,j,h=>by simp[wh]at h
 |e::r,hl,j,h=>by
  simp only[wh]at h;have ih:=dL hacc (l:=r) (λe he=>hl e (by simp[he]));cases hb:Region.binds .any e with
  |false=>rw[hb]at h;exact ih j h
  |true=>
   rw[hb]at h;have hon:=hl e (by simp) hb;simp only[Nat.testBit_or,Bool.or_eq_true]at h;rcases h with (h|h)|h
   ·rw[Nat.testBit_two_pow]at h;have:e.on=j:=by simpa using h
    rw[← this];exact hon
   .exact hacc _ hon j h
   .exact ih j h
theorem eL{ops:Array Oper}{L:Nat->Bool}(hL:Closed ops L):∀ {l:List Oper} {acc:List Nat},(∀k o,l[k]? = some o->ops[acc.length+k]? = some o) ->
  (∀i,(∀o,ops[i]? = some o->∀e∈o.after,Region.binds .any e=true->L e.on=true)->∀j,(acc.getD i 0).testBit j=true->L j=true) ->
  ∀i,(∀o,ops[i]? = some o->∀e∈o.after,Region.binds .any e=true->L e.on=true)->∀j,((Cg l acc).getD i 0).testBit j=true->L j=true
 |[],acc,_,h=>h
 |o::r,acc,hl,h=>by
  have ho:=hl 0 o rfl;have hacc:∀i,L i=true->∀j,(acc.getD i 0).testBit j=true->L j=true:=λi hi=>h i (λo' ho'=>hL i o' ho' hi);refine eL hL (l:=r) (acc:=acc++[wh acc o.after.toList]) (λk o' hk=>?_) (λi hi j hj=>?_)
  ·have:=hl (k+1) o' (by simpa using hk);rw[List.length_append,List.length_singleton,show acc.length+1+k=acc.length+(k+1) by omega];exact this
  ·rw[List.getD_eq_getElem?_getD]at hj;by_cases hlt:i<acc.length
   ·rw[List.getElem?_append_left hlt,← List.getD_eq_getElem?_getD]at hj;exact h i hi j hj
   ·by_cases he:i=acc.length
    ·subst he;rw[List.getElem?_append_right (Nat.le_refl _),Nat.sub_self]at hj;exact dL hacc (λe he' hb=>hi o ho e (by simpa using he') hb) j hj
    ·rw[List.getElem?_eq_none (by simp;omega)]at hj;simp at hj
def part(E:Nat->Env)(W:Nat->List Nat)(L:Nat->Bool):Nat->Nat->AV
 |0,n=>ba (E 0) n
 |k+1,n=>if L k=true/\n∈W k then ba (E (k+1)) n else part E W L k n
section
variable {E:Nat->Env} {W:Nat->List Nat} {L:Nat->Bool}
theorem fL{n:Nat}{b:Bool}:∀ {h:Nat},(∀k,k<=h->Ud (ba (E k) n)=b)->Ud (part E W L h n)=b
 |0,hb=>hb 0 (Nat.le_refl _)
 |h+1,hb=>by
  simp only[part];split
  .exact hb (h+1) (Nat.le_refl _)
  .exact fL (λk hk=>hb k (by omega))
theorem Hq{h:Nat}(hloc:∀k,k<h->∀n,n ∉ W k->ba (E (k+1)) n=ba (E k) n){n:Nat}:∀ {k:Nat},k<=h->(∀j,j<k->n∈W j->L j=true)->part E W L k n=ba (E k) n
 |0,_,_=>rfl
 |k+1,hk,hL=>by
  simp only[part];by_cases hn:n∈W k
  .rw[if_pos ⟨hL k (by omega) hn,hn⟩]
  ·rw[if_neg (λh=>hn h.2),hloc k (by omega) n hn];exact Hq hloc (by omega) (λj hj=>hL j (by omega))
theorem Iq{n k:Nat}:∀ {h:Nat},k<=h->(∀j,k<=j->j<h->n∈W j->L j=false)->part E W L h n=part E W L k n
 |0,hk,_=>by rw[show k=0 by omega]
 |h+1,hk,hL=>by
  by_cases e:k=h+1
  .rw[e]
  ·simp only[part];rw[if_neg (λhh=>by have:=hL h (by omega) (by omega) hh.2;rw[this]at hh;exact absurd hh.1 (by simp))];exact Iq (by omega) (λj h1 h2=>hL j h1 (by omega))
theorem iL{L':Nat->Bool}{n:Nat}:∀ {h:Nat},(∀j,j<h->n∈W j->L' j=L j)->part E W L' h n=part E W L h n
 |0,_=>rfl
 |h+1,hL=>by
  simp only[part];rw[iL (h:=h) (λj hj=>hL j (by omega))];by_cases hn:n∈W h
  .rw[hL h (by omega) hn]
  .rw[if_neg (λh=>hn h.2),if_neg (λh=>hn h.2)]
end
theorem YB{b:Bool}:∀ {l:List Oper} {i:Nat},i<(Rc b l).length->(Rc b l)[i]? = l[i]?
 |[],i,h=>by simp[Rc]at h
 |o::r,i,h=>by
  simp only[Rc]at h⊢;cases hs:strict b o with
  |true=>rw[hs]at h;simp at h
  |false=>
   rw[hs]at h;cases i with
   |zero=>rfl
   |succ i=>simpa using YB (by simpa using h)
theorem jL{b:Bool}:∀ {l:List Oper} {i:Nat},(oh b l)[i]? = l[(Rc b l).length+i]?
 |[],i=>rfl
 |o::r,i=>by
  simp only[Rc,oh];cases hs:strict b o with
  |true=>simp
  |false=>
   simp only[List.length_cons];rw[show (Rc b r).length+1+i=(Rc b r).length+i+1 by omega,List.getElem?_cons_succ];exact jL
theorem ZB(b:Bool):∀ (l:List Oper),(Rc b l).length+(oh b l).length=l.length
 |[]=>rfl
 |o::r=>by
  simp only[Rc,oh];cases hs:strict b o with
  |true=>simp
  |false=>
   have:=ZB b r;simp only[List.length_cons];omega
end Go.Proofs.YthfkpijcajdnhaaGreat

namespace Go.Proofs.YthfkpijcajdnhaaGreat
open Go
section
variable {P:Program} {tt:TT} {sp:SP} {B:Nat} {IoB:List Nat} {F0:Fz} {N:NP} {W0:World}
theorem Sim.congr{e e':Env}{a:Act}{w:World}(hs:Sim N B IoB W0 F0 e a w)(h:∀n,ba e' n=ba e n):Sim N B IoB W0 F0 e' a w:=by
 obtain⟨F,ow,hx⟩:=hs.rep;exact⟨hs.defers,hs.tmps,hs.base,hs.f0,hs.kept,F,ow,hx.congr h⟩
def Mid(ops:Array Oper)(h:Nat)(E:Nat->Env)(W:Nat->List Nat)(L:Nat->Bool)(ec:Env):Prop:=((∀j,h<=j->j<ops.size->L j=false)/\∀n,ba ec n=part E W L h n) \/
   ∃k,h<k/\k<=ops.size/\(∀j,j<k->L j=true)/\(∀j,k<=j->j<ops.size->L j=false)/\∀n,ba ec n=ba (E k) n
theorem kL{l:List Bool}{i:Nat}(h:l[i]? = some false):(l.set i true).count false+1=l.count false:=by
 induction l generalizing i with
 |nil=>simp at h
 |cons b r ih=>
  cases i with
  |zero=>
   simp at h;subst h;simp
  |succ i=>
   have:=ih (by simpa using h);simp only[List.set_cons_succ,List.count_cons];omega
def Dg(sp:SP)(ops:Array Oper)(k:Nat):List Nat:=
 match ops[k]? with
 |some o=>writes sp ops.toList (ops.toList.map (·.dst)) o
 |none=>[]
theorem Di{sp:SP}{ops:Array Oper}{k:Nat}{o:Oper}(h:ops[k]? = some o):Dg sp ops k=writes sp ops.toList (ops.toList.map (·.dst)) o:=by
 unfold Dg;rw[h]
theorem lL{sp:SP}{ops:Array Oper}{k:Nat}(h:ops[k]? = none):Dg sp ops k=[]:=by
 unfold Dg;rw[h]
theorem IX{b:Bool}(htt:ac P tt)(hsp:∀f s,spk sp f=some s->Con P f s){ops:Array Oper}{h:Nat}{E:Nat->Env}(hdst:∀ (i:Nat) (o:Oper),ops[i]? = some o->∀d,o.dst=some d->N.ok d=true)(hh:h=(Rc b ops.toList).length)
  (hhead:∀ (i:Nat) (o:Oper),i<h->ops[i]? = some o->∃p,stepS tt sp ops.toList (ops.toList.map (·.dst)) (E i) o=some (E (i+1),p)/\∀q∈p,q)
  (htail:∀ (i:Nat) (o:Oper),h<=i->ops[i]? = some o->∃p,stepF tt sp (ops.toList.map (·.dst)) (E i) o=some (E (i+1),p)/\∀q∈p,q) (hok:we b sp ops.toList=true)
  {Q:Exit->Act->World->Prop} (hQ:∀a w,Sim N B IoB W0 F0 (E ops.size) a w->Q .normal a w) :
  ∀ (fuel:Nat) (listed:Array Bool) (ec:Env) (a:Act) (w:World),listed.size=ops.size->listed.toList.count false=fuel->Closed ops (λi=>listed.getD i false) ->
    Mid ops h E (Dg sp ops) (λi=>listed.getD i false) ec->Sim N B IoB W0 F0 ec a w->wpAny P .any ops Q fuel listed a w:=by
 simp only[we,Bool.and_eq_true]at hok;obtain⟨hback,hhd,htl⟩:=hok
 have hlen:h<=ops.size:=by
  have h1:=ZB b ops.toList;have h2:ops.toList.length=ops.size:=Array.length_toList;omega
 have hgl:∀i,ops.toList[i]? = ops[i]?:=λi=>Array.getElem?_toList;intro fuel
 induction fuel with
 |zero=>
  intro listed ec a w hsz hcnt hcl hmid hs
  have hall:∀i,i<ops.size->listed.getD i false=true:=by
   intro i hi
   have hnot:false ∉ listed.toList:=λhm=>by
    have:=List.count_pos_iff.2 hm;omega
   have hi':i<listed.toList.length:=by rw[Array.length_toList];omega
   have hmem:=List.getElem_mem hi';cases hb:listed.toList[i] with
   |false=>rw[hb]at hmem;exact absurd hmem hnot
   |true=>
    rw[Array.getD_eq_getD_getElem?,← Array.getElem?_toList,List.getElem?_eq_getElem hi',hb];rfl
  refine⟨?_,?_⟩
  ·cases hr:Region.ready .any ops listed with
   |nil=>rfl
   |cons j r=>
    have hj:j∈Region.ready .any ops listed:=by rw[hr];simp
    obtain⟨h0,o,ho,_⟩:=mem_ready.1 hj;have hlt:j<ops.size:=(Array.getElem?_eq_some_iff.1 ho).1;have:=hall j hlt;rw[Array.getD_eq_getD_getElem?]at this h0;rw[Array.getElem?_eq_getElem (by omega)]at this h0;simp at this h0;rw[this]at h0;cases h0
  ·apply hQ;refine hs.congr λn=>?_;rcases hmid with⟨h1,h2⟩|⟨k,h1,h2,h3,h4,h5⟩
   ·have hhn:h=ops.size:=by
     by_cases e:h=ops.size
     .exact e
     ·have h3:=h1 h (Nat.le_refl _) (by omega);have h4:=hall h (by omega);simp only[h4]at h3;cases h3
    rw[h2 n,← hhn];refine (Hq (h:=h) (λk hk n hn=>?_) (Nat.le_refl _) (λj hj _=>hall j (by omega))).symm;cases ho:ops[k]? with
    |none=>rw[Array.getElem?_eq_none_iff]at ho;omega
    |some o=>
     obtain⟨p,hp,_⟩:=hhead k o hk ho;rw[Di ho]at hn;exact (UB hp (e2:=E k) (λ_ _=>rfl) (λ_ _=>rfl)).1 n hn
   ·have hkn:k=ops.size:=by
     by_cases e:k=ops.size
     .exact e
     ·have h6:=h4 k (Nat.le_refl _) (by omega);have h7:=hall k (by omega);simp only[h7]at h6;cases h6
    rw[h5 n,hkn]
 |succ fuel ih=>
  intro listed ec a w hsz hcnt hcl hmid hs
  have hloc:∀k,k<h->∀n,n ∉ Dg sp ops k->ba (E (k+1)) n=ba (E k) n:=by
   intro k hk n hn;cases ho:ops[k]? with
   |none=>rw[Array.getElem?_eq_none_iff]at ho;omega
   |some o=>
    obtain⟨p,hp,_⟩:=hhead k o hk ho;rw[Di ho]at hn;exact (UB hp (e2:=E k) (λ_ _=>rfl) (λ_ _=>rfl)).1 n hn
  have hanc:∀i,(∀o,ops[i]? = some o->∀e∈o.after,Region.binds .any e=true->listed.getD e.on false=true)->∀j,((Cg ops.toList []).getD i 0).testBit j=true->listed.getD j false=true:=λi hi j hj=>eL (L:=λi=>listed.getD i false) hcl (l:=ops.toList) (acc:=[]) (λk o hk=>by rw[List.length_nil,Nat.zero_add,← hgl];exact hk)
    (λi _ j hj=>by simp at hj) i hi j hj
  have hancL:∀i,listed.getD i false=true->∀j,((Cg ops.toList []).getD i 0).testBit j=true->listed.getD j false=true:=λi hi=>hanc i (λo ho=>hcl i o ho hi);refine⟨λhr=>?_,λi hi=>?_⟩
  ·
   exfalso
   have hall:∀i,i<ops.size->listed.getD i false=true:=by
    intro i
    induction i using Nat.strongRecOn with
    |ind i ihi=>
     intro hi;cases hb:listed.getD i false with
     |true=>rfl
     |false=>
      have hmem:i∈Region.ready .any ops listed:=by
       refine mem_ready.2 ⟨?_,ops[i],Array.getElem?_eq_getElem hi,λe he hbd=>?_⟩
       ·rw[Array.getD_eq_getD_getElem?,Array.getElem?_eq_getElem (by omega)]at hb⊢;simpa using hb
       ·have:=XB hback i ops[i] (by rw[hgl];exact Array.getElem?_eq_getElem hi) e he hbd;exact ihi e.on (by omega) (by omega)
      rw[hr]at hmem;simp at hmem
   have hpos:0<listed.toList.count false:=by omega
   have hm:=List.count_pos_iff.1 hpos;obtain⟨i,hi⟩:=List.mem_iff_getElem?.1 hm;have hlt:=(List.getElem?_eq_some_iff.1 hi).1;rw[Array.length_toList]at hlt;have:=hall i (by omega);rw[Array.getD_eq_getD_getElem?,← Array.getElem?_toList,hi]at this;cases this
  ·obtain⟨hi0,o,ho,hedge⟩:=mem_ready.1 hi;have hin:i<ops.size:=(Array.getElem?_eq_some_iff.1 ho).1
   have hLi:listed.getD i false=false:=by
    rw[Array.getD_eq_getD_getElem?,Array.getElem?_eq_getElem (by omega)]at hi0⊢;simpa using hi0
   have hli:listed.toList[i]? = some false:=by
    rw[Array.getElem?_toList,Array.getElem?_eq_getElem (by omega)];rw[Array.getD_eq_getD_getElem?,Array.getElem?_eq_getElem (by omega)]at hLi;simpa using hLi
   have hset:∀j,(listed.setIfInBounds i true).getD j false=if j=i then true else listed.getD j false:=by
    intro j;by_cases e:j=i
    ·subst e;rw[if_pos rfl,Array.getD_eq_getD_getElem?,Array.getElem?_setIfInBounds_self_of_lt (by omega)];rfl
    .rw[if_neg e,getD_set_ne false (Ne.symm e)]
   have hcl':Closed ops (λi'=>(listed.setIfInBounds i true).getD i' false):=by
    intro j o' ho' hj e he hbd;simp only[hset]at hj⊢;split
    .rfl
    ·split at hj
     ·rename_i e';subst e';rw[ho]at ho';cases ho';exact hedge e he hbd
     .exact hcl j o' ho' hj e he hbd
   have hcnt':(listed.setIfInBounds i true).toList.count false=fuel:=by
    rw[Array.toList_setIfInBounds];have:=kL hli;omega
   have hbits:∀j,((Cg ops.toList []).getD i 0).testBit j=true->listed.getD j false=true:=hanc i (λo' ho'=>by rw[ho]at ho';cases ho';exact hedge)
   have hgo:∀ec',(∀a' w',Sim N B IoB W0 F0 ec' a' w'->wpAny P .any ops Q fuel (listed.setIfInBounds i true) a' w') ->
     (∀next:Act->World->Prop,(∀a' w',Sim N B IoB W0 F0 ec' a' w'->next a' w')->if Region.wanted o (yielded ops a.tmps) then o.wp P a w next Q else next (a.put o.dst undef) w) ->
     wpOp P ops Q i (wpAny P .any ops Q fuel (listed.setIfInBounds i true)) a w:=by
    intro ec' h1 h2;have h3:=h2 _ h1;unfold wpOp;rw[ho];simp only[];by_cases hw:Region.wanted o (yielded ops a.tmps)=true
    ·rw[if_pos hw]at h3⊢;exact .inl h3
    ·rw[if_neg hw]at h3⊢;exact h3
   by_cases hih:i<h
   ·
    rcases hmid with⟨m1,m2⟩|⟨k,m1,m2,m3,m4,m5⟩
    ·have hget:∀ (j:Nat) (oj:Oper),j<h->ops[j]? = some oj->(ql sp ops.toList (ops.toList.map (·.dst)) (Rc b ops.toList))[j]? = some (reads sp ops.toList (ops.toList.map (·.dst)) oj,writes sp ops.toList (ops.toList.map (·.dst)) oj):=λj oj hj hoj=>YK (by rw[YB (by omega),hgl];exact hoj)
     have hpair:∀ (j:Nat) (oj:Oper) (k:Nat) (ok:Oper),j<k->k<h->ops[j]? = some oj->ops[k]? = some ok->((Cg ops.toList []).getD k 0).testBit j=true \/
       ((∀n,n∈writes sp ops.toList (ops.toList.map (·.dst)) oj->n ∉ reads sp ops.toList (ops.toList.map (·.dst)) ok)/\(∀n,n∈writes sp ops.toList (ops.toList.map (·.dst)) oj->n ∉ writes sp ops.toList (ops.toList.map (·.dst)) ok) /\
         (∀n,n∈reads sp ops.toList (ops.toList.map (·.dst)) oj->n ∉ writes sp ops.toList (ops.toList.map (·.dst)) ok)):=by
      intro j oj k ok hjk hk hoj hok;have:=aL hhd rfl k _ j _ (hget k ok hk hok) (by simpa using hget j oj (by omega) hoj) (by omega);rw[Nat.zero_add]at this;exact this
     obtain⟨p,hst,hp⟩:=hhead i o hih ho
     have hlater:∀n,(n∈reads sp ops.toList (ops.toList.map (·.dst)) o\/n∈writes sp ops.toList (ops.toList.map (·.dst)) o)->∀j,i<j->j<h ->
       n∈Dg sp ops j->listed.getD j false=false:=by
      intro n hn j hij hjh hnj;cases hoj:ops[j]? with
      |none=>rw[lL hoj]at hnj;simp at hnj
      |some oj=>
       rw[Di hoj]at hnj;rcases hpair i o j oj hij hjh ho hoj with hb|⟨d1,d2,d3⟩
       ·cases hL:listed.getD j false with
        |false=>rfl
        |true=>rw[hancL j hL i hb]at hLi;cases hLi
       ·rcases hn with hn|hn
        .exact absurd hnj (d3 n hn)
        .exact absurd hnj (d2 n hn)
     have heq:∀n,n∈reads sp ops.toList (ops.toList.map (·.dst)) o\/n∈writes sp ops.toList (ops.toList.map (·.dst)) o->ba ec n=ba (E i) n:=by
      intro n hn;rw[m2 n]
      rw[Iq (h:=h) (k:=i) (by omega) (λj h1 h2 hnj=>by
       by_cases e:j=i
       .rw[e];exact hLi
       .exact hlater n hn j (by omega) h2 hnj)]
      refine Hq hloc (by omega) (λj hj hnj=>?_);cases hoj:ops[j]? with
      |none=>rw[lL hoj]at hnj;simp at hnj
      |some oj=>
       rw[Di hoj]at hnj;rcases hpair j oj i o hj hih hoj ho with hb|⟨d1,d2,d3⟩
       .exact hbits j hb
       ·rcases hn with hn|hn
        .exact absurd hn (d1 n hnj)
        .exact absurd hn (d2 n hnj)
     have hbx:∀n,He n (ops.toList.map (·.dst))=false->Ud (ba ec n)=Ud (ba (E i) n):=by
      intro n hn
      have hE:∀k,k<=h->Ud (ba (E k) n)=Ud (ba (E 0) n):=by
       intro k
       induction k with
       |zero=>exact λ_=>rfl
       |succ k ihk=>
        intro hk;cases hok':ops[k]? with
        |none=>rw[Array.getElem?_eq_none_iff]at hok';omega
        |some ok'=>
         obtain⟨p',hp',_⟩:=hhead k ok' (by omega) hok';rw[GX hp' (n:=n) ?_,ihk (by omega)];intro e;have:He n (ops.toList.map (·.dst))=true:=SB.2 (List.mem_map.2 ⟨ok',List.mem_of_getElem? ((hgl k).trans hok'),e⟩);rw[hn]at this;cases this
      rw[m2 n,fL (h:=h) hE,hE i (by omega)]
     obtain⟨_,e2',hst',w1,w2⟩:=UB hst heq hbx;obtain⟨g',hg',hst''⟩:=HX hst';refine hgo e2' (λa' w' hs'=>ih _ e2' a' w' (by rw[Array.size_setIfInBounds];exact hsz) hcnt' hcl' (.inl ⟨λj h1 h2=>?_,λn=>?_⟩) hs') (λnext hn=>FB htt hsp hs hg' (.inr rfl) hst'' hp (λd hd=>hdst i o ho d hd) hn)
     ·show (listed.setIfInBounds i true).getD j false=false;rw[hset,if_neg (by omega)];exact m1 j h1 h2
     ·by_cases hnw:n∈writes sp ops.toList (ops.toList.map (·.dst)) o
      ·rw[w1 n hnw]
       rw[Iq (h:=h) (k:=i+1) (by omega) (λj h1 h2 hnj=>by
        show (listed.setIfInBounds i true).getD j false=false;rw[hset,if_neg (by omega)];exact hlater n (.inr hnw) j (by omega) h2 hnj)]
       simp only[part];rw[if_pos];refine⟨?_,?_⟩
       .rw[hset,if_pos rfl]
       .rw[Di ho];exact hnw
      ·rw[w2 n hnw,m2 n];refine (iL (λj hj hnj=>?_)).symm;show (listed.setIfInBounds i true).getD j false=_;rw[hset,if_neg];rintro rfl;rw[Di ho]at hnj;exact hnw hnj
    ·have:=m3 i (by omega);simp only[hLi]at this;cases this
   ·
    have hprev:∀j,j<i->listed.getD j false=true:=by
     intro j hj;apply hbits;have:=WB htl (i - h) (by rw[← hh,Array.length_toList];omega) j (by rw[← hh];omega);rw[← hh,show h+(i - h)=i by omega]at this;exact this
    obtain⟨p,hst,hp⟩:=htail i o (by omega) ho
    have hEi:∀n,ba (E i) n=ba ec n:=by
     intro n;rcases hmid with⟨m1,m2⟩|⟨k,m1,m2,m3,m4,m5⟩
     ·have hieq:i=h:=by
       by_cases e:i=h
       .exact e
       ·have h1:=m1 h (Nat.le_refl _) (by omega);have h2:=hprev h (by omega);simp only[h2]at h1;cases h1
      rw[m2 n,hieq];exact (Hq hloc (Nat.le_refl _) (λj hj _=>hprev j (by omega))).symm
     ·have hieq:i=k:=by
       rcases Nat.lt_trichotomy i k with e|e|e
       ·have h1:=m3 i e;simp only[hLi]at h1;cases h1
       .exact e
       ·have h1:=m4 k (Nat.le_refl _) (by omega);have h2:=hprev k e;simp only[h2]at h1;cases h1
      rw[m5 n,hieq]
    have hnext:∀j,i<j->j<ops.size->listed.getD j false=false:=by
     intro j hij hj;cases hL:listed.getD j false with
     |false=>rfl
     |true=>
      have hb:=WB htl (j - h) (by rw[← hh,Array.length_toList];omega) i (by rw[← hh];omega);rw[← hh,show h+(j - h)=j by omega]at hb;have:=hancL j hL i hb;rw[hLi]at this;cases this
    refine hgo (E (i+1)) (λa' w' hs'=>ih _ (E (i+1)) a' w' (by rw[Array.size_setIfInBounds];exact hsz) hcnt' hcl' (.inr ⟨i+1,by omega,by omega,λj hj=>?_,λj h1 h2=>?_,λn=>rfl⟩) hs')
     (λnext hn=>zq htt hsp (hs.congr hEi) hst hp (λd hd=>hdst i o ho d hd) hn)
    ·show (listed.setIfInBounds i true).getD j false=true;rw[hset];split
     .rfl
     .exact hprev j (by omega)
    ·show (listed.setIfInBounds i true).getD j false=false;rw[hset,if_neg (by omega)];exact hnext j (by omega) h2
end
end Go.Proofs.YthfkpijcajdnhaaGreat

namespace Go.Proofs.YthfkpijcajdnhaaGreat
open Go
def Vb:AV->Bool
 |.v _ _=>true
 |.agg _ _=>true
 |.box _=>true
 |.dead=>true
 |_=>false
section
variable {B:Nat} {IoB:List Nat} {F0 F:Fz} {e:Env} {tm:Nat->Value} {w:World} {ow:Nat->Option Nat->Option Nat}
theorem ld{av:AV}(h:Vb av=true){g:Get}{n:Nat}:SR F B w tm g ow n av=VR F B w (ow n) av (tm n):=by
 cases av with
 |v k c=>rfl
 |agg f cs=>rfl
 |box cs=>rfl
 |dead=>rfl
 |_=>simp[Vb]at h
theorem ja.flat(hs:ja B IoB F0 e tm w F ow){e':Env}(h:∀n,Vb (ba e' n)=true/\VR F B w (ow n) (ba e' n) (tm n)):ja B IoB F0 e' tm w F ow:=⟨hs.sub,hs.new,hs.live,hs.inj,hs.bd,λn=>by rw[ld (h n).1];exact (h n).2⟩
theorem ja.raw(hx:ja B IoB F0 e tm w F ow):zi F B w tm (ba e) (ba e) ow:=λn=>.inr ⟨hx.sr n,rfl⟩
theorem JX{g:Get}{s:Nat}{o:Option Nat}{b:Bool}{p:PV}(h:plainR g (.view s o)=some (b,p)):p.agg=false:=by
 cases o with
 |none=>
  simp only[plainR]at h;split at h
  .cases h;rfl
  .cases h;rfl
  .cases h
 |some o=>
  simp only[plainR]at h;split at h
  ·split at h
   .cases h;rfl
   .cases h
  .cases h
theorem ja.clean(hs:ja B IoB F0 e tm w F ow):ja B IoB F0 (Go.Proofs.YthfkpijcajdnhaaGreat.clean e) tm w F ow/\∀n,Vb (ba (Go.Proofs.YthfkpijcajdnhaaGreat.clean e) n)=true:=by
 have hge:∀n,ba (Go.Proofs.YthfkpijcajdnhaaGreat.clean e) n=sK (ba e) (ba e n):=λn=>Ie _ rfl e n
 have key:∀n,Vb (ba (Go.Proofs.YthfkpijcajdnhaaGreat.clean e) n)=true/\VR F B w (ow n) (ba (Go.Proofs.YthfkpijcajdnhaaGreat.clean e) n) (tm n):=by
  intro n;rw[hge n];have hsr:=hs.sr n;cases hav:ba e n with
  |dead=>exact⟨rfl,trivial⟩
  |v k c=>rw[hav]at hsr;exact⟨rfl,hsr⟩
  |agg f cs=>rw[hav]at hsr;exact⟨rfl,hsr⟩
  |box cs=>rw[hav]at hsr;exact⟨rfl,hsr⟩
  |tup l=>exact⟨rfl,trivial⟩
  |cond k a=>exact⟨rfl,trivial⟩
  |baddr m o=>exact⟨rfl,trivial⟩
  |faddr f cs=>exact⟨rfl,trivial⟩
  |oaddr m i o=>exact⟨rfl,trivial⟩
  |view m o=>
   rw[hav]at hsr;show Vb (match Go.Proofs.YthfkpijcajdnhaaGreat.plainR (ba e) (.view m o) with|some (false,⟨f,_,[c]⟩)=>AV.v (frK f) c|_=>AV.dead)=true/\VR F B w (ow n) (match Go.Proofs.YthfkpijcajdnhaaGreat.plainR (ba e) (.view m o) with|some (false,⟨f,_,[c]⟩)=>AV.v (frK f) c|_=>AV.dead) (tm n);split
   ·rename_i f ag c hp;refine⟨rfl,?_⟩;have hag:=JX hp;simp only at hag;subst hag;have hkn:=th hs.live hs.raw (k:=[]) trivial rfl;have hpl:=nB hkn (o:=ow n) (hsr.avr (λ_ _ h=>by cases h)) (λf c h=>by cases h) (UK hp);exact yW hpl
   .exact⟨rfl,trivial⟩
 exact⟨hs.flat key,λn=>(key n).1⟩
theorem nL(e:Env)(n:Nat):∀keep,ba (mask e keep) n=.dead\/ba (mask e keep) n=ba e n
 |[]=>.inl rfl
 |k::ks=>by
  simp only[mask,ba];cases hb:Nat.beq k n with
  |true=>right;rw[Nat.eq_of_beq_eq_true hb]
  |false=>exact nL e n ks
theorem ja.mask(hs:ja B IoB F0 e tm w F ow)(hf:∀n,Vb (ba e n)=true)(keep:List Nat):ja B IoB F0 (Go.Proofs.YthfkpijcajdnhaaGreat.mask e keep) tm w F ow:=by
 refine hs.flat λn=>?_;rcases nL e n keep with h|h
 .rw[h];exact⟨rfl,trivial⟩
 ·rw[h];have hsr:=hs.sr n;rw[ld (hf n)]at hsr;exact⟨hf n,hsr⟩
end
section
variable {P:Program} {tt:TT} {sp:SP} {B:Nat} {IoB:List Nat} {F0:Fz} {N:NP} {W0:World}
theorem Sim.clean{e:Env}{a:Act}{w:World}(hs:Sim N B IoB W0 F0 e a w):Sim N B IoB W0 F0 (clean e) a w:=by
 obtain⟨F,ow,hx⟩:=hs.rep;exact⟨hs.defers,hs.tmps,hs.base,hs.f0,hs.kept,F,ow,hx.clean.1⟩
theorem Sim.cleanMask{e:Env}{a:Act}{w:World}(hs:Sim N B IoB W0 F0 e a w)(keep:List Nat):Sim N B IoB W0 F0 (mask (Go.Proofs.YthfkpijcajdnhaaGreat.clean e) keep) a w:=by
 obtain⟨F,ow,hx⟩:=hs.rep;exact⟨hs.defers,hs.tmps,hs.base,hs.f0,hs.kept,F,ow,hx.clean.1.mask hx.clean.2 keep⟩
theorem ja.transfer{F:Fz}{e:Env}{tm:Nat->Value}{w:World}{ow:Nat->Option Nat->Option Nat}(hs:ja B IoB F0 e tm w F ow)(hBw:B<=w.heap.size){m d:Nat}(hv:ba e d=.view m none)(hmd:m≠d) :
  ∃ow',ja B IoB F0 (Go.Proofs.YthfkpijcajdnhaaGreat.transfer e m d) tm w F ow':=by
 have hsr:=hs.sr d;rw[hv]at hsr;have hb:bears (ba e m)=true:=hsr.2.1;have htm:tm d=tm m:=hsr.1;have h1:=hs.unviewAt m .dead (λ_ _=>trivial)
 have h2:=h1.putG (d:=d) (av:=ba e m) (v:=tm m) (owd:=ow m) hBw (Ia.refl F w) hs.live (λi b h=>hs.bd m i b h)
  (λi b h s' i' _ h'=>by
    by_cases e1:s'=m
    .simp[e1]at h'
    ·simp only[e1,if_false]at h';exact e1 (hs.inj _ _ _ _ _ h' h).1)
  (λi i' b h h'=>(hs.inj _ _ _ _ _ h h').2)
  (λg' _ _=>by
    rw[yq hb];simp only[if_true];have:=hs.sr m;rw[yq hb]at this;exact this)
 have _:=hmd
 have ht:(λn=>if n=d then tm m else tm n)=tm:=funext λn=>by
  by_cases h:n=d
  .rw[if_pos h,h,htm]
  .rw[if_neg h]
 rw[ht]at h2;exact⟨_,h2⟩
theorem Sim.settle{keep:List Nat}{a:Act}{w:World}:∀ {l:List Nat} {e:Env},Sim N B IoB W0 F0 e a w->Sim N B IoB W0 F0 (Go.Proofs.YthfkpijcajdnhaaGreat.settle keep l e) a w
 |[],_,hs=>hs
 |d::r,e,hs=>by
  simp only[Go.Proofs.YthfkpijcajdnhaaGreat.settle];split
  ·rename_i m hg;split
   ·rename_i hb;obtain⟨F,ow,hx⟩:=hs.rep;obtain⟨ow',hx'⟩:=hx.transfer (Nat.le_trans hs.base hs.kept.size) hg (λe=>by rw[e,Nat.beq_refl]at hb;cases hb);exact Sim.settle ⟨hs.defers,hs.tmps,hs.base,hs.f0,hs.kept,F,ow',hx'⟩
   .exact Sim.settle hs
  .exact Sim.settle hs
theorem Sim.drew{e:Env}{a:Act}{w:World}(hs:Sim N B IoB W0 F0 e a w)(m:Nat):Sim N B IoB W0 F0 e a { w with drawn:=m }:=by
 obtain⟨F,ow,hx⟩:=hs.rep;refine⟨hs.defers,hs.tmps,hs.base,hs.f0,⟨hs.kept.os,hs.kept.tape,hs.kept.output,hs.kept.size,hs.kept.block,hs.kept.obj⟩,F,ow,⟨hx.sub,hx.new,hx.live,hx.inj,hx.bd,λn=>?_⟩⟩;have h:=hx.sr n;exact SR.grow (F:=F) (w:=w) (w':={ w with drawn:=m }) ⟨rfl,rfl,rfl,Nat.le_refl _,λ_ _=>rfl,λ_ _ h=>h,λ_ _ h=>.inl h⟩ hx.live h
def Eg(N:NP):List Oper->Bool
 |[]=>true
 |o::r=>(match o.dst with|some d=>N.ok d|none=>true)&&Eg N r
theorem tl:∀ {l:List Oper},Eg N l=true->∀ (i:Nat) (o:Oper),l[i]? = some o->∀d,o.dst=some d->N.ok d=true
 |[],_,i,o,h,_,_=>by simp at h
 |o0::r,h,i,o,hi,d,hd=>by
  simp only[Eg,Bool.and_eq_true]at h;cases i with
  |zero=>
   simp at hi;subst hi;rw[hd]at h;exact h.1
  |succ i=>exact tl h.2 i o (by simpa using hi) d hd
theorem LX(htt:ac P tt)(hsp:∀f s,spk sp f=some s->Con P f s){ops:Array Oper}(hdst:Eg N ops.toList=true){E:Nat->Env}
  (hst:∀ (i:Nat) (o:Oper),ops[i]? = some o->∃p,stepF tt sp (ops.toList.map (·.dst)) (E i) o=some (E (i+1),p)/\∀q∈p,q)
  {Q:Exit->Act->World->Prop} (hQ:∀a w,Sim N B IoB W0 F0 (E ops.size) a w->Q .normal a w) :
  ∀ (n i:Nat) (a:Act) (w:World),i+n=ops.size->Sim N B IoB W0 F0 (E i) a w->wpOps P ops Q (List.range' i n) a w:=by
 intro n
 induction n with
 |zero=>
  intro i a w hi hs;rw[Nat.add_zero]at hi;subst hi;exact hQ a w hs
 |succ n ih=>
  intro i a w hi hs;have hlt:i<ops.size:=by omega
  rw[List.range'_succ,wpOps_cons];obtain⟨p,hp,hq⟩:=hst i ops[i] (Array.getElem?_eq_getElem hlt)
  have h:=zq htt hsp hs hp hq (λd hd=>tl hdst i ops[i] (by rw[Array.getElem?_toList];exact Array.getElem?_eq_getElem hlt) d hd) (Q:=Q) (next:=wpOps P ops Q (List.range' (i+1) n))
   (λa' w' hs'=>ih (i+1) a' w' (by omega) hs')
  unfold wpOp;rw[Array.getElem?_eq_getElem hlt];simp only[];by_cases hw:Region.wanted ops[i] (yielded ops a.tmps)=true
  ·rw[if_pos hw]at h⊢;exact .inl h
  ·rw[if_neg hw]at h⊢;exact h
def Jq(sp:SP)(N:NP)(ops:List Oper)(draw:Bool):Bool:=Eg N ops&&match draw with
 |true=>we true sp ops||we false sp ops
 |false=>true
theorem qL(htt:ac P tt)(hsp:∀f s,spk sp f=some s->Con P f s)(hm:P.follows .mixedOrders=true){id:Nat}{ops:Array Oper}{draw:Bool}(hok:Jq sp N ops.toList draw=true){keep:List Nat}{e e':Env}{obs:List Prop}
  (hr:rl tt sp keep ops.toList draw e=some (e',obs)) (ho:∀p∈obs,p) {Q:Exit->Act->World->Prop} (hQ:∀a w,Sim N B IoB W0 F0 e' a w->Q .normal a w) {a:Act} {w:World} (hs:Sim N B IoB W0 F0 e a w) :
  (Code.region id ops draw).wp P Q a w:=by
 simp only[Jq,Bool.and_eq_true]at hok;obtain⟨hdst,hdr⟩:=hok;have hsz:ops.toList.length=ops.size:=Array.length_toList;have hgl:∀i,ops.toList[i]? = ops[i]?:=λi=>Array.getElem?_toList;cases draw with
 |false=>
  simp only[rl]at hr;split at hr
  ·rename_i e2 q hf;simp only[Option.some.injEq,Prod.mk.injEq]at hr;obtain⟨rfl,rfl⟩:=hr;obtain⟨E,h0,h1,h2⟩:=VB hf;refine wp_region ?_;rw[List.range_eq_range'];refine LX htt hsp hdst (E:=E) (λi o hio=>?_) (λa w hs=>?_) ops.size 0 a w (by omega) (by rw[h0];exact hs.clean)
   ·obtain⟨p,hp,hq⟩:=h2 i o (by rw[hgl];exact hio);exact⟨p,hp,λq hq'=>ho q (hq q hq')⟩
   ·rw[← hsz,h1]at hs;exact hQ a w (hs.settle.cleanMask keep)
  .cases hr
 |true=>
  simp only[rl]at hr;have hdr:(we true sp ops.toList||we false sp ops.toList)=true:=hdr
  have hdr:we (we true sp ops.toList) sp ops.toList=true:=by
   cases hb:we true sp ops.toList with
   |true=>exact hb
   |false=>
    rw[hb]at hdr;simpa using hdr
  generalize we true sp ops.toList=b at hr hdr;split at hr
  ·rename_i e1 p1 hS;split at hr
   ·rename_i e2 q2 hF;simp only[Option.some.injEq,Prod.mk.injEq]at hr;obtain⟨rfl,rfl⟩:=hr;obtain⟨E1,a0,a1,a2⟩:=WK hS;obtain⟨E2,b0,b1,b2⟩:=VB hF;have hlen:=ZB b ops.toList;let h:=(Rc b ops.toList).length;let E:Nat->Env:=λi=>if i<h then E1 i else E2 (i - h)
    have hEh:∀i,i<=h->E i=E1 i:=λi hi=>by
     by_cases e:i<h
     .exact if_pos e
     ·have:i=h:=by omega
      subst this;show (if h<h then E1 h else E2 (h - h))=E1 h;rw[if_neg (by omega),Nat.sub_self,b0,a1]
    have hEt:∀i,h<=i->E i=E2 (i - h):=λi hi=>if_neg (by omega);have hE0:E 0=Go.Proofs.YthfkpijcajdnhaaGreat.clean e:=by rw[hEh 0 (Nat.zero_le _),a0]
    refine wp_region_any hm ?_
    refine IX htt hsp (h:=h) (E:=E) (tl (l:=ops.toList) hdst |> λf i o hi=>f i o (by rw[hgl];exact hi)) rfl (λi o hi hio=>?_) (λi o hi hio=>?_) hdr (λa w hs=>?_) ops.size _ (E 0) a _
     (by simp) (by simp) ?_ ?_ (by rw[hE0];exact hs.clean.drew _)
    ·obtain⟨p,hp,hq⟩:=a2 i o (by rw[YB hi,hgl];exact hio);refine⟨p,?_,λq hq'=>ho q (List.mem_append_left _ (hq q hq'))⟩;rw[hEh i (by omega),hEh (i+1) (by omega)];exact hp
    ·obtain⟨p,hp,hq⟩:=b2 (i - h) o (by rw[jL,hgl,show (Rc b ops.toList).length+(i - h)=i by omega];exact hio);refine⟨p,?_,λq hq'=>ho q (List.mem_append_right _ (hq q hq'))⟩;rw[hEt i hi,hEt (i+1) (by omega),show i+1 - h=i - h+1 by omega];exact hp
    ·have hE:E ops.size=e2:=by rw[hEt _ (by omega),show ops.size - h=(oh b ops.toList).length by omega,b1]
     rw[hE]at hs;exact hQ a w (hs.settle.cleanMask keep)
    ·intro i o hio hL
     exfalso
     simp only[Array.getD_eq_getD_getElem?]at hL;by_cases hi:i<ops.size
     .simp[hi]at hL
     .simp[hi]at hL
    ·refine .inl ⟨λj h1 h2=>?_,λn=>?_⟩
     .simp[h2]
     ·have:∀k,k<=h->part E (Dg sp ops) (λi=>(Array.replicate ops.size false).getD i false) k n=ba (E 0) n:=by
       intro k hk;refine Iq (Nat.zero_le _) (λj h1 h2 _=>?_);have:j<ops.size:=by omega
       simp[this]
      exact (this h (Nat.le_refl _)).symm
   .cases hr
  .cases hr
end
end Go.Proofs.YthfkpijcajdnhaaGreat

namespace Go.Proofs.YthfkpijcajdnhaaGreat
open Go
structure Fr where
 B:Nat
 IoB:List Nat
 W0:World
 F0:Fz
structure Good(P:Program)(tt:TT)(sp:SP):Prop where
 htt:ac P tt
 hsp:∀f s,spk sp f=some s->Con P f s
 hm:P.follows .mixedOrders=true
def MX(n r:Env->Prop)(x:Nat->Env->Prop):Exit->Env->Prop
 |.normal,e=>n e
 |.ret,e=>r e
 |.exit i,e=>x i e
 |_,_=>False
def Ht(P:Program)(N:NP)(fr:Fr)(c:Code)(e:Env)(n r:Env->Prop)(x:Nat->Env->Prop):Prop:=
 ∀a w,Sim N fr.B fr.IoB fr.W0 fr.F0 e a w->c.wp P (λex a w=>∃e',Sim N fr.B fr.IoB fr.W0 fr.F0 e' a w/\MX n r x ex e') a w
def fa:List Prop->Prop
 |[]=>True
 |p::r=>p/\fa r
theorem fa.all:∀ {l:List Prop},fa l->∀p∈l,p
 |[],_,p,h=>by simp at h
 |q::r,h,p,hp=>by
  rcases List.mem_cons.1 hp with rfl|hp
  .exact h.1
  .exact fa.all h.2 p hp
def regC(tt:TT)(sp:SP)(N:NP)(keep:List Nat)(c:Code)(e:Env):Option (Env×List Prop):=
 match c with
 |.region _ ops draw=>match Jq sp N ops.toList draw with
  |true=>rl tt sp keep ops.toList draw e
  |false=>none
 |_=>none
section
variable {P:Program} {tt:TT} {sp:SP} {N:NP} {fr:Fr} {c:Code} {e:Env} {n r:Env->Prop} {x:Nat->Env->Prop}
theorem Ht.reg(G:Good P tt sp){keep:List Nat}{e':Env}{obs:List Prop}(hc:regC tt sp N keep c e=some (e',obs))(ho:fa obs)(h:n e'):Ht P N fr c e n r x:=by
 intro a w hs;unfold regC at hc;split at hc
 ·split at hc
  ·rename_i hok;exact qL G.htt G.hsp G.hm hok hc ho.all (λa w hs=>⟨e',hs,h⟩) hs
  .cases hc
 .cases hc
theorem Ht.seq{c1 c2:Code}(hc:c=.seq c1 c2)(h:Ht P N fr c1 e (λe'=>Ht P N fr c2 e' n r x) r x):Ht P N fr c e n r x:=by
 subst hc;intro a w hs;refine wp_seq (wp_mono (h a w hs) ?_);rintro ex a w ⟨e',hs',hp⟩;cases ex with
 |normal=>exact hp a w hs'
 |_=>exact⟨e',hs',hp⟩
def readB(e:Env):Operand->Option Bool
 |.tmp t=>match ba e t with
  |.v _ (.bool b)=>some b
  |_=>none
 |.const (.bool b)=>some b
 |_=>none
theorem Ht.cond{o:Operand}{c1 c2:Code}(hc:c=.cond o c1 c2){b:Bool}(hb:readB e o=some b)(h1:b=true->Ht P N fr c1 e n r x)(h2:b=false->Ht P N fr c2 e n r x):Ht P N fr c e n r x:=by
 subst hc;intro a w hs
 have hv:a.eval o=.bool b:=by
  unfold readB at hb;split at hb
  ·rename_i t;split at hb
   ·rename_i k b' hg;simp only[Option.some.injEq]at hb;subst hb;obtain⟨F,ow,hx⟩:=hs.rep;have hsr:=hx.sr t;rw[hg]at hsr;exact uh (hsr.avr (λ_ _ h=>by cases h))
   .cases hb
  ·simp only[Option.some.injEq]at hb;subst hb;rfl
  .cases hb
 exact wp_cond_split hv (λh=>h1 h a w hs) (λh=>h2 h a w hs)
def Kq(id:Nat)(n:Env->Prop)(x:Nat->Env->Prop)(i:Nat):Env->Prop:=
 match Nat.beq i id with
 |true=>n
 |false=>x i
theorem Ht.block{id:Nat}{c1:Code}(hc:c=.block id c1)(h:Ht P N fr c1 e n r (Kq id n x)):Ht P N fr c e n r x:=by
 subst hc;intro a w hs;refine wp_block (wp_mono (h a w hs) ?_);rintro ex a w ⟨e',hs',hp⟩;cases ex with
 |exit i=>
  simp only[Exit.inBlock];have hp:Kq id n x i e':=hp;unfold Kq at hp;by_cases hi:i=id
  ·subst hi;rw[Nat.beq_refl]at hp;rw[if_pos rfl];exact⟨e',hs',hp⟩
  ·rw[jf hi]at hp;rw[if_neg hi];exact⟨e',hs',hp⟩
 |_=>exact⟨e',hs',hp⟩
theorem Ht.skip(hc:c=.skip)(h:n e):Ht P N fr c e n r x:=by
 subst hc;exact λa w hs=>wp_skip ⟨e,hs,h⟩
theorem Ht.exit{i:Nat}(hc:c=.exit i)(h:x i e):Ht P N fr c e n r x:=by
 subst hc;exact λa w hs=>wp_exit ⟨e,hs,h⟩
theorem Ht.ret(hc:c=.ret)(h:r e):Ht P N fr c e n r x:=by
 subst hc;exact λa w hs=>wp_ret ⟨e,hs,h⟩
theorem Ht.mono{n' r':Env->Prop}{x':Nat->Env->Prop}(h:Ht P N fr c e n r x)(hn:∀e,n e->n' e)(hr:∀e,r e->r' e)(hx:∀i e,x i e->x' i e):Ht P N fr c e n' r' x':=by
 intro a w hs;refine wp_mono (h a w hs) ?_;rintro ex a w ⟨e',hs',hp⟩;refine⟨e',hs',?_⟩;cases ex with
 |normal=>exact hn _ hp
 |ret=>exact hr _ hp
 |exit i=>exact hx _ _ hp
 |_=>exact hp
theorem oe{σ:Type}{c:Code}{Q:Exit->Act->World->Prop}(I:σ->Act->World->Prop)
  (m:σ->Nat) (round:∀s a w,I s a w->c.wp P (Exit.then (λa' w'=>∃s',m s'<m s/\I s' a' w') Q) a w) (s:σ) {a:Act} {w:World} (h₀:I s a w):(Code.loop c).wp P Q a w:=by
 intro b k cs
 have key:∀n s a w,m s=n->I s a w ->
   ∃e a' w',Q e a' w'/\Arrives P (lone (b.at a (.code c::.inLoop c::k)) cs w) b k cs e a' w':=by
  intro n
  induction n using Nat.strongRecOn with
  |_ n ih=>
   intro s a w hn hI;obtain⟨e,a₁,w₁,hq,harr⟩:=round s a w hI b (.inLoop c::k) cs;cases e with
   |normal=>
    obtain⟨s',hlt,hI₁⟩:=hq;obtain⟨e₂,a₂,w₂,hq₂,harr₂⟩:=ih (m s') (hn▸hlt) s' a₁ w₁ rfl hI₁;exact⟨e₂,a₂,w₂,hq₂,.of_steps (Steps.trans harr (.one step_inLoop)) harr₂⟩
   |exit id=>exact⟨_,a₁,w₁,hq,.pass (x:=.inLoop c) rfl (λ_ _=>.inl (by simp)) harr⟩
   |goto l=>exact⟨_,a₁,w₁,hq,.pass (x:=.inLoop c) rfl (λ_ _=>.inl (by simp)) harr⟩
   |ret=>exact⟨_,a₁,w₁,hq,.pass (x:=.inLoop c) rfl (λ_ _=>.inl (by simp)) harr⟩
   |panic ch=>exact⟨_,a₁,w₁,hq,.pass (x:=.inLoop c) rfl (λ_ _=>.inl (by simp)) harr⟩
   |outgrown=>exact⟨_,a₁,w₁,hq,.pass (x:=.inLoop c) rfl (λ_ _=>.inl (by simp)) harr⟩
 obtain⟨e,a',w',hq,harr⟩:=key _ s a w rfl h₀;exact⟨e,a',w',hq,.of_steps (.one step_loop) harr⟩
end
inductive Lp(σ ρ:Type) where
 |go (s:σ)
 |out (r:ρ)
inductive LpT{σ ρ:Type}(step:σ->Lp σ ρ)(ob:σ->Prop):σ->Prop where
 |mk (s:σ):ob s->(∀s',step s=.go s'->LpT step ob s')->LpT step ob s
inductive LpR{σ ρ:Type}(step:σ->Lp σ ρ):σ->ρ->Prop where
 |out {s r}:step s=.out r->LpR step s r
 |go {s s' r}:step s=.go s'->LpR step s' r->LpR step s r
open Classical in
noncomputable def lpV{σ ρ:Type}[Inhabited ρ](step:σ->Lp σ ρ)(s:σ):ρ:=if h:∃r,LpR step s r then Classical.choose h else default
theorem LpR.fn{σ ρ:Type}{step:σ->Lp σ ρ}{s:σ}{r:ρ}(h:LpR step s r):∀ {r'},LpR step s r'->r'=r:=by
 induction h with
 |out h=>intro r' h';cases h' with
  |out h''=>rw[h]at h'';cases h'';rfl
  |go h'' _=>rw[h]at h'';cases h''
 |go h _ ih=>intro r' h';cases h' with
  |out h''=>rw[h]at h'';cases h''
  |go h'' h3=>rw[h]at h'';cases h'';exact ih h3
theorem LpR.val{σ ρ:Type}[Inhabited ρ]{step:σ->Lp σ ρ}{s:σ}{r:ρ}(h:LpR step s r):lpV step s=r:=by
 have hex:∃r,LpR step s r:=⟨r,h⟩;unfold lpV;rw[dif_pos hex];exact h.fn (Classical.choose_spec hex)
theorem NX{σ ρ:Type}[Inhabited ρ]{step:σ->Lp σ ρ}{s:σ}{r:ρ}(h:step s=.out r):lpV step s=r:=(LpR.out h).val
theorem PX{σ ρ:Type}[Inhabited ρ]{step:σ->Lp σ ρ}{s s':σ}(h:step s=.go s'):lpV step s=lpV step s':=by
 by_cases hex:∃r,LpR step s' r
 ·obtain⟨r,hr⟩:=hex;rw[hr.val,(LpR.go h hr).val]
 ·have hex':¬ ∃r,LpR step s r:=by
   rintro⟨r,hr⟩;cases hr with
   |out h'=>rw[h]at h';cases h'
   |go h' h''=>rw[h]at h';cases h';exact hex ⟨r,h''⟩
  unfold lpV;rw[dif_neg hex,dif_neg hex']
theorem LpT.ob{σ ρ:Type}{step:σ->Lp σ ρ}{ob:σ->Prop}{s:σ}(h:LpT step ob s):ob s:=by cases h;assumption
theorem LpT.next{σ ρ:Type}{step:σ->Lp σ ρ}{ob:σ->Prop}{s s':σ}(h:LpT step ob s)(hs:step s=.go s'):LpT step ob s':=by
 cases h with
 |mk _ _ h=>exact h s' hs
section
variable {P:Program} {N:NP} {fr:Fr} {c:Code} {n r:Env->Prop} {x:Nat->Env->Prop}
inductive LpN{σ ρ:Type}(step:σ->Lp σ ρ)(ob:σ->Prop):Nat->σ->Prop where
 |out {s r}:ob s->step s=.out r->LpN step ob 0 s
 |go {k s s'}:ob s->step s=.go s'->LpN step ob k s'->LpN step ob (k+1) s
theorem LpT.count{σ ρ:Type}{step:σ->Lp σ ρ}{ob:σ->Prop}{s:σ}(h:LpT step ob s):∃k,LpN step ob k s:=by
 induction h with
 |mk s ho _ ih=>
  cases hs:step s with
  |out r=>exact⟨0,.out ho hs⟩
  |go s'=>obtain⟨k,hk⟩:=ih s' hs;exact⟨k+1,.go ho hs hk⟩
theorem Ht.loop{σ ρ:Type}{c1:Code}(hc:c=.loop c1){I:σ->Env}{step:σ->Lp σ ρ}{ob:σ->Prop}{s0:σ}(hT:LpT step ob s0)
  (hround:∀s,ob s->Ht P N fr c1 (I s) (λe'=>∃s',step s=.go s'/\e'=I s') (λe'=>∃q,step s=.out q/\(LpR step s0 q->r e')) (λi e'=>∃q,step s=.out q/\(LpR step s0 q->x i e'))):Ht P N fr c (I s0) n r x:=by
 subst hc;intro a w hs;obtain⟨k0,hk0⟩:=hT.count;refine oe (σ:=Nat×σ) (λks a w=>LpN step ob ks.1 ks.2/\(∀q,LpR step ks.2 q->LpR step s0 q)/\Sim N fr.B fr.IoB fr.W0 fr.F0 (I ks.2) a w) (·.1) ?_ (k0,s0) ⟨hk0,λ_ h=>h,hs⟩;rintro⟨k,s⟩ a w ⟨hk,hq,hsim⟩;have hk:LpN step ob k s:=hk;have ho:ob s:=by cases hk<;>assumption
 refine wp_mono (hround s ho a w hsim) ?_;rintro ex a w ⟨e',hs',hp⟩;cases ex with
 |normal=>
  obtain⟨s',hst,rfl⟩:=hp;cases hk with
  |out _ h=>rw[hst]at h;cases h
  |go _ h hk'=>
   rw[hst]at h;cases h;exact⟨(_,s'),Nat.lt_succ_self _,hk',λq h=>hq q (.go hst h),hs'⟩
 |ret=>
  obtain⟨q,hst,h⟩:=hp;exact⟨e',hs',h (hq q (.out hst))⟩
 |exit i=>
  obtain⟨q,hst,h⟩:=hp;exact⟨e',hs',h (hq q (.out hst))⟩
 |_=>exact hp.elim
end
end Go.Proofs.YthfkpijcajdnhaaGreat

namespace Go.Proofs.YthfkpijcajdnhaaGreat
open Go
inductive Tk where
 |same
 |sh
 |fr
 |acc (f:Bool)
 |own (f:Bool)
 |bx (l:List (Option Bool))
def Hd:List (Option Bool)->List (K×C)->List (K×C)
 |some f::l,(_,.nl t)::cs=>(.acc f,.lst t [])::Hd l cs
 |_::l,kc::cs=>kc::Hd l cs
 |[],cs=>cs
 |_::_,[]=>[]
theorem aC:∀ (l:List (Option Bool)) (cs:List (K×C)),(Hd l cs).length=cs.length
 |[],cs=>by cases cs<;>rfl
 |_::_,[]=>by simp[Hd]
 |none::l,kc::cs=>by
  have:=aC l cs;simp[Hd,this]
 |some f::l,(k,c)::cs=>by
  have:=aC l cs;cases c<;>simp[Hd,this]
theorem bC:∀ {l:List (Option Bool)} {cs:List (K×C)} {j:Nat} {kc:K×C},(Hd l cs)[j]? = some kc->∃kc0,cs[j]? = some kc0/\(kc=kc0\/∃f t,kc0.2=.nl t/\kc=(.acc f,.lst t []))
 |[],[],j,kc,h=>by simp[Hd]at h
 |[],_::_,j,kc,h=>⟨kc,h,.inl rfl⟩
 |_::_,[],j,kc,h=>by simp[Hd]at h
 |none::l,kc0::cs,j,kc,h=>by
  cases j with
  |zero=>simp[Hd]at h;exact⟨kc0,rfl,.inl h.symm⟩
  |succ j=>
   obtain⟨q,h1,h2⟩:=bC (l:=l) (cs:=cs) (j:=j) (kc:=kc) (by simpa [Hd] using h);exact⟨q,by simpa using h1,h2⟩
 |some f::l,(k,c)::cs,j,kc,h=>by
  cases j with
  |zero=>
   cases c with
   |nl t=>simp[Hd]at h;exact⟨(k,.nl t),rfl,.inr ⟨f,t,rfl,h.symm⟩⟩
   |_=>simp[Hd]at h;exact⟨_,rfl,.inl h.symm⟩
  |succ j=>
   obtain⟨q,h1,h2⟩:=bC (l:=l) (cs:=cs) (j:=j) (kc:=kc) (by cases c<;>simpa [Hd] using h);exact⟨q,by simpa using h1,h2⟩
def leB:Bool->Bool->Bool
 |true,false=>false
 |_,_=>true
def Wd:Tk->AV->Option AV
 |.same,a=>some a
 |.sh,.v .sh c=>some (.v .sh (norm c))
 |.sh,.v .fr c=>some (.v .sh (norm c))
 |.sh,.v (.acc _) c=>some (.v .sh (norm c))
 |.sh,.agg _ cs=>some (.agg false (norms cs))
 |.fr,.v .fr c=>some (.v .fr (norm c))
 |.fr,.v (.acc true) c=>some (.v .fr (norm c))
 |.fr,.agg true cs=>some (.agg true (norms cs))
 |.acc f,.v _ (.nl t)=>some (.v (.acc f) (.lst t []))
 |.acc f,.v (.acc f') c=>match leB f f' with
  |true=>some (.v (.acc f) (norm c))
  |false=>none
 |.own f,.v (.own f') c=>match leB f f' with
  |true=>some (.v (.own f) c)
  |false=>none
 |.bx l,.box cs=>some (.box (Hd l cs))
 |_,_=>none
def Fg(e:Env):List (Nat×Tk)->Option Env
 |[]=>some []
 |(n,k)::r=>match Wd k (ba e n),Fg e r with
  |some a,some e'=>match Vb a with
   |true=>some ((n,a)::e')
   |false=>none
  |_,_=>none
theorem RC.lower{F:Fz}{B:Nat}{f f':Bool}{w:World}{c:C}{v:Value}(h:RC F (lof B f') w c v)(hf:leB f f'=true):RC F (lof B f) w c v:=h.mono (λ_ _ h=>h) (by cases f<;>cases f'<;>simp[lof,leB]at hf⊢) (λ_ _ _=>rfl)
theorem Lq{F:Fz}{B:Nat}{w:World}{o:Option Nat->Option Nat}{k:Tk}{av av':AV}{v:Value}(h:Wd k av=some av')(hv:VR F B w o av v):VR F B w o av' v:=by
 have h0:∀ {lo:Nat} {c:C},RC F lo w c v->RC F 0 w (norm c) v:=λh=>(RC.lo0 h).norm;unfold Wd at h;split at h
 .cases h;exact hv
 .cases h;exact h0 hv
 .cases h;exact h0 (hv:RC F B w _ v)
 .cases h;exact h0 hv.1
 ·rename_i f cs;cases h;obtain⟨vs,rfl,hr⟩:=hv;exact⟨vs,rfl,(hr.mono (λ_ _ h=>h) (Nat.zero_le _) (λ_ _ _=>rfl)).norms⟩
 .cases h;exact (hv:RC F B w _ v).norm
 .cases h;exact RC.norm hv.1
 ·cases h;obtain⟨vs,rfl,hr⟩:=hv;exact⟨vs,rfl,hr.norms⟩
 ·rename_i f k' t;cases h
  have hrc:∃lo,RC F lo w (.nl t) v:=by
   cases k' with
   |sh=>exact⟨_,hv⟩
   |fr=>exact⟨_,hv⟩
   |acc f=>exact⟨_,hv.1⟩
   |own f=>rcases hv with⟨t,h1,_⟩|⟨t,xs,b,cap,cs,vs,h1,_⟩<;>cases h1
  obtain⟨lo,hrc⟩:=hrc;cases hrc;exact⟨.nil _,.inl ⟨t,rfl,rfl⟩⟩
 ·rename_i f f' c;split at h
  ·rename_i hf;cases h;exact Ga.norm ⟨RC.lower hv.1 hf,hv.2⟩
  .cases h
 ·rename_i f f' c;split at h
  ·rename_i hf;cases h;rcases hv with h|⟨t,xs,b,cap,cs,vs,e1,e2,e3,e4,e5,e5',e6,e7,e8,e9⟩
   .exact .inl h
   exact .inr ⟨t,xs,b,cap,cs,vs,e1,e2,e3,e4,e5,e5',Nat.le_trans (by cases f<;>cases f'<;>simp[lof,leB]at hf⊢) e6,e7,e8,λi j x c hx hc=>RC.lower (e9 i j x c hx hc) hf⟩
  .cases h
 ·rename_i l cs;cases h;obtain⟨b,vs,e1,e2,e3,e4,e5,e6⟩:=hv;refine⟨b,vs,e1,e2,e3,e4,by rw[aC];exact e5,λj kc u hj hu=>?_⟩;obtain⟨kc0,h1,h2⟩:=bC hj;have h3:=e6 j kc0 u h1 hu;rcases h2 with rfl|⟨f,t,h4,rfl⟩
  .exact h3
  ·obtain⟨k0,c0⟩:=kc0;have h4:c0=.nl t:=h4;subst h4
   have hrc:∃lo,RC F lo w (.nl t) u:=by
    cases k0 with
    |sh=>exact⟨_,h3⟩
    |fr=>exact⟨_,h3⟩
    |acc f=>exact⟨_,h3.1⟩
    |own f=>exact h3.elim
   obtain⟨lo,hrc⟩:=hrc;cases hrc;exact⟨.nil _,.inl ⟨t,rfl,rfl⟩⟩
 .cases h
theorem rL{e:Env}:∀ {pat:List (Nat×Tk)} {e':Env},Fg e pat=some e'->∀n,ba e' n=.dead\/∃k,Wd k (ba e n)=some (ba e' n)/\Vb (ba e' n)=true
 |[],e',h,n=>by simp only[Fg,Option.some.injEq]at h;subst h;exact .inl rfl
 |(m,k)::r,e',h,n=>by
  simp only[Fg]at h;split at h
  ·rename_i a e2 ha he;split at h
   ·rename_i hf;simp only[Option.some.injEq]at h;subst h;simp only[ba];cases hb:Nat.beq m n with
    |true=>
     right;rw[Nat.eq_of_beq_eq_true hb]at ha;exact⟨k,ha,hf⟩
    |false=>exact rL he n
   .cases h
  .cases h
theorem ja.cast{B:Nat}{IoB:List Nat}{F0 F:Fz}{e e':Env}{tm:Nat->Value}{w:World}{ow:Nat->Option Nat->Option Nat}(hs:ja B IoB F0 e tm w F ow)(hfl:∀n,Vb (ba e n)=true)
  {pat:List (Nat×Tk)} (h:Fg e pat=some e'):ja B IoB F0 e' tm w F ow:=by
 refine hs.flat λn=>?_;rcases rL h n with h|⟨k,hc,hf⟩
 .rw[h];exact⟨rfl,trivial⟩
 ·have hsr:=hs.sr n;rw[ld (hfl n)]at hsr;exact⟨hf,Lq hc hsr⟩
def xe:Env->Bool
 |[]=>true
 |(_,a)::r=>Vb a&&xe r
theorem Qf:∀ {e:Env},xe e=true->∀n,Vb (ba e n)=true
 |[],_,_=>rfl
 |(m,a)::r,h,n=>by
  simp only[xe,Bool.and_eq_true]at h;simp only[ba];cases Nat.beq m n with
  |true=>exact h.1
  |false=>exact Qf h.2 n
def xh(e:Env)(s:Nat):Env:=
 match ba e s with
 |.v (.own f) (.lst t xs)=>put (Fa (Pb (unview s (ba e s)) e) s .dead) s (.v (.acc f) (.lst t xs))
 |_=>e
theorem ja.freeze{B:Nat}{IoB:List Nat}{F0 F:Fz}{e:Env}{a:Act}{w:World}{ow:Nat->Option Nat->Option Nat}(hs:ja B IoB F0 e (λn=>a.tmps.getD n undef) w F ow)(hBw:B<=w.heap.size)(s:Nat) :
  ∃F' ow',ja B IoB F0 (xh e s) (λn=>a.tmps.getD n undef) w F' ow':=by
 unfold xh;split
 ·rename_i f t xs hg;have hsr:=hs.sr s;rw[hg]at hsr;rcases hsr with⟨t',e1,e2⟩|⟨t',xs',b,cap,cs,vs,e1,e2,e3,e4,e5,e5',e6,e7,e8,e9⟩
  ·cases e1;have e2:a.tmps.getD s undef=.slice none 0 0:=e2;have h1:=hs.unviewAt s .dead (λ_ _=>trivial);rw[hg]at h1
   have h3:=h1.putG (d:=s) (av:=.v (.acc f) (.lst t [])) (v:=a.tmps.getD s undef) (owd:=λ_=>none) hBw (Ia.refl _ _) h1.live
    (λi b' h=>by simp at h) (λi b' h=>by simp at h) (λi i' b' h h'=>by simp at h)
    (λg' _ _=>by
      show Ga F (lof B f) w _ _ _;simp only[if_true];exact⟨by rw[e2];exact .nil t,.inl ⟨t,rfl,e2⟩⟩)
   have htm:(λn=>if n=s then a.tmps.getD s undef else a.tmps.getD n undef)=λn=>a.tmps.getD n undef:=funext λn=>by
    by_cases h:n=s
    .rw[if_pos h,h]
    .rw[if_neg h]
   rw[htm]at h3;rw[hg];exact⟨F,_,h3⟩
  cases e1;have e2:a.tmps.getD s undef=.slice (some ⟨b,0,none⟩) xs.length cap:=e2;have hBb:Mn B IoB b:=(hs.bd s none b e3).2;have h1:=hs.unviewAt s .dead (λ_ _=>trivial);rw[hg]at h1
  have hfree:∀s' i,(λn=>if n=s then λ_=>none else ow n) s' i≠some b:=by
   intro s' i h;by_cases he:s'=s
   .simp[he]at h
   ·simp only[he,if_false]at h;exact he (hs.inj _ _ _ _ _ h e3).1
  let F':Fz:=λb' o=>F b' o\/(b'=b/\o<xs.length*t.size);have hle:xs.length*t.size<=cs.length:=by rw[e5];exact Nat.mul_le_mul_right _ e5'
  have h2:ja B IoB F0 (Fa (Pb (unview s (.v (.own f) (.lst t xs))) e) s .dead) (λn=>a.tmps.getD n undef) w F' (λn=>if n=s then λ_=>none else ow n):=by
   refine⟨λb o h=>.inl (h1.sub b o h),λb' o h=>?_,λb' o h=>?_,h1.inj,h1.bd,λn=>?_⟩
   ·rcases h with h|⟨rfl,_⟩
    .exact h1.new _ _ h
    .exact .inr hBb
   ·rcases h with h|⟨rfl,h⟩
    .exact h1.live _ _ h
    .rw[e4.cell,List.getElem?_eq_getElem (by omega)];rfl
   .exact SR.ext (F:=F) (F':=F') (λb o h=>.inl h) (λb' o h=>h.imp_right (λh s' i=>h.1▸hfree s' i)) (h1.sr n)
  have h3:=h2.putG (d:=s) (av:=.v (.acc f) (.lst t xs)) (v:=a.tmps.getD s undef) (owd:=λi=>match i with|none=>some b|some _=>none) hBw (Ia.refl _ _) h2.live
   (λi b' h=>by
     cases i with
     |none=>simp at h;subst h;exact hs.bd s none _ e3
     |some i=>simp at h)
   (λi b' h s' i' _=>by
     cases i with
     |none=>simp at h;subst h;exact hfree s' i'
     |some i=>simp at h)
   (λi i' b' h h'=>by cases i<;>cases i'<;>simp at h h'⊢)
   (λg' _ _=>by
     show Ga F' (lof B f) w _ _ _;simp only[if_true];rw[e2]
     refine⟨.lst t xs b 0 cap vs e6 e5' (λi j hi hj=>.inr ⟨rfl,by rw[Nat.zero_add];exact qf hi hj⟩) (λi j hi hj=>by rw[e4.cell,Nat.zero_add];exact e8 i j hi hj)
      (λi j x c hx hc=>(e9 i j x c hx hc).mono (λ_ _ h=>.inl h) (Nat.le_refl _) (λ_ _ _=>rfl)),.inr ⟨t,xs,b,cap,cs,rfl,rfl,rfl,e4,e5,λo ho h=>?_⟩⟩
     rcases h with h|h
     .exact e7 o h
     .omega)
  have htm:(λn=>if n=s then a.tmps.getD s undef else a.tmps.getD n undef)=λn=>a.tmps.getD n undef:=funext λn=>by
   by_cases h:n=s
   .rw[if_pos h,h]
   .rw[if_neg h]
  rw[htm]at h3;rw[hg];exact⟨F',_,h3⟩
 .exact⟨F,ow,hs⟩
section
variable {P:Program} {tt:TT} {N:NP} {fr:Fr} {c:Code} {e:Env} {n r:Env->Prop} {x:Nat->Env->Prop}
theorem Ht.cast{pat:List (Nat×Tk)}{e':Env}(hf:xe e=true)(h:Fg e pat=some e')(hc:Ht P N fr c e' n r x):Ht P N fr c e n r x:=by
 intro a w hs;obtain⟨F,ow,hx⟩:=hs.rep;exact hc a w ⟨hs.defers,hs.tmps,hs.base,hs.f0,hs.kept,F,ow,hx.cast (Qf hf) h⟩
theorem Ht.freeze(s:Nat)(hc:Ht P N fr c (xh e s) n r x):Ht P N fr c e n r x:=by
 intro a w hs;obtain⟨F,ow,hx⟩:=hs.rep;obtain⟨F',ow',hx'⟩:=hx.freeze (Nat.le_trans hs.base hs.kept.size) s;exact hc a w ⟨hs.defers,hs.tmps,hs.base,hs.f0,hs.kept,F',ow',hx'⟩
end
def Ty.i64:Ty->Bool
 |.int=>true
 |.time=>true
 |.row=>true
 |.item=>true
 |_=>false
def okC:C->Bool
 |.int _ _=>true
 |.bool _=>true
 |.str _=>true
 |.nl _=>true
 |.lst .byte _=>true
 |_=>false
def cC:K×C->Bool
 |(.acc _,.lst t _)=>t.i64
 |(.acc _,_)=>false
 |(.own _,_)=>false
 |(_,c)=>okC c
def Gg{α:Type}(p:α->Bool):List α->Bool
 |[]=>true
 |x::r=>p x&&Gg p r
theorem ul{α:Type}{p:α->Bool}:∀ {l:List α},Gg p l=true->∀ {j:Nat} {x:α},l[j]? = some x->p x=true
 |[],_,j,x,h=>by simp at h
 |y::r,ha,0,x,h=>by simp only[Gg,Bool.and_eq_true]at ha;simp at h;subst h;exact ha.1
 |y::r,ha,j+1,x,h=>by simp only[Gg,Bool.and_eq_true]at ha;exact ul ha.2 (by simpa using h)
def yh:AV->Bool
 |.dead=>true
 |.v (.acc _) (.lst t _)=>t.i64
 |.v (.acc _) _=>false
 |.v (.own _) (.lst t _)=>t.i64
 |.v (.own _) _=>false
 |.v _ c=>okC c
 |.agg _ cs=>Gg okC cs
 |.box cs=>Gg cC cs
 |_=>false
def vl(s:Nat):Env->Bool
 |[]=>true
 |(n,a)::r=>(Nat.beq n s||yh a)&&vl s r
theorem wl{s:Nat}:∀ {e:Env},vl s e=true->∀n,n≠s->yh (ba e n)=true
 |[],_,_,_=>rfl
 |(m,a)::r,h,n,hn=>by
  simp only[vl,Bool.and_eq_true,Bool.or_eq_true]at h;simp only[ba];cases hb:Nat.beq m n with
  |true=>
   have:=Nat.eq_of_beq_eq_true hb;subst this;rcases h.1 with h1|h1
   .exact absurd (Nat.eq_of_beq_eq_true h1) hn
   .exact h1
  |false=>exact wl h.2 n hn
theorem Mq{a:AV}(h:yh a=true):Vb a=true:=by
 cases a<;>first|rfl|(simp[yh]at h)
theorem RC.ofInt{F:Fz}{lo:Nat}{w:World}{k:IntKind}{n:Int}{v:Value}(h:RC F lo w (.int k n) v):v=.int k n:=by cases h;rfl
theorem Nq{t:Ty}(ht:t.i64=true){x:t.T}{j:Nat}{c:C}(h:(cells t x)[j]? = some c):∃n,c=.int .i64 n:=by
 cases t<;>simp[Ty.i64]at ht
 all_goals
  (match j,h with
   |0,h=>simp[cells]at h;exact⟨_,h.symm⟩
   |1,h=>first|(simp[cells]at h;done)|(simp[cells]at h;exact⟨_,h.symm⟩)
   |2,h=>first|(simp[cells]at h;done)|(simp[cells]at h;exact⟨_,h.symm⟩)
   |3,h=>first|(simp[cells]at h;done)|(simp[cells]at h;exact⟨_,h.symm⟩)
   |4,h=>first|(simp[cells]at h;done)|(simp[cells]at h;exact⟨_,h.symm⟩)
   |j+5,h=>simp[cells]at h)
theorem ja.thaw{B:Nat}{IoB:List Nat}{F0 F:Fz}{e:Env}{tm:Nat->Value}{w:World}{ow:Nat->Option Nat->Option Nat}(hs:ja B IoB F0 e tm w F ow)(hf0:∀b o,F0 b o->b<B/\b ∉ IoB){s:Nat}{f:Bool}{t:Ty}{xs:List t.T}
  (hg:ba e s=.v (.acc f) (.lst t xs)) (ht:t.i64=true) (hok:vl s e=true):∃F',ja B IoB F0 (Fa e s (.v (.own f) (.lst t xs))) tm w F' ow:=by
 have hsr:=hs.sr s;rw[hg]at hsr;obtain⟨hrc,hd⟩:=hsr
 have hflat:∀n,Vb (ba (Fa e s (.v (.own f) (.lst t xs))) n)=true:=λn=>by
  rw[za];split
  .rfl
  .rename_i hn;exact Mq (wl hok n hn)
 rcases hd with⟨t0,e1,e2⟩|⟨t0,xs0,b,cap,cs,e1,e2,e3,e4,e5,e6⟩
 ·have e1:C.lst t xs=.lst t0 []:=e1;refine⟨F,hs.flat λn=>⟨hflat n,?_⟩⟩;rw[za];split
  ·rename_i hn;rw[hn,e1];exact .inl ⟨t0,rfl,e2⟩
  ·rename_i hn;have:=hs.sr n;rw[ld (Mq (wl hok n hn))]at this;exact this
 ·have e1:C.lst t xs=.lst t0 xs0:=e1;cases e1;let F':Fz:=λb' o=>F b' o/\b'≠b;have hsub:∀b' o,F' b' o->F b' o:=λ_ _ h=>h.1;rw[e2]at hrc;cases hrc with
  |lst _ _ _ o cap' vs hb hcap hf hc hr=>
   have hBb:Mn B IoB b:=(hs.bd s none b e3).2
   have hint:∀o u,F b o->w.cell? ⟨b,o,none⟩=some u->∃n,u=.int .i64 n:=by
    intro o u hFo hu
    have ho:o<xs.length*t.size:=by
     by_cases h:o<xs.length*t.size
     .exact h
     .exact absurd hFo (e6 o (by omega))
    have hpos:=ph t;have hi:o / t.size<xs.length:=by rw[Nat.div_lt_iff_lt_mul hpos];exact ho
    have hj:o % t.size<t.size:=Nat.mod_lt _ hpos;have h1:=hc (o / t.size) (o % t.size) hi hj;rw[show 0+(o / t.size*t.size+o % t.size)=o by rw[Nat.zero_add,Nat.mul_comm];exact Nat.div_add_mod _ _]at h1;rw[h1]at hu;cases hu;have hcl:(cells t xs[o / t.size])[o % t.size]? = some ((cells t xs[o / t.size])[o % t.size]'(by rw[me];exact hj)):=List.getElem?_eq_getElem _;obtain⟨n,hn⟩:=Nq ht hcl;have h2:=hr _ _ _ _ (List.getElem?_eq_getElem hi) hcl;rw[hn]at h2;exact⟨n,h2.ofInt⟩
   have okc:∀ {lo:Nat} {c:C} {v:Value},okC c=true->RC F lo w c v->RC F' lo w c v:=by
    intro lo c v hcc h;cases h with
    |int k n=>exact .int k n
    |bool b=>exact .bool b
    |str s=>exact .str s
    |nl t=>exact .nl t
    |nil t=>exact .nil t
    |lst t2 ys b2 o2 cap2 vs2 hb2 hcap2 hf2 hc2 hr2=>
     cases t2<;>simp[okC]at hcc;refine .lst .byte ys b2 o2 cap2 vs2 hb2 hcap2 (λi j hi hj=>⟨hf2 i j hi hj,λe=>?_⟩) hc2 (λi j x c hx hcc=>?_)
     ·subst e;obtain⟨n,hn⟩:=hint _ _ (hf2 i j hi hj) (hc2 i j hi hj);have hj0:j=0:=by have:j<1:=hj;omega
      subst hj0;have h3:=hr2 i 0 ys[i] (.int .u8 ys[i]) (List.getElem?_eq_getElem hi) rfl;rw[hn]at h3;cases h3.ofInt
     ·have h3:=hr2 i j x c hx hcc
      match j,hcc with
      |0,hcc=>simp[cells]at hcc;subst hcc;rw[h3.ofInt];exact .int _ _
      |j+1,hcc=>simp[cells]at hcc
   have i64c:∀ {lo:Nat} {t2:Ty} {ys:List t2.T} {v:Value},t2.i64=true->(∀b2 o2 n2 cap2,v=.slice (some ⟨b2,o2,none⟩) n2 cap2->b2≠b)->RC F lo w (.lst t2 ys) v->RC F' lo w (.lst t2 ys) v:=by
    intro lo t2 ys v h64 hne h;cases h with
    |nil=>exact .nil _
    |lst _ _ b2 o2 cap2 vs2 hb2 hcap2 hf2 hc2 hr2=>
     refine .lst t2 ys b2 o2 cap2 vs2 hb2 hcap2 (λi j hi hj=>⟨hf2 i j hi hj,hne _ _ _ _ rfl⟩) hc2 (λi j x c hx hcc=>?_);have h3:=hr2 i j x c hx hcc;obtain⟨n,rfl⟩:=Nq h64 hcc;rw[h3.ofInt];exact .int _ _
   have accR:∀ {lo:Nat} {ob:Option Nat} {t2:Ty} {ys:List t2.T} {v:Value},t2.i64=true->ob≠some b->Ga F lo w ob (.lst t2 ys) v->Ga F' lo w ob (.lst t2 ys) v:=by
    rintro lo ob t2 ys v h64 hob ⟨h1,h2⟩;rcases h2 with⟨t3,q1,q2⟩|⟨t3,zs,b2,cap2,cs2,q1,q2,q3,q4,q5,q6⟩
    ·have q1':C.lst t2 ys=.lst t3 []:=q1;cases q1';exact⟨by rw[q2];exact .nil _,.inl ⟨t2,rfl,q2⟩⟩
    ·have hne:b2≠b:=λe=>hob (e▸q3);exact⟨i64c h64 (λb3 o3 n3 c3 h=>by rw[q2]at h;cases h;exact hne) h1,.inr ⟨t3,zs,b2,cap2,cs2,q1,q2,q3,q4,q5,λo ho hF=>q6 o ho hF.1⟩⟩
   refine⟨F',?_⟩
   have hmain:ja B IoB F0 (Fa e s .dead) tm w F' ow:=by
    refine⟨λb' o h=>⟨hs.sub _ _ h,λe=>by subst e;exact hBb.elim (λhB=>by have:=(hf0 _ _ h).1;omega) (hf0 _ _ h).2⟩,λb' o h=>hs.new _ _ h.1,λb' o h=>hs.live _ _ h.1,hs.inj,hs.bd,λn=>?_⟩;rw[za];split
    .trivial
    ·rename_i hn;have ha:=wl hok n hn;have h:=hs.sr n;have hfl:=Mq ha;rw[ld hfl]at h⊢;have hob:∀i,ow n i≠some b:=λi h=>hn (hs.inj _ _ _ _ _ h e3).1;cases hav:ba e n with
     |dead=>trivial
     |v k c=>
      rw[hav]at h ha;cases k with
      |sh=>exact okc ha h
      |fr=>exact okc ha h
      |acc f2=>
       cases c with
       |lst t2 ys=>exact accR ha (hob none) h
       |_=>simp[yh]at ha
      |own f2=>
       cases c with
       |lst t2 ys=>
        rcases h with h|⟨t3,zs,b2,cap2,cs2,vs2,q1,q2,q3,q4,q5,q5',q6,q7,q8,q9⟩
        .exact .inl h
        ·refine .inr ⟨t3,zs,b2,cap2,cs2,vs2,q1,q2,q3,q4,q5,q5',q6,λo hF=>q7 o hF.1,q8,λi j x c hx hcc=>?_⟩;cases q1;have h3:=q9 i j x c hx hcc;obtain⟨m,rfl⟩:=Nq ha hcc;rw[h3.ofInt];exact .int _ _
       |_=>simp[yh]at ha
     |agg f2 cs2=>
      rw[hav]at h ha;obtain⟨us,q1,q2⟩:=h;refine⟨us,q1,RCs.mk q2.length (λj c v hc hv=>?_)⟩;obtain⟨v2,q3,q4⟩:=q2.get hc;rw[hv]at q3;cases q3;exact okc (ul ha hc) q4
     |box cs2=>
      rw[hav]at h ha;obtain⟨b2,us,q1,q2,q3,q4,q5,q6⟩:=h;refine⟨b2,us,q1,q2,q3,λo hF=>q4 o hF.1,q5,λj kc u hk hu=>?_⟩;have h3:=q6 j kc u hk hu;have h4:=ul ha hk;obtain⟨k,c⟩:=kc;cases k with
      |sh=>exact okc h4 h3
      |fr=>exact okc h4 h3
      |acc f2=>
       cases c with
       |lst t2 ys=>exact accR h4 (hob (some j)) h3
       |_=>simp[cC]at h4
      |own f2=>simp[cC]at h4
     |_=>rw[hav]at ha;simp[yh]at ha
   refine⟨hmain.sub,hmain.new,hmain.live,hmain.inj,hmain.bd,λn=>?_⟩;by_cases hn:n=s
   ·rw[hn,za,if_pos rfl];refine .inr ⟨t,xs,b,cap,cs,vs,rfl,e2,e3,e4,e5,hcap,hb,λo h=>h.2 rfl,λi j hi hj=>?_,λi j x c hx hcc=>?_⟩
    ·have h1:=hc i j hi hj;rw[Nat.zero_add,e4.cell]at h1;exact h1
    ·have h3:=hr i j x c hx hcc;obtain⟨m,rfl⟩:=Nq ht hcc;rw[h3.ofInt];exact .int _ _
   ·rw[za,if_neg hn];have h:=hmain.sr n;rw[za,if_neg hn]at h;have hfl:=Mq (wl hok n hn);rw[ld hfl]at h⊢;exact h
def zh(e:Env)(s:Nat):Option Env:=
 match ba e s with
 |.v (.acc f) (.lst t xs)=>match t.i64&&vl s e with
  |true=>some (Fa e s (.v (.own f) (.lst t xs)))
  |false=>none
 |_=>none
section
variable {P:Program} {N:NP} {fr:Fr} {c:Code} {e:Env} {n r:Env->Prop} {x:Nat->Env->Prop}
theorem Ht.thaw(s:Nat){e':Env}(h:zh e s=some e')(hc:Ht P N fr c e' n r x):Ht P N fr c e n r x:=by
 intro a w hs;unfold zh at h;split at h
 ·rename_i f t xs hg;split at h
  ·rename_i hb;simp only[Bool.and_eq_true]at hb;simp only[Option.some.injEq]at h;subst h;obtain⟨F,ow,hx⟩:=hs.rep;obtain⟨F',hx'⟩:=hx.thaw hs.f0 hg hb.1 hb.2;exact hc a w ⟨hs.defers,hs.tmps,hs.base,hs.f0,hs.kept,F',ow,hx'⟩
  .cases h
 .cases h
end
def Qb:(ps:List PT)->nb ps->Nat->Env
 |[],_,_=>[]
 |.int k::ps,x,i=>(i,.v .fr (.int k x.1))::Qb ps x.2 (i+1)
 |.bool::ps,x,i=>(i,.v .fr (.bool x.1))::Qb ps x.2 (i+1)
 |.str::ps,x,i=>(i,.v .fr (.str x.1))::Qb ps x.2 (i+1)
 |.lst t::ps,x,i=>(i,.v .sh (.lst t x.1))::Qb ps x.2 (i+1)
 |.st t::ps,x,i=>(i,.agg (upF false (cells t x.1)) (cells t x.1))::Qb ps x.2 (i+1)
 |.rdr::ps,x,i=>(i,.box [(.sh,.lst .byte x.1.1),(.fr,.int .i64 x.1.2)])::Qb ps x.2 (i+1)
def Sa:List PT->Nat->Option Nat
 |[],_=>none
 |.rdr::_,i=>some i
 |.int _::ps,i=>Sa ps (i+1)
 |.bool::ps,i=>Sa ps (i+1)
 |.str::ps,i=>Sa ps (i+1)
 |.lst _::ps,i=>Sa ps (i+1)
 |.st _::ps,i=>Sa ps (i+1)
def Je(o:Option Nat)(io:Option Nat)(n:Nat):Option Nat->Option Nat
 |none=>match o with
  |some s=>match Nat.beq s n with
   |true=>io
   |false=>none
  |none=>none
 |some _=>none
theorem Ah{F:Fz}{w:World}:∀ {ps:List PT} {x:nb ps} {vs:List Value} {io:Option Nat} (i:Nat),ve F w ps x vs io ->
  vs.length=ps.length/\(∀b,io=some b->∃s,Sa ps i=some s/\i<=s/\s<i+vs.length/\vs[s - i]? = some (.pointer (some ⟨b,0,none⟩))/\b<w.heap.size)/\(io=none->Sa ps i=none) /\
  ∀ n,ba (Qb ps x i) n=.dead\/(i<=n/\Vb (ba (Qb ps x i) n)=true/\∃v,vs[n - i]? = some v /\
    VR F w.heap.size w (Je (Sa ps i) io n) (ba (Qb ps x i) n) v)
 |[],x,vs,io,i,h=>by
  obtain⟨rfl,rfl⟩:=h;exact⟨rfl,λb hb=>by simp at hb,λ_=>rfl,λn=>.inl rfl⟩
 |.rdr::ps,x,vs,io,i,h=>by
  obtain⟨b,sl,vs',rfl,rfl,hb,hr,hf,ht⟩:=h;obtain⟨t1,t2,t3,t4⟩:=Ah (i+1) ht;refine⟨by simp[t1],λb' hb'=>?_,λh=>by simp at h,λn=>?_⟩
  ·simp only[Option.some.injEq]at hb';subst hb';exact⟨i,rfl,Nat.le_refl _,by simp,by simp,hb.lt⟩
  ·simp only[Qb,ba];cases hn:Nat.beq i n with
   |true=>
    have hin:=Nat.eq_of_beq_eq_true hn;subst hin;refine .inr ⟨Nat.le_refl _,rfl,.pointer (some ⟨b,0,none⟩),by simp,b,[sl,.int .i64 x.1.2],rfl,by simp[Sa,Je,Nat.beq_refl],hb,hf,rfl,λj kc u hk hu=>?_⟩
    match j,hk,hu with
    |0,hk,hu=>simp at hk hu;subst hk;subst hu;exact hr
    |1,hk,hu=>simp at hk hu;subst hk;subst hu;exact RC.int _ _
    |j+2,hk,hu=>simp at hk
   |false=>
    simp only[];have hne:i≠n:=λe=>by rw[e,Nat.beq_refl]at hn;cases hn
    rcases t4 n with h|⟨h1,h2,v,h3,h4⟩
    .exact .inl h
    ·refine .inr ⟨by omega,h2,v,by rw[show n - i=(n - (i+1))+1 by omega];simpa using h3,?_⟩;have hno:Sa ps (i+1)=none:=t3 rfl
     have h5:Je (Sa ps (i+1)) none n=Je (some i) (some b) n:=funext λj=>by
      rw[hno];cases j<;>simp[Je,hn]
     rw[h5]at h4;exact h4
 |.int k::ps,x,vs,io,i,h=>by
  obtain⟨v,vs',rfl,hv,ht⟩:=h;exact step1 i (av:=.v .fr (.int k x.1)) rfl (λo=>by have h:RC F 0 w (.int k x.1) v:=hv;cases h;exact RC.int _ _) (Ah (i+1) ht) rfl rfl
 |.bool::ps,x,vs,io,i,h=>by
  obtain⟨v,vs',rfl,hv,ht⟩:=h;exact step1 i (av:=.v .fr (.bool x.1)) rfl (λo=>by have h:RC F 0 w (.bool x.1) v:=hv;cases h;exact RC.bool _) (Ah (i+1) ht) rfl rfl
 |.str::ps,x,vs,io,i,h=>by
  obtain⟨v,vs',rfl,hv,ht⟩:=h;exact step1 i (av:=.v .fr (.str x.1)) rfl (λo=>by have h:RC F 0 w (.str x.1) v:=hv;cases h;exact RC.str _) (Ah (i+1) ht) rfl rfl
 |.lst t::ps,x,vs,io,i,h=>by
  obtain⟨v,vs',rfl,hv,ht⟩:=h;exact step1 i (av:=.v .sh (.lst t x.1)) rfl (λo=>(hv:RC F 0 w (.lst t x.1) v)) (Ah (i+1) ht) rfl rfl
 |.st t::ps,x,vs,io,i,h=>by
  obtain⟨v,vs',rfl,hv,ht⟩:=h;exact step1 i (av:=.agg (upF false (cells t x.1)) (cells t x.1)) rfl (λo=>by obtain⟨us,h1,h2⟩:=hv;exact⟨us,h1,RCs.up (f:=false) h2⟩) (Ah (i+1) ht) rfl rfl
where
 step1 {F:Fz} {w:World} {p:PT} {ps:List PT} {x:nb (p::ps)} {v:Value} {vs:List Value} {io:Option Nat} (i:Nat) {av:AV} (hfl:Vb av=true) (hv:∀o,VR F w.heap.size w o av v)
   (t:vs.length=ps.length/\(∀b,io=some b->∃s,Sa ps (i+1)=some s/\i+1<=s/\s<i+1+vs.length/\vs[s - (i+1)]? = some (.pointer (some ⟨b,0,none⟩))/\b<w.heap.size)/\(io=none->Sa ps (i+1)=none) /\
     ∀ n,ba (Qb ps x.2 (i+1)) n=.dead\/(i+1<=n/\Vb (ba (Qb ps x.2 (i+1)) n)=true/\∃v,vs[n - (i+1)]? = some v /\
       VR F w.heap.size w (Je (Sa ps (i+1)) io n) (ba (Qb ps x.2 (i+1)) n) v))
   (he:Qb (p::ps) x i=(i,av)::Qb ps x.2 (i+1)) (hr:Sa (p::ps) i=Sa ps (i+1)) :
   (v::vs).length=(p::ps).length/\(∀b,io=some b->∃s,Sa (p::ps) i=some s/\i<=s/\s<i+(v::vs).length/\(v::vs)[s - i]? = some (.pointer (some ⟨b,0,none⟩))/\b<w.heap.size)/\(io=none->Sa (p::ps) i=none) /\
     ∀ n,ba (Qb (p::ps) x i) n=.dead\/(i<=n/\Vb (ba (Qb (p::ps) x i) n)=true/\∃u,(v::vs)[n - i]? = some u /\
       VR F w.heap.size w (Je (Sa (p::ps) i) io n) (ba (Qb (p::ps) x i) n) u):=by
  obtain⟨t1,t2,t3,t4⟩:=t;refine⟨by simp[t1],λb hb=>?_,λh=>hr.trans (t3 h),λn=>?_⟩
  ·obtain⟨s,s1,s2,s3,s4,s5⟩:=t2 b hb;exact⟨s,hr.trans s1,by omega,by simp only[List.length_cons];omega,by rw[show s - i=(s - (i+1))+1 by omega];simpa using s4,s5⟩
  ·rw[he,hr];simp only[ba];cases hn:Nat.beq i n with
   |true=>
    have hin:=Nat.eq_of_beq_eq_true hn;subst hin;exact .inr ⟨Nat.le_refl _,hfl,v,by simp,hv _⟩
   |false=>
    have hne:i≠n:=λe=>by rw[e,Nat.beq_refl]at hn;cases hn
    rcases t4 n with h|⟨h1,h2,u,h3,h4⟩
    .exact .inl h
    .exact .inr ⟨by omega,h2,u,by rw[show n - i=(n - (i+1))+1 by omega];simpa using h3,h4⟩
end Go.Proofs.YthfkpijcajdnhaaGreat

namespace Go.Proofs.YthfkpijcajdnhaaGreat
open Go
def ye(tt:TT)(e:Env):ResultVar->AV
 |.tmp t=>ba e t
 |.cell a ty=>match lk tt ty,ba e a with
  |some d,.box cs=>match isAgg d with
   |false=>match cs with
    |[(k,c)]=>.v k c
    |_=>.dead
   |true=>match cd cs,Nat.beq cs.length d.size with
    |some (f,l),true=>.agg f l
    |_,_=>.dead
  |_,_=>.dead
def Id:K->AV->Option AV
 |.sh,a=>Wd .sh a
 |.fr,a=>Wd .fr a
 |.acc f,a=>Wd (.acc f) a
 |.own f,.v (.own f') c=>match leB f f' with
  |true=>some (.v (.own f) c)
  |false=>none
 |_,_=>none
def Oq(f:Bool)(a:AV):Option PV:=
 match Id (frK f) a with
 |some (.v _ c)=>some ⟨f,false,[c]⟩
 |some (.agg _ cs)=>some ⟨f,true,cs⟩
 |_=>none
def tL:AV->Option AV
 |.box [(k,.lst .byte b),(_,.int .i64 p)]=>match k with
  |.own _=>none
  |_=>some (.box [(.sh,.lst .byte b),(.fr,.int .i64 p)])
 |_=>none
def Bh(tt:TT)(e:Env):List ResultVar->List (Bool×PT)->Option (List PV)
 |[],[]=>some []
 |v::vs,(f,_)::ps=>match Oq f (ye tt e v),Bh tt e vs ps with
  |some p,some l=>some (p::l)
  |_,_=>none
 |_,_=>none
def Hg(tt:TT)(e:Env)(vs:List ResultVar):RT->Option AV
 |.one k _=>match vs with
  |[v]=>Id k (ye tt e v)
  |_=>none
 |.rdr=>match vs with
  |[v]=>tL (ye tt e v)
  |_=>none
 |.tup l=>match vs with
  |[_]=>none
  |vs=>match Bh tt e vs l with
   |some ps=>some (.tup ps)
   |none=>none
def tf(tmps:Array Value):ResultVar->Sem Value
 |.tmp t=>pure (tmps.getD t undef)
 |.cell a t=>do loadVar t (← asAddr (tmps.getD a undef))
theorem QX(fn:Func)(tmps:Array Value):results fn tmps=(do let vs ← fn.results.mapM (tf tmps);pure (if h:vs.size=1 then vs[0] else .tuple vs)):=by
 have h:(λv:ResultVar=>match v with|.tmp t=>(pure (tmps.getD t undef):Sem Value)|.cell a t=>do loadVar t (← asAddr (tmps.getD a undef)))=tf tmps:=by
  funext v
  cases v<;>rfl
 unfold results;rw[← h];rfl
theorem mapM_ok{P:Program}{w:World}{tmps:Array Value}:∀ {rs:List ResultVar} {vs:List Value},rs.length=vs.length->(∀ (j:Nat) (rv:ResultVar) (v:Value),rs[j]? = some rv->vs[j]? = some v->(tf tmps rv).run P w=.ok v w) ->
  (rs.mapM (tf tmps)).run P w=.ok vs w
 |[],[],_,_=>rfl
 |rv::rs,v::vs,hl,h=>by
  have h0:=h 0 rv v rfl rfl;have ih:=mapM_ok (rs:=rs) (vs:=vs) (by simpa using hl) (λj rv v hr hv=>h (j+1) rv v (by simpa using hr) (by simpa using hv));simp[List.mapM_cons,h0,ih]
def dC:List Value->Value
 |[v]=>v
 |vs=>.tuple vs.toArray
theorem eC{P:Program}{w:World}{fn:Func}{tmps:Array Value}{rs:List ResultVar}(hr:fn.results=rs.toArray){vs:List Value}(hl:rs.length=vs.length)
  (h:∀ (j:Nat) (rv:ResultVar) (v:Value),rs[j]? = some rv->vs[j]? = some v->(tf tmps rv).run P w=.ok v w):(results fn tmps).run P w=.ok (dC vs) w:=by
 rw[QX,hr];have hm:=mapM_ok hl h
 have hm':(rs.toArray.mapM (tf tmps)).run P w=.ok vs.toArray w:=by
  rw[List.mapM_toArray];simp[hm]
 simp only[Sem.run_bind,hm',Result.andThen_ok,Sem.run_pure]
 match vs with
 |[]=>rfl
 |[v]=>rfl
 |v::u::vs=>simp[dC]
section
variable {P:Program} {tt:TT} {B:Nat} {IoB:List Nat} {F0 F:Fz} {e:Env} {w:World} {ow:Nat->Option Nat->Option Nat} {a:Act}
theorem fC{o:Option Nat->Option Nat}{k:K}{av av':AV}{v:Value}(h:Id k av=some av')(hv:VR F B w o av v):VR F B w o av' v:=by
 cases k with
 |sh=>exact Lq h hv
 |fr=>exact Lq h hv
 |acc f=>exact Lq h hv
 |own f=>
  cases av with
  |v k' c=>
   cases k' with
   |own f'=>
    simp only[Id]at h;split at h
    ·rename_i hf;cases h;rcases hv with h|⟨t,xs,b,cap,cs,vs,e1,e2,e3,e4,e5,e5',e6,e7,e8,e9⟩
     .exact .inl h
     exact .inr ⟨t,xs,b,cap,cs,vs,e1,e2,e3,e4,e5,e5',Nat.le_trans (by cases f<;>cases f'<;>simp[lof,leB]at hf⊢) e6,e7,e8,λi j x c hx hc=>RC.lower (e9 i j x c hx hc) hf⟩
    .cases h
   |_=>simp[Id]at h
  |_=>simp[Id]at h
theorem uL(htt:ac P tt)(hx:ja B IoB F0 e (λn=>a.tmps.getD n undef) w F ow)(hown:∀s i b,ow s i=some b->b∈IoB->i=none/\a.tmps.getD s undef=.pointer (some ⟨b,0,none⟩)){rv:ResultVar}(hd:Vb (ye tt e rv)=true)(hnd:Ya (ye tt e rv)=false) :
  ∃v o,(tf a.tmps rv).run P w=.ok v w/\VR F B w o (ye tt e rv) v/\(∀i b,o i=some b->b<w.heap.size/\(B<=b\/(b∈IoB/\i=none/\v=.pointer (some ⟨b,0,none⟩))))/\(∀i i' b,o i=some b->o i'=some b->i=i'):=by
 have hbd:∀s i b,ow s i=some b->b<w.heap.size/\(B<=b\/(b∈IoB/\i=none/\a.tmps.getD s undef=.pointer (some ⟨b,0,none⟩))):=λs i b h=>⟨(hx.bd s i b h).1,(hx.bd s i b h).2.imp_right λhm=>⟨hm,hown s i b h hm⟩⟩;cases rv with
 |tmp t=>
  have hsr:=hx.sr t;have hfl:Vb (ba e t)=true:=hd;rw[ld hfl]at hsr;exact⟨a.tmps.getD t undef,ow t,rfl,hsr,λi b h=>hbd _ _ _ h,λi i' b h h'=>(hx.inj _ _ _ _ _ h h').2⟩
 |cell ad ty=>
  simp only[ye]at hd hnd⊢;cases hlk:lk tt ty with
  |none=>rw[hlk]at hnd;simp[Ya]at hnd
  |some d=>
   have hdd:=htt.td _ _ hlk;rw[hlk]at hd hnd;cases hg:ba e ad with
   |box cs=>
    rw[hg]at hd hnd;simp only[]at hd hnd⊢;obtain⟨b,vs,q1,q2,q3,q4,q5,q6⟩:=hx.box hg;have q1:a.tmps.getD ad undef=.pointer (some ⟨b,0,none⟩):=q1
    have hrun:∀ {v:Value},(loadVar ty ⟨b,0,none⟩).run P w=.ok v w->(tf a.tmps (.cell ad ty)).run P w=.ok v w:=by
     intro v h;simp only[tf,q1,asAddr,Sem.run_bind,Sem.run_pure,Result.andThen_ok,h]
    cases hag:isAgg d with
    |false=>
     rw[hag]at hd hnd
     match cs,q5,q6 with
     |[(k,c)],q5,q6=>
      match vs,q5 with
      |[u],_=>
       have hbx:=q6 0 (k,c) u rfl rfl;have hcell:w.cell? ⟨b,0,none⟩=some u:=by rw[q3.cell];rfl
       refine⟨u,λi=>match i with|none=>ow ad (some 0)|some _=>none,hrun ?_,?_,λi b' h=>?_,λi i' b' h h'=>?_⟩
       ·have hl:=il hdd hag (w:=w) hcell;simpa [Instr.loadAt,Instr.sureAddr] using hl
       ·cases k with
        |sh=>exact hbx
        |fr=>exact hbx
        |acc f=>exact hbx
        |own f=>exact hbx.elim
       ·cases i with
        |none=>have:=hbd _ _ _ h;exact⟨this.1,this.2.imp_right (λh=>by cases h.2.1)⟩
        |some i=>cases h
       .cases i<;>cases i'<;>simp at h h'⊢
     |[],q5,q6=>simp[Ya]at hnd
     |_::_::_,q5,q6=>simp[Ya]at hnd
    |true=>
     rw[hag]at hd hnd;simp only[]at hd hnd⊢;cases hbr:cd cs with
     |none=>rw[hbr]at hnd;simp[Ya]at hnd
     |some q=>
      obtain⟨f,l⟩:=q;cases hsz:Nat.beq cs.length d.size with
      |false=>rw[hbr,hsz]at hnd;simp[Ya]at hnd
      |true=>
       rw[hbr,hsz]at hd hnd;simp only[]at hd hnd⊢;have hl:=gl hdd hag (w:=w) (b:=b) (o:=0) (us:=vs) (q5.trans (Nat.eq_of_beq_eq_true hsz)) (λj u hu=>by rw[Nat.zero_add,q3.cell];exact hu);refine⟨.agg vs.toArray,λ_=>none,hrun ?_,⟨vs,rfl,?_⟩,λi b' h=>by simp at h,λi i' b' h h'=>by simp at h⟩
       .simpa [Instr.loadAt,Instr.sureAddr] using hl
       .exact pB (ow:=λi=>match i with|some p=>ow ad (some p)|none=>none) (p:=0) q5.symm (λj kc u hk hu=>by simpa using q6 j kc u hk hu) hbr
   |_=>rw[hg]at hnd;simp[Ya]at hnd
theorem RX{o:Option Nat->Option Nat}{f:Bool}{av:AV}{p:PV}{v:Value}(h:Oq f av=some p)(hv:VR F B w o av v):PVR F B w p v:=by
 unfold Oq at h;split at h
 ·rename_i k c hk;have h1:=fC hk hv;simp only[Option.some.injEq]at h;subst h
  have hkk:k=frK f:=by
   cases f<;>cases av with
   |v k' c'=>cases k'<;>simp[Id,frK,Wd]at hk<;>(try split at hk)<;>simp_all [frK]
   |_=>simp[Id,frK,Wd]at hk<;>(try split at hk)<;>simp_all
  subst hkk;cases f<;>exact h1
 ·rename_i f' cs hk;have h1:=fC hk hv;simp only[Option.some.injEq]at h;subst h
  have hkk:f'=f:=by
   cases f<;>cases av with
   |agg f2 c'=>cases f2<;>simp[Id,frK,Wd]at hk<;>simp_all
   |v k' c'=>cases k'<;>simp[Id,frK,Wd]at hk<;>(try split at hk)<;>simp_all
   |_=>simp[Id,frK,Wd]at hk
  subst hkk;exact h1
 .cases h
theorem gC{k:K}{b av:AV}(h:Id k b=some av):Vb b=true/\Ya b=false:=by
 cases b with
 |v k c=>exact⟨rfl,rfl⟩
 |agg f c=>exact⟨rfl,rfl⟩
 |_=>cases k<;>simp[Id,Wd]at h
theorem vL(htt:ac P tt)(hx:ja B IoB F0 e (λn=>a.tmps.getD n undef) w F ow)(hown:∀s i b,ow s i=some b->b∈IoB->i=none/\a.tmps.getD s undef=.pointer (some ⟨b,0,none⟩)):∀ {rs:List ResultVar} {l:List (Bool×PT)} {ps:List PV},Bh tt e rs l=some ps ->
  ∃vs:List Value,rs.length=vs.length/\(∀ (j:Nat) (rv:ResultVar) (v:Value),rs[j]? = some rv->vs[j]? = some v->(tf a.tmps rv).run P w=.ok v w)/\fd F B w ps vs
 |[],[],ps,h=>by simp only[Bh,Option.some.injEq]at h;subst h;exact⟨[],rfl,λj rv v h=>by simp at h,.nil⟩
 |[],_::_,ps,h=>by simp[Bh]at h
 |_::_,[],ps,h=>by simp[Bh]at h
 |rv::rs,(f,pt)::l,ps,h=>by
  simp only[Bh]at h;split at h
  ·rename_i p ps' hp hps;simp only[Option.some.injEq]at h;subst h
   have hlv:Vb (ye tt e rv)=true/\Ya (ye tt e rv)=false:=by
    unfold Oq at hp;split at hp
    .rename_i hk;exact gC hk
    .rename_i hk;exact gC hk
    .cases hp
   obtain⟨v,o,h1,h2,_,_⟩:=uL htt hx hown hlv.1 hlv.2;obtain⟨vs,g1,g2,g3⟩:=vL htt hx hown hps;refine⟨v::vs,by simp[g1],λj rv' v' hr hv=>?_,.cons (RX hp h2) g3⟩;cases j with
   |zero=>simp at hr hv;subst hr;subst hv;exact h1
   |succ j=>exact g2 j rv' v' (by simpa using hr) (by simpa using hv)
  .cases h
def Ch:RT->Bool
 |.rdr=>true
 |_=>false
theorem SX{o:Option Nat->Option Nat}{k:K}{c:C}{v:Value}(h:VR F B w o (.v k c) v)(p:Option Addr):v≠.pointer p:=by
 have rc:∀ {lo:Nat} {c:C},RC F lo w c v->v≠.pointer p:=λh=>by cases h<;>simp
 cases k with
 |sh=>exact rc h
 |fr=>exact rc h
 |acc f=>exact rc h.1
 |own f=>rcases h with⟨t,e1,e2⟩|⟨t,xs,b,cap,cs,vs,e1,e2,_⟩<;>(rw[e2];simp)
theorem TX{o:Option Nat->Option Nat}{k:K}{av av':AV}{v:Value}(h:Id k av=some av')(hv:VR F B w o av v)(p:Option Addr):v≠.pointer p:=by
 cases av with
 |v k c=>exact SX hv p
 |agg f c=>obtain⟨vs,rfl,_⟩:=hv;simp
 |_=>cases k<;>simp[Id,Wd]at h
theorem UX(htt:ac P tt)(hx:ja B IoB F0 e (λn=>a.tmps.getD n undef) w F ow)(hown:∀s i b,ow s i=some b->b∈IoB->i=none/\a.tmps.getD s undef=.pointer (some ⟨b,0,none⟩)){fn:Func}{rs:List ResultVar}(hrs:fn.results=rs.toArray){rt:RT}(hio:Ch rt=true->IoB=[]){x:rt.T}(h:Hg tt e rs rt=some (rt.av x)) :
  ∃v o,(results fn a.tmps).run P w=.ok v w/\VR F B w o (rt.av x) v/\(∀i b,o i=some b->B<=b/\b<w.heap.size)/\(∀i i' b,o i=some b->o i'=some b->i=i'):=by
 have hone:∀ {rv:ResultVar},rs=[rv]->Vb (ye tt e rv)=true->Ya (ye tt e rv)=false->∃v o,(results fn a.tmps).run P w=.ok v w/\VR F B w o (ye tt e rv) v/\(∀i b,o i=some b->b<w.heap.size/\(B<=b\/(b∈IoB/\i=none/\v=.pointer (some ⟨b,0,none⟩))))/\(∀i i' b,o i=some b->o i'=some b->i=i'):=by
  intro rv hrv hf hd;subst hrv;obtain⟨v,o,h1,h2,h3,h4⟩:=uL htt hx hown hf hd
  have hrun:=eC (P:=P) (w:=w) (tmps:=a.tmps) hrs (vs:=[v]) rfl (λj rv' v' hr hv=>by
   cases j with
   |zero=>simp at hr hv;subst hr;subst hv;exact h1
   |succ j=>simp at hr)
  exact⟨v,o,hrun,h2,h3,h4⟩
 cases rt with
 |one k p=>
  simp only[Hg]at h;split at h
  ·rename_i rv;obtain⟨l1,l2⟩:=gC h;obtain⟨v,o,h1,h2,h3,h4⟩:=hone rfl l1 l2;exact⟨v,o,h1,fC h h2,λi b hb=>⟨(h3 i b hb).2.elim id (λhp=>absurd hp.2.2 (TX h h2 _)),(h3 i b hb).1⟩,h4⟩
  .cases h
 |rdr=>
  simp only[Hg]at h;split at h
  ·rename_i rv;unfold tL at h;split at h
   ·rename_i k b k2 p hr;obtain⟨v,o,h1,h2,h3,h4⟩:=hone rfl (by rw[hr];rfl) (by rw[hr];rfl);rw[hr]at h2;obtain⟨b',vs,e1,e2,e3,e4,e5,e6⟩:=h2;refine⟨v,o,h1,?_,λi b hb=>⟨(h3 i b hb).2.elim id (λhp=>absurd hp.1 (by rw[hio rfl];simp)),(h3 i b hb).1⟩,h4⟩;split at h
    .cases h
    ·simp only[Option.some.injEq]at h;rw[← h];refine⟨b',vs,e1,e2,e3,e4,e5,λj kc u hk hu=>?_⟩
     match j,hk,hu with
     |0,hk,hu=>
      simp only[List.getElem?_cons_zero,Option.some.injEq]at hk;subst hk;have:=e6 0 _ u rfl hu;cases k with
      |sh=>exact this
      |fr=>exact RC.lo0 this
      |acc f=>exact RC.lo0 this.1
      |own f=>exact this.elim
     |1,hk,hu=>
      simp only[List.getElem?_cons_succ,List.getElem?_cons_zero,Option.some.injEq]at hk;subst hk;have:=e6 1 _ u rfl hu
      have hi:∃lo,RC F lo w (.int .i64 p) u:=by
       cases k2 with
       |sh=>exact⟨_,this⟩
       |fr=>exact⟨_,this⟩
       |acc f=>exact⟨_,this.1⟩
       |own f=>exact this.elim
      obtain⟨lo,hi⟩:=hi;cases hi;exact RC.int _ _
     |j+2,hk,hu=>simp at hk
   .cases h
  .cases h
 |tup l=>
  simp only[Hg]at h;split at h
  .cases h
  ·rename_i hne;split at h
   ·rename_i ps hps;simp only[Option.some.injEq]at h;obtain⟨vs,g1,g2,g3⟩:=vL htt hx hown hps;have hrun:=eC (P:=P) (w:=w) (tmps:=a.tmps) hrs g1 g2
    have hvs:dC vs=.tuple vs.toArray:=by
     match vs,g1 with
     |[],_=>rfl
     |[v],g1=>
      match rs,g1 with
      |[r],_=>exact absurd rfl (hne r)
     |_::_::_,_=>rfl
    rw[hvs]at hrun;refine⟨_,λ_=>none,hrun,?_,λi b h=>by simp at h,λi i' b h h'=>by simp at h⟩;rw[← h];exact⟨vs,rfl,g3⟩
   .cases h
end
def Dh(pts:List PT)(x:nb pts)(p:Int)(e:Env):Prop:=
 match Sa pts 0,rdB pts x with
 |some k,some bs=>ba e k=.box [(.sh,.lst .byte bs),(.fr,.int .i64 p)]
 |_,_=>True
theorem Eh:∀ {ps:List PT} {i s:Nat},Sa ps i=some s->∀x:nb ps,∃bs,rdB ps x=some bs
 |[],_,_,h,_=>by cases h
 |.rdr::_,_,_,_,x=>⟨x.1.1,rfl⟩
 |.int _::_,_,_,h,x=>Eh (show Sa _ (_+1)=some _ from h) x.2
 |.bool::_,_,_,h,x=>Eh (show Sa _ (_+1)=some _ from h) x.2
 |.str::_,_,_,h,x=>Eh (show Sa _ (_+1)=some _ from h) x.2
 |.lst _::_,_,_,h,x=>Eh (show Sa _ (_+1)=some _ from h) x.2
 |.st _::_,_,_,h,x=>Eh (show Sa _ (_+1)=some _ from h) x.2
def Ei(tt:TT)(rs:List ResultVar)(s:Spec)(x:nb s.pts)(e:Env):Prop:=Hg tt e rs s.rt=some (s.rt.av (s.val x).1)/\Dh s.pts x (s.val x).2 e
theorem Fi{F:Fz}{w:World}:∀ {ps:List PT} {x:nb ps} {vs:List Value} {io:Option Nat},ve F w ps x vs io->∀b,io=some b->∀o,¬ F b o
 |[],_,_,_,h,b,hb,_=>by rw[h.2]at hb;cases hb
 |.rdr::_,_,_,_,h,b,hb,o=>by obtain⟨b',_,_,_,e,_,_,hf,_⟩:=h;rw[e]at hb;cases hb;exact hf o
 |.int _::_,_,_,_,h,b,hb,o=>by obtain⟨_,_,_,_,h⟩:=h;exact Fi h b hb o
 |.bool::_,_,_,_,h,b,hb,o=>by obtain⟨_,_,_,_,h⟩:=h;exact Fi h b hb o
 |.str::_,_,_,_,h,b,hb,o=>by obtain⟨_,_,_,_,h⟩:=h;exact Fi h b hb o
 |.lst _::_,_,_,_,h,b,hb,o=>by obtain⟨_,_,_,_,h⟩:=h;exact Fi h b hb o
 |.st _::_,_,_,_,h,b,hb,o=>by obtain⟨_,_,_,_,h⟩:=h;exact Fi h b hb o
theorem wL{P:Program}{tt:TT}(ks:List Nat)(htt:ac P tt){f:Nat}{s:Spec}{fn:Func}{c:Code}(hf:P.funcs[f]? = some fn)(hname:(fn.name == "runtime.NumGoroutine")=false)(hc:fn.body=some c){rs:List ResultVar}(hrs:fn.results=rs.toArray)
  (hlen:Nat.ble s.pts.length fn.ntmps=true) (hno:Ch s.rt=true->Sa s.pts 0=none)
  (h:∀x:nb s.pts,s.pre x->∀fr:Fr,fr.B=fr.W0.heap.size->Live fr.F0 fr.W0->(Sa s.pts 0=none->fr.IoB=[])->∀vs io,ve fr.F0 fr.W0 s.pts x vs io->Ht P ⟨fn.ntmps,Sa s.pts 0,ks.map λn=>(n,vs.getD n undef)⟩ fr c (Qb s.pts x 0) (Ei tt rs s x) (Ei tt rs s x) (λ_ _=>False)):Con P f s:=by
 refine⟨⟨fn,hf,hname,by rw[hc];rfl⟩,λx hp w F vs io hl hargs=>?_⟩;obtain⟨t1,t2,t3,t4⟩:=Ah 0 hargs;have hvl:vs.length<=fn.ntmps:=by rw[t1];exact Nat.le_of_ble_eq_true hlen
 refine calls_of_wp hf hc ?_
 have hget:∀n,((vs.toArray++Array.replicate (fn.ntmps - vs.toArray.size) undef).getD n undef)=vs.getD n undef:=by
  intro n;rw[Array.getD_eq_getD_getElem?,List.getD_eq_getElem?_getD];by_cases hn:n<vs.length
  .rw[Array.getElem?_append_left (by simpa using hn)];simp
  ·rw[Array.getElem?_append_right (by simpa using Nat.le_of_not_lt hn),List.getElem?_eq_none (by omega)];by_cases h2:n - vs.length<fn.ntmps - vs.length
   .simp[h2]
   .simp[h2]
 have hrow:∀s' i b,Je (Sa s.pts 0) io s' i=some b->i=none/\Sa s.pts 0=some s'/\io=some b:=by
  intro s' i b hb;cases i with
  |some i=>simp[Je]at hb
  |none=>
   simp only[Je]at hb;split at hb
   ·rename_i s2 hs2;split at hb
    ·rename_i hbq;exact⟨rfl,by rw[hs2,Nat.eq_of_beq_eq_true hbq],hb⟩
    .cases hb
   .cases hb
 have hfio:∀b o,F b o->b ∉ io.toList:=λb o hF hb=>by
  have hb:io=some b:=by cases io<;>simp at hb⊢;exact hb.symm
  exact Fi hargs b hb o hF
 have hsim:Sim ⟨fn.ntmps,Sa s.pts 0,ks.map λn=>(n,vs.getD n undef)⟩ w.heap.size io.toList w F (Qb s.pts x 0) { tmps:=vs.toArray++Array.replicate (fn.ntmps - vs.toArray.size) undef,defers:=[] } w:=by
  refine⟨rfl,⟨by simp;omega,λs' hs' b hb=>?_,(λp hp=>by obtain⟨n,_,rfl⟩:=List.mem_map.mp hp;exact hget n)⟩,Nat.le_refl _,(λb o h=>⟨hl.lt h,hfio b o h⟩),Kept.refl _ _ _,F,Je (Sa s.pts 0) io,⟨λ_ _ h=>h,λ_ _ h=>.inl h,hl,λs1 i s2 i' b h h'=>?_,λs1 i b h=>?_,λn=>?_⟩⟩
  ·have hb:io=some b:=by cases io<;>simp at hb⊢;exact hb.symm
   obtain⟨s2,h1,h2,h3,h4,_⟩:=t2 b hb;have hs':Sa s.pts 0=some s':=hs';rw[h1]at hs';cases hs';simp only[hget];rw[Nat.sub_zero]at h4;rw[List.getD_eq_getElem?_getD,h4];rfl
  ·obtain⟨a1,a2,_⟩:=hrow _ _ _ h;obtain⟨b1,b2,_⟩:=hrow _ _ _ h';rw[a2]at b2;cases b2;exact⟨rfl,by rw[a1,b1]⟩
  ·obtain⟨a1,a2,a3⟩:=hrow _ _ _ h;obtain⟨s2,h1,h2,h3,h4,h5⟩:=t2 b a3;rw[a2]at h1;cases h1;exact⟨h5,.inr (by rw[a3];simp)⟩
  ·rcases t4 n with h|⟨_,h2,v,h3,h4⟩
   .rw[h];trivial
   ·rw[ld h2];simp only[hget];rw[Nat.sub_zero]at h3;rw[List.getD_eq_getElem?_getD,h3];exact h4
 refine wp_mono (h x hp ⟨w.heap.size,io.toList,w,F⟩ rfl hl (λhn=>by
  cases io with
  |none=>rfl
  |some b=>obtain⟨s2,q1,_⟩:=t2 b rfl;rw[hn]at q1;cases q1) vs io hargs _ _ hsim) ?_
 rintro ex a w' ⟨e',hs',hpost⟩
 have hfin:Ei tt rs s x e'->a.defers=[]/\∃v,(results fn a.tmps).run P w'=.ok v w'/\QK s x F w io (.returned v) w':=by
  rintro⟨hr,hri⟩;obtain⟨F',ow',hx⟩:=hs'.rep
  have hio1:∀b,io=some b->∃s2,Sa s.pts 0=some s2/\ow' s2 none=some b/\a.tmps.getD s2 undef=.pointer (some ⟨b,0,none⟩):=λb hb=>by
   obtain⟨s2,q1,_⟩:=t2 b hb;obtain⟨bs,hbs⟩:=Eh q1 x
   have hri:ba e' s2=.box [(.sh,.lst .byte bs),(.fr,.int .i64 (s.val x).2)]:=by
    unfold Dh at hri;rw[q1,hbs]at hri;exact hri
   obtain⟨b',us,e1,e2,_⟩:=hx.box hri;have hp:=hs'.tmps.rd s2 q1 b (by rw[hb];simp);have e1:a.tmps.getD s2 undef=.pointer (some ⟨b',0,none⟩):=e1;have hbb:b'=b:=by rw[hp]at e1;simpa using e1.symm
   exact⟨s2,q1,by rw[← hbb];exact e2,hp⟩
  have hown:∀s1 i b,ow' s1 i=some b->b∈io.toList->i=none/\a.tmps.getD s1 undef=.pointer (some ⟨b,0,none⟩):=λs1 i b h1 hb=>by
   obtain⟨s2,_,q2,q3⟩:=hio1 b (by cases io<;>simp at hb⊢;exact hb.symm);obtain⟨rfl,rfl⟩:=hx.inj _ _ _ _ _ h1 q2;exact⟨rfl,q3⟩
  obtain⟨v,o,h1,h2,h3,h4⟩:=UX htt hx hown hrs (λhr=>by
   cases io with
   |none=>rfl
   |some b=>obtain⟨s2,q1,_⟩:=t2 b rfl;rw[hno hr]at q1;cases q1) hr
  have hnew:∀b o,F' b o->F b o\/w.heap.size<=b:=λb o h=>by
   rcases hx.new b o h with h1|h1|hm
   .exact .inl h1
   .exact .inr h1
   ·cases io with
    |none=>simp at hm
    |some b2=>
     simp at hm;subst hm;obtain⟨s2,q1,q2,_⟩:=hio1 b rfl;obtain⟨bs,hbs⟩:=Eh q1 x
     have hri:ba e' s2=.box [(.sh,.lst .byte bs),(.fr,.int .i64 (s.val x).2)]:=by
      unfold Dh at hri;rw[q1,hbs]at hri;exact hri
     obtain⟨b',us,_,e2,_,e4,_⟩:=hx.box hri;rw[q2]at e2;cases e2;exact absurd h (e4 o)
  refine⟨hs'.defers,v,h1,v,F',o,rfl,⟨hs'.kept.os,hs'.kept.tape,hs'.kept.output,hs'.kept.size,λk hk hne=>hs'.kept.block k hk (λhm=>hne ?_),hx.sub,hnew,hx.live⟩,h3,h4,h2,λb bs hb hbs=>?_⟩
  ·cases io with
   |none=>simp at hm
   |some b=>simp at hm;rw[hm]
  ·subst hb;obtain⟨s2,q1,_⟩:=t2 b rfl
   have hri:ba e' s2=.box [(.sh,.lst .byte bs),(.fr,.int .i64 (s.val x).2)]:=by
    unfold Dh at hri;rw[q1,hbs]at hri;exact hri
   obtain⟨b',us,e1,e2,e3,e4,e5,e6⟩:=hx.box hri;have hp:=hs'.tmps.rd s2 q1 b (by simp);have e1:a.tmps.getD s2 undef=.pointer (some ⟨b',0,none⟩):=e1;rw[hp]at e1;have hbb:b'=b:=by simpa using e1.symm
   subst hbb
   match us,e5 with
   |[sl,u],_=>
    have g0:=e6 0 (.sh,.lst .byte bs) sl rfl rfl;have g1:RC F' w.heap.size w' (.int .i64 (s.val x).2) u:=e6 1 (.fr,.int .i64 (s.val x).2) u rfl rfl;cases g1;exact⟨sl,e3,g0⟩
 cases ex with
 |normal=>exact hfin hpost
 |ret=>exact hfin hpost
 |exit i=>exact hpost.elim
 |_=>exact hpost.elim
theorem Gi{P:Program}{tt:TT}(htt:ac P tt){f:Nat}{s:Spec}{fn:Func}{c:Code}(hf:P.funcs[f]? = some fn)(hname:(fn.name == "runtime.NumGoroutine")=false)(hc:fn.body=some c){rs:List ResultVar}(hrs:fn.results=rs.toArray)
  (hlen:Nat.ble s.pts.length fn.ntmps=true) (hno:Ch s.rt=true->Sa s.pts 0=none)
  (h:∀x:nb s.pts,s.pre x->∀fr:Fr,fr.B=fr.W0.heap.size->Live fr.F0 fr.W0->(Sa s.pts 0=none->fr.IoB=[])->Ht P ⟨fn.ntmps,Sa s.pts 0,[]⟩ fr c (Qb s.pts x 0) (Ei tt rs s x) (Ei tt rs s x) (λ_ _=>False)):Con P f s:=by
 exact wL [] htt hf hname hc hrs hlen hno λx hp fr h1 h2 h3 _ _ _=>h x hp fr h1 h2 h3
end Go.Proofs.YthfkpijcajdnhaaGreat

namespace Go.Proofs.YthfkpijcajdnhaaGreat
open Go
def nav:Code->List Nat->Code
 |c,[]=>c
 |.seq a _,0::r=>nav a r
 |.seq _ b,_::r=>nav b r
 |.cond _ a _,0::r=>nav a r
 |.cond _ _ b,_::r=>nav b r
 |.block _ a,_::r=>nav a r
 |.loop a,_::r=>nav a r
 |c,_=>c
def Jd(f:Func):Code:=
 match f.body with
 |some c=>c
 |none=>.skip
inductive Oc(A R X Y Z:Type) where
 |n (a:A)
 |r (q:R)
 |x (q:X)
 |y (q:Y)
 |z (q:Z)
instance {A R X Y Z:Type} [Inhabited R]:Inhabited (Oc A R X Y Z):=⟨.r default⟩
instance:Inhabited Time:=⟨⟨0,0⟩⟩
instance:Inhabited Row:=⟨⟨0,0,⟨0,0⟩,0⟩⟩
instance:Inhabited Item:=⟨⟨0,0,0⟩⟩
instance:Inhabited Plan:=⟨⟨0,0,[]⟩⟩
instance:Inhabited GA:=⟨⟨⟨0,0,[]⟩,[],[],[]⟩⟩
def ocR{R:Type}:Oc Empty R Empty Empty Empty->R
 |.r q=>q
 |.n q=>q.elim
 |.x q=>q.elim
 |.y q=>q.elim
 |.z q=>q.elim
def ca{A R X Y Z:Type}:Oc A R X Y Z->Lp A (Oc Empty R X Y Z)
 |.n a=>.go a
 |.r q=>.out (.r q)
 |.x q=>.out (.x q)
 |.y q=>.out (.y q)
 |.z q=>.out (.z q)
def ma(e e':Env):Prop:=∀ (N:NP) (B:Nat) (IoB:List Nat) (W0:World) (F0:Fz) (a:Act) (w:World),Sim N B IoB W0 F0 e a w->Sim N B IoB W0 F0 e' a w
theorem ma.trans{e e' e'':Env}(h:ma e e')(h':ma e' e''):ma e e'':=λN B IoB W0 F0 a w hs=>h' N B IoB W0 F0 a w (h N B IoB W0 F0 a w hs)
theorem ma.refl(e:Env):ma e e:=λ_ _ _ _ _ _ _ h=>h
theorem ma.cast{e e':Env}{pat:List (Nat×Tk)}(hf:xe e=true)(h:Fg e pat=some e'):ma e e':=λ_ _ _ _ _ _ _ hs=>by
 obtain⟨F,ow,hx⟩:=hs.rep;exact⟨hs.defers,hs.tmps,hs.base,hs.f0,hs.kept,F,ow,hx.cast (Qf hf) h⟩
theorem ma.freeze(e:Env)(s:Nat):ma e (xh e s):=λ_ _ _ _ _ _ _ hs=>by
 obtain⟨F,ow,hx⟩:=hs.rep;obtain⟨F',ow',hx'⟩:=hx.freeze (Nat.le_trans hs.base hs.kept.size) s;exact⟨hs.defers,hs.tmps,hs.base,hs.f0,hs.kept,F',ow',hx'⟩
section
variable {P:Program} {tt:TT} {N:NP} {fr:Fr} {c:Code} {e:Env} {n r:Env->Prop} {x:Nat->Env->Prop}
theorem Ht.weak{e':Env}(h:ma e e')(hc:Ht P N fr c e' n r x):Ht P N fr c e n r x:=λa w hs=>hc a w (h _ _ _ _ _ _ _ hs)
theorem Ht.loopOc{A R X Y Z:Type}[Inhabited R]{c1:Code}(hc:c=.loop c1)(I:A->Env)(B:A->Oc A R X Y Z){ob:A->Prop}{s0:A}(hT:LpT (λs=>ca (B s)) ob s0)
  {RP:R->Env->Prop} {XP:Nat->X->Env->Prop} {YP:Nat->Y->Env->Prop} {ZP:Nat->Z->Env->Prop}
  (hround:∀s,ob s->Ht P N fr c1 (I s) (λe=>∃s',B s=.n s'/\ma e (I s')) (λe=>∃q,B s=.r q/\RP q e)
    (λi e=>(∃q,B s=.x q/\XP i q e)\/(∃q,B s=.y q/\YP i q e)\/∃q,B s=.z q/\ZP i q e))
  (hr:∀q e,lpV (λs=>ca (B s)) s0=.r q->RP q e->r e) (hx:∀i q e,lpV (λs=>ca (B s)) s0=.x q->XP i q e->x i e)
  (hy:∀i q e,lpV (λs=>ca (B s)) s0=.y q->YP i q e->x i e) (hz:∀i q e,lpV (λs=>ca (B s)) s0=.z q->ZP i q e->x i e):Ht P N fr c (I s0) n r x:=by
 subst hc;intro a w hs;obtain⟨k0,hk0⟩:=hT.count;refine oe (σ:=Nat×A) (λks a w=>LpN (λs=>ca (B s)) ob ks.1 ks.2/\(∀q,LpR (λs=>ca (B s)) ks.2 q->LpR (λs=>ca (B s)) s0 q)/\Sim N fr.B fr.IoB fr.W0 fr.F0 (I ks.2) a w) (·.1) ?_ (k0,s0) ⟨hk0,λ_ h=>h,hs⟩;rintro⟨k,s⟩ a w ⟨hk,hq,hsim⟩;have hk:LpN (λs=>ca (B s)) ob k s:=hk;have ho:ob s:=by cases hk<;>assumption
 refine wp_mono (hround s ho a w hsim) ?_;rintro ex a w ⟨e',hs',hp⟩;cases ex with
 |normal=>
  obtain⟨s',hst,hw⟩:=hp;have hst':ca (B s)=.go s':=by rw[hst];rfl
  cases hk with
  |out _ h=>have h:ca (B s)=_:=h;rw[hst']at h;cases h
  |go _ h hk'=>
   have h:ca (B s)=_:=h;rw[hst']at h;cases h;exact⟨(_,s'),Nat.lt_succ_self _,hk',λq h=>hq q (.go hst' h),hw _ _ _ _ _ _ _ hs'⟩
 |ret=>
  obtain⟨q,hst,h⟩:=hp;exact⟨e',hs',hr q e' (hq _ (.out (by show ca (B s)=_;rw[hst];rfl))).val h⟩
 |exit i=>
  refine⟨e',hs',?_⟩;rcases hp with⟨q,hst,h⟩|⟨q,hst,h⟩|⟨q,hst,h⟩
  .exact hx i q e' (hq _ (.out (by show ca (B s)=_;rw[hst];rfl))).val h
  .exact hy i q e' (hq _ (.out (by show ca (B s)=_;rw[hst];rfl))).val h
  .exact hz i q e' (hq _ (.out (by show ca (B s)=_;rw[hst];rfl))).val h
 |_=>exact hp.elim
end
end Go.Proofs.YthfkpijcajdnhaaGreat

namespace Go.Proofs.YthfkpijcajdnhaaGreat
open Go
abbrev AV.S(t:Ty)(x:List t.T):AV:=.v .sh (.lst t x)
abbrev AV.A(t:Ty)(x:List t.T):AV:=.v (.acc true) (.lst t x)
abbrev AV.I(n:Int):AV:=.v .fr (.int .i64 n)
abbrev AV.O(b:Bool):AV:=.v .fr (.bool b)
abbrev C.i(n:Int):C:=.int .i64 n
abbrev RV:=Option AV×AV
structure Fnn where
 rs:List ResultVar
 rt:RT
 rd:Option Nat
 fz:List Nat
structure da(R A X Y Z:Type) where
 o:Oc A R X Y Z
 ob:Prop
 path:List Nat
 env:Env
 rv:R->RV
 pn:A->Env
 px:X->Nat×Env
 py:Y->Nat×Env
 pz:Z->Nat×Env
class Dft (A:Type) where
 d:Option A
 h:d=none->A->False
instance:Dft Empty:=⟨none,λ_=>Empty.elim⟩
instance (priority:=low) {A:Type} [Inhabited A]:Dft A:=⟨some default,λh=>by cases h⟩
structure BC(R:Type):Type 1 where
 {A:Type}
 {X:Type}
 {Y:Type}
 {Z:Type}
 [dA:Dft A]
 [dX:Dft X]
 [dY:Dft Y]
 [dZ:Dft Z]
 S:da R A X Y Z
def Ka{R A X Y Z:Type}(o:Oc A R X Y Z)(ob:Prop)(path:List Nat)(I:A->Env)(s:A)(rv:R->RV)(px:X->Nat×Env)(py:Y->Nat×Env)(pz:Z->Nat×Env):da R A X Y Z:=⟨o,ob,path,I s,rv,I,px,py,pz⟩
abbrev LI:=List Item
abbrev LR:=List Row
abbrev LB:=List Int
abbrev LP:=List Plan
@[simp] theorem cah {p:Empty->Prop}:(∀q:Empty,p q)↔True:=⟨λ_=>trivial,λ_ q=>q.elim⟩
abbrev nE{α:Sort _}:Empty->α:=Empty.elim
inductive Tr(R A X Y Z:Type):Type 1 where
 |l (o:Oc A R X Y Z)
 |w (ps:List Prop) (t:Tr R A X Y Z)
 |c (b:Bool) (t f:Tr R A X Y Z)
 |k {α:Type} (a:α) (f:α->Tr R A X Y Z)
 |s {A' X' Y' Z':Type} [Dft A'] [Dft X'] [Dft Y'] [Dft Z'] (S:da R A' X' Y' Z') (n:A'->Tr R A X Y Z) (x:X'->Tr R A X Y Z) (y:Y'->Tr R A X Y Z) (z:Z'->Tr R A X Y Z)
inductive TrE(R:Type):Type 1 where
 |n (e:Env)
 |r (v:RV)
 |x (i:Nat) (e:Env)
 |w (ps:List Prop) (t:TrE R)
 |c (b:Bool) (t f:TrE R)
 |s {A X Y Z:Type} (S:da R A X Y Z) (g:Option Env) (rv:R->RV) (n:A->TrE R) (x:X->TrE R) (y:Y->TrE R) (z:Z->TrE R)
 |bad
def lf{R A:Type}[Dft A](f:A->TrE R):A->TrE R:=match (Dft.d:Option A) with
 |some _=>f
 |none=>λ_=>.bad
section
variable {R A X Y Z:Type}
def Tr.val:Tr R A X Y Z->Oc A R X Y Z
 |.l o=>o
 |.w _ t=>t.val
 |.c b t f=>match b with
  |true=>t.val
  |false=>f.val
 |.k a f=>(f a).val
 |@Tr.s _ _ _ _ _ _ _ _ _ _ _ _ _ S n x y z=>match S.o with
  |.n q=>(n q).val
  |.r q=>.r q
  |.x q=>(x q).val
  |.y q=>(y q).val
  |.z q=>(z q).val
def Tr.ob:Tr R A X Y Z->Prop
 |.l _=>True
 |.w ps t=>fa ps/\t.ob
 |.c b t f=>(b=true->t.ob)/\(b=false->f.ob)
 |.k a f=>(f a).ob
 |@Tr.s _ _ _ _ _ _ _ _ _ _ _ _ _ S n x y z=>S.ob/\(∀q,S.o=.n q->(n q).ob)/\(∀q,S.o=.x q->(x q).ob)/\(∀q,S.o=.y q->(y q).ob)/\(∀q,S.o=.z q->(z q).ob)
def Tr.toE(rv:R->RV)(pn:A->Env)(px:X->Nat×Env)(py:Y->Nat×Env)(pz:Z->Nat×Env):Tr R A X Y Z->TrE R
 |.l o=>match o with
  |.n q=>.n (pn q)
  |.r q=>.r (rv q)
  |.x q=>.x (px q).1 (px q).2
  |.y q=>.x (py q).1 (py q).2
  |.z q=>.x (pz q).1 (pz q).2
 |.w ps t=>.w ps (t.toE rv pn px py pz)
 |.c b t f=>.c b (t.toE rv pn px py pz) (f.toE rv pn px py pz)
 |.k a f=>(f a).toE rv pn px py pz
 |@Tr.s _ _ _ _ _ _ _ _ _ dA dX dY dZ S n x y z=>.s S (some S.env) rv (@lf _ _ dA λq=>(n q).toE rv pn px py pz) (@lf _ _ dX λq=>(x q).toE rv pn px py pz) (@lf _ _ dY λq=>(y q).toE rv pn px py pz) (@lf _ _ dZ λq=>(z q).toE rv pn px py pz)
def TrE.H(n:Env->Prop)(r:RV->Prop)(x:Nat->Env->Prop):TrE R->Prop
 |.n e=>n e
 |.r v=>r v
 |.x i e=>x i e
 |.w ps t=>fa ps/\t.H n r x
 |.c b t f=>(b=true->t.H n r x)/\(b=false->f.H n r x)
 |.s S g rv kn kx ky kz=>g=some S.env/\S.ob/\(∀q,S.o=.n q->(kn q).H n r x)/\(∀q,S.o=.r q->r (rv q))/\(∀q,S.o=.x q->(kx q).H n r x)/\(∀q,S.o=.y q->(ky q).H n r x)/\(∀q,S.o=.z q->(kz q).H n r x)
 |.bad=>False
end
def oM:List C->Bool
 |[]=>false
 |.nl _::_=>true
 |_::r=>oM r
def fY:K->Bool
 |.acc _=>true
 |_=>false
def gY:K->Option Bool
 |.acc f=>some f
 |_=>none
def hY:AV->Tk
 |.v _ (.nl _)=>.same
 |.v .sh _=>.sh
 |.v .fr _=>.fr
 |.v (.acc b) _=>.acc b
 |.v (.own b) _=>.own b
 |.agg f cs=>match oM cs with
  |true=>.same
  |false=>match f with
   |true=>.fr
   |false=>.sh
 |.box cs=>match cs.any λkc=>fY kc.1 with
  |true=>.bx (cs.map λkc=>gY kc.1)
  |false=>.same
 |_=>.same
def br:Env->List (Nat×Tk)
 |[]=>[]
 |(n,a)::r=>(n,hY a)::br r
def eqP:List Nat->List Nat->Bool
 |[],[]=>true
 |a::r,b::r'=>Nat.beq a b&&eqP r r'
 |_,_=>false
theorem pM:∀ {a b:List Nat},eqP a b=true->a=b
 |[],[],_=>rfl
 |a::r,b::r',h=>by
  simp only[eqP,Bool.and_eq_true]at h;rw[Nat.eq_of_beq_eq_true h.1,pM h.2]
 |[],_::_,h=>by cases h
 |_::_,[],h=>by cases h
abbrev Ih(R:Type):=List (List Nat×(Env->BC R))
def dr{R:Type}(e:Env):Ih R->List Nat->Option (BC R)
 |[],_=>none
 |(p',S)::l,p=>match eqP p' p with
  |true=>some (S e)
  |false=>dr e l p
def asc{α:Type}:List (Nat×α)->Nat->Option α
 |[],_=>none
 |(i,a)::l,n=>match Nat.beq i n with
  |true=>some a
  |false=>asc l n
def iY(kp:List (Nat×List Nat))(n:Nat):List Nat:=match asc kp n with
 |some l=>l
 |none=>[]
def Hb(C:Code):List Nat->Code
 |[]=>C
 |i::p=>nav (Hb C p) [i]
def cellAt(e:Env)(n j:Nat):Option C:=match ba e n with
 |.v _ c=>some c
 |.agg _ cs=>cs[j]?
 |.box cs=>(cs[j]?).map (·.2)
 |_=>none
def gI(e:Env)(n j:Nat):Int:=match cellAt e n j with
 |some (.int _ x)=>x
 |_=>0
def gB(e:Env)(n j:Nat):Bool:=match cellAt e n j with
 |some (.bool x)=>x
 |_=>false
def gS(e:Env)(n j:Nat):ByteArray:=match cellAt e n j with
 |some (.str x)=>x
 |_=>ByteArray.empty
def gL(t:Ty)(e:Env)(n j:Nat):List t.T:=match cellAt e n j with
 |some (.lst u xs)=>match ti t u xs with
  |some ys=>ys
  |none=>[]
 |_=>[]
def Kd(e:Env)(n:Nat):Time:=⟨gI e n 0,gI e n 1⟩
def dah(e:Env)(n:Nat):Item:=⟨gI e n 0,gI e n 1,gI e n 2⟩
def gRow(e:Env)(n:Nat):Row:=⟨gI e n 0,gI e n 1,⟨gI e n 2,gI e n 3⟩,gI e n 4⟩
section
variable (tt:TT) (sp:SP) (N:NP) (F:Fnn) (kp:List (Nat×List Nat)) (tb:List (Nat×Nat)) (af:List (Nat×Bool×Nat)) {R:Type} (subs:Ih R)
def Uf(e:Env):RV:=(Hg tt e F.rs F.rt,match F.rd with
 |some s=>ba e s
 |none=>.dead)
def frzs:List Nat->Env->Env
 |[],e=>e
 |s::l,e=>frzs l (xh e s)
def mkq(ps:List Prop)(t:TrE R):TrE R:=match ps with
 |[]=>t
 |p::r=>.w (p::r) t
def aft(id:Nat)(e:Env)(kn:Env->TrE R):TrE R:=match asc af id with
 |none=>kn e
 |some (true,s)=>match zh e s with
  |some e'=>kn e'
  |none=>.bad
 |some (false,s)=>kn (xh e s)
def bef(id:Nat)(e:Env):Option Env:=match asc tb id with
 |none=>some e
 |some s=>zh e s
def CC(id:Nat)(c:Code)(e:Env)(kn:Env->TrE R):TrE R:=match bef tb id e with
 |none=>.bad
 |some e0=>match regC tt sp N (iY kp id) c e0 with
  |some (e1,ps)=>mkq ps (aft af id e1 kn)
  |none=>.bad
def Dl(e:Env)(pat:List (Nat×Tk)):Option Env:=match xe e with
 |true=>Fg e pat
 |false=>none
def Jh(p:List Nat)(e:Env)(kn:Env->TrE R)(kx:Nat->Env->TrE R)(t:TrE R):TrE R:=match dr e subs p with
 |some E=>.s E.S (Dl e (br E.S.env)) E.S.rv (@lf R E.A E.dA λq=>kn (E.S.pn q)) (@lf R E.X E.dX λq=>kx (E.S.px q).1 (E.S.px q).2) (@lf R E.Y E.dY λq=>kx (E.S.py q).1 (E.S.py q).2) (@lf R E.Z E.dZ λq=>kx (E.S.pz q).1 (E.S.pz q).2)
 |none=>t
def runT:Code->List Nat->Env->(Env->TrE R)->(Nat->Env->TrE R)->TrE R
 |.region id ops d,p,e,kn,kx=>Jh subs p e kn kx (CC tt sp N kp tb af id (.region id ops d) e kn)
 |.skip,_,e,kn,_=>kn e
 |.exit i,_,e,_,kx=>kx i e
 |.ret,_,e,_,_=>.r (Uf tt F (frzs F.fz e))
 |.seq a b,p,e,kn,kx=>Jh subs p e kn kx (runT a (0::p) e (λe'=>runT b (1::p) e' kn kx) kx)
 |.cond o a b,p,e,kn,kx=>Jh subs p e kn kx (match readB e o with
  |some v=>.c v (runT a (0::p) e kn kx) (runT b (1::p) e kn kx)
  |none=>.bad)
 |.block id a,p,e,kn,kx=>Jh subs p e kn kx (runT a (0::p) e kn (λi e'=>match Nat.beq i id with
  |true=>kn e'
  |false=>kx i e'))
 |.loop _,p,e,kn,kx=>Jh subs p e kn kx .bad
 |_,_,_,_,_=>.bad
def kn0{A:Type}[Dft A](pn:A->Env)(e:Env):TrE R:=match (Dft.d:Option A) with
 |some d=>match Dl e (br (pn d)) with
  |some e'=>.n e'
  |none=>.bad
 |none=>.bad
def kxs{X:Type}[Dft X](px:X->Nat×Env)(i:Nat)(e:Env)(k:TrE R):TrE R:=match (Dft.d:Option X) with
 |some d=>match Nat.beq i (px d).1 with
  |true=>match Dl e (br (px d).2) with
   |some e'=>.x i e'
   |none=>.bad
  |false=>k
 |none=>k
def kx0{X Y Z:Type}[Dft X][Dft Y][Dft Z](px:X->Nat×Env)(py:Y->Nat×Env)(pz:Z->Nat×Env)(i:Nat)(e:Env):TrE R:=kxs px i e (kxs py i e (kxs pz i e .bad))
end
def Wk(n:Env->Prop)(e:Env):Prop:=∃e',ma e e'/\n e'
theorem DC{e e':Env}{pat:List (Nat×Tk)}(h:Dl e pat=some e'):ma e e':=by
 unfold Dl at h;split at h
 .rename_i hf;exact ma.cast hf h
 .cases h
def pe(P:Program)(tt:TT)(N:NP)(fr:Fr)(C:Code)(F:Fnn){R A X Y Z:Type}(S:da R A X Y Z):Prop:=S.ob->Ht P N fr (Hb C S.path) S.env (λe=>∃q,S.o=.n q/\ma e (S.pn q)) (λe=>∃q,S.o=.r q/\Uf tt F e=S.rv q)
  (λi e=>(∃q,S.o=.x q/\(S.px q).1=i/\ma e (S.px q).2)\/(∃q,S.o=.y q/\(S.py q).1=i/\ma e (S.py q).2)\/∃q,S.o=.z q/\(S.pz q).1=i/\ma e (S.pz q).2)
def Li(P:Program)(tt:TT)(N:NP)(fr:Fr)(C:Code)(F:Fnn){R:Type}:Ih R->Prop
 |[]=>True
 |(p,S)::l=>(∀e,(S e).S.path=p/\pe P tt N fr C F (S e).S)/\Li P tt N fr C F l
section
variable {P:Program} {tt:TT} {sp:SP} {N:NP} {F:Fnn} {kp:List (Nat×List Nat)} {tb:List (Nat×Nat)} {af:List (Nat×Bool×Nat)} {R:Type} {subs:Ih R} {fr:Fr} {C:Code} {n:Env->Prop} {r:RV->Prop} {x:Nat->Env->Prop}
theorem Ht.frzs:∀ {l:List Nat} {c:Code} {e:Env} {n r:Env->Prop} {x:Nat->Env->Prop},Ht P N fr c (frzs l e) n r x->Ht P N fr c e n r x
 |[],_,_,_,_,_,h=>h
 |s::_,_,_,_,_,_,h=>Ht.freeze s (Ht.frzs h)
theorem qM{e:Env}:∀ {subs:Ih R} {p:List Nat} {S:BC R},Li P tt N fr C F subs->dr e subs p=some S->S.S.path=p/\pe P tt N fr C F S.S
 |[],_,_,_,h=>by cases h
 |(p',S')::l,p,S,hs,h=>by
  simp only[dr]at h;split at h
  ·rename_i hp;simp only[Option.some.injEq]at h;subst h;have:=hs.1 e;exact⟨this.1.trans (pM hp),this.2⟩
  .exact qM hs.2 h
theorem rM{A:Type}[i:Dft A]{f:A->TrE R}{d:A}(h:i.d=some d):lf f=f:=by unfold lf;rw[h]
theorem jY{A:Type}[i:Dft A]{f:A->TrE R}(h:i.d=none):lf f=λ_=>.bad:=by unfold lf;rw[h]
theorem gr{A:Type}[i:Dft A]{f:A->TrE R}{q:A}(h:(lf f q).H n r x):(f q).H n r x:=by
 cases hd:i.d with
 |some d=>rw[rM hd]at h;exact h
 |none=>rw[jY hd]at h;exact h.elim
theorem ir{A:Type}[i:Dft A]{f:A->TrE R}{q:A}(h:(f q).H n r x):(lf f q).H n r x:=by
 cases hd:i.d with
 |some d=>rw[rM hd];exact h
 |none=>exact (i.h hd q).elim
theorem El(hs:Li P tt N fr C F subs){p:List Nat}{e:Env}{kn:Env->TrE R}{kx:Nat->Env->TrE R}{t:TrE R}(h:(Jh subs p e kn kx t).H n r x){c:Code}(hc:Hb C p=c)
  (ht:t.H n r x->Ht P N fr c e (Wk λe'=>(kn e').H n r x) (λe'=>r (Uf tt F e')) (λi=>Wk λe'=>(kx i e').H n r x)) :
  Ht P N fr c e (Wk λe'=>(kn e').H n r x) (λe'=>r (Uf tt F e')) (λi=>Wk λe'=>(kx i e').H n r x):=by
 unfold Jh at h;split at h
 ·rename_i E hS;obtain⟨hp,hok⟩:=qM hs hS;obtain⟨hg,hob,hn,hr,hx,hy,hz⟩:=h;have h1:=hok hob;rw[hp,hc]at h1;refine Ht.weak (DC hg) (h1.mono ?_ ?_ ?_)
  ·rintro e' ⟨q,hq,hw⟩;exact⟨_,hw,@gr _ _ _ _ _ E.dA _ _ (hn q hq)⟩
  ·rintro e' ⟨q,hq,hw⟩;rw[hw];exact hr q hq
  ·rintro i e' (⟨q,hq,rfl,hw⟩|⟨q,hq,rfl,hw⟩|⟨q,hq,rfl,hw⟩)
   .exact⟨_,hw,@gr _ _ _ _ _ E.dX _ _ (hx q hq)⟩
   .exact⟨_,hw,@gr _ _ _ _ _ E.dY _ _ (hy q hq)⟩
   .exact⟨_,hw,@gr _ _ _ _ _ E.dZ _ _ (hz q hq)⟩
 .exact ht h
theorem kY(G:Good P tt sp){id:Nat}{c:Code}{e:Env}{kn:Env->TrE R}(h:(CC tt sp N kp tb af id c e kn).H n r x){r':Env->Prop}{x':Nat->Env->Prop}:Ht P N fr c e (Wk λe'=>(kn e').H n r x) r' x':=by
 unfold CC at h;split at h
 .exact h.elim
 ·rename_i e0 he0
  have key:Ht P N fr c e0 (Wk λe'=>(kn e').H n r x) r' x':=by
   split at h
   ·rename_i e1 ps hreg
    have h2:fa ps/\(aft af id e1 kn).H n r x:=by
     unfold mkq at h;split at h
     .exact⟨trivial,h⟩
     .exact h
    refine Ht.reg G hreg h2.1 ?_;have h3:=h2.2;unfold aft at h3;split at h3
    .exact⟨_,ma.refl _,h3⟩
    ·split at h3
     ·rename_i s _ e' ht;refine⟨e',?_,h3⟩;intro N B IoB W0 F0 a w hs;unfold zh at ht;split at ht
      ·rename_i f t xs hg;split at ht
       ·rename_i hb;simp only[Bool.and_eq_true]at hb;simp only[Option.some.injEq]at ht;subst ht;obtain⟨F,ow,hx⟩:=hs.rep;obtain⟨F',hx'⟩:=hx.thaw hs.f0 hg hb.1 hb.2;exact⟨hs.defers,hs.tmps,hs.base,hs.f0,hs.kept,F',ow,hx'⟩
       .cases ht
      .cases ht
     .exact h3.elim
    .exact⟨_,ma.freeze _ _,h3⟩
   .exact h.elim
  unfold bef at he0;split at he0
  .simp only[Option.some.injEq]at he0;subst he0;exact key
  .exact Ht.thaw _ he0 key
theorem lY(G:Good P tt sp)(hs:Li P tt N fr C F subs):∀ (c:Code) (p:List Nat) (_:Hb C p=c) (e:Env) (kn:Env->TrE R) (kx:Nat->Env->TrE R),(runT tt sp N F kp tb af subs c p e kn kx).H n r x ->
  Ht P N fr c e (Wk λe'=>(kn e').H n r x) (λe'=>r (Uf tt F e')) (λi=>Wk λe'=>(kx i e').H n r x):=by
 intro c
 induction c with
 |region id ops d=>intro p hc e kn kx h;exact El hs h hc λh=>kY G h
 |skip=>intro p _ e kn kx h;exact Ht.skip rfl ⟨e,ma.refl _,h⟩
 |exit i=>intro p _ e kn kx h;exact Ht.exit rfl ⟨e,ma.refl _,h⟩
 |ret=>intro p _ e kn kx h;exact Ht.frzs (Ht.ret rfl h)
 |seq a b iha ihb=>
  intro p hc e kn kx h;refine El hs h hc λh=>?_;have ha:Hb C (0::p)=a:=by show nav (Hb C p) [0]=a;rw[hc];simp[nav]
  have hb:Hb C (1::p)=b:=by show nav (Hb C p) [1]=b;rw[hc];simp[nav]
  exact Ht.seq rfl ((iha _ ha e _ kx h).mono (λe' ⟨e'',hw,h'⟩=>Ht.weak hw (ihb _ hb e'' kn kx h')) (λ_ h=>h) (λ_ _ h=>h))
 |cond o a b iha ihb=>
  intro p hc e kn kx h;refine El hs h hc λh=>?_;have ha:Hb C (0::p)=a:=by show nav (Hb C p) [0]=a;rw[hc];simp[nav]
  have hb:Hb C (1::p)=b:=by show nav (Hb C p) [1]=b;rw[hc];simp[nav]
  split at h
  ·rename_i v hv;exact Ht.cond rfl hv (λht=>iha _ ha e kn kx (h.1 ht)) (λhf=>ihb _ hb e kn kx (h.2 hf))
  .exact h.elim
 |block id a iha=>
  intro p hc e kn kx h;refine El hs h hc λh=>?_;have ha:Hb C (0::p)=a:=by show nav (Hb C p) [0]=a;rw[hc];simp[nav]
  refine Ht.block rfl ((iha _ ha e kn _ h).mono (λ_ h=>h) (λ_ h=>h) (λi e' h=>?_));obtain⟨e'',hw,h⟩:=h;unfold Kq;cases hb:Nat.beq i id<;>rw[hb]at h<;>exact⟨e'',hw,h⟩
 |loop a _=>
  intro p hc e kn kx h;exact El hs h hc λh=>h.elim
 |_=>intro p hc e kn kx h;exact False.elim h
theorem mY{A X Y Z:Type}{rv:R->RV}{pn:A->Env}{px:X->Nat×Env}{py:Y->Nat×Env}{pz:Z->Nat×Env}(t:Tr R A X Y Z):t.ob->(∀q,t.val=.n q->n (pn q))->(∀q,t.val=.r q->r (rv q)) ->
  (∀q,t.val=.x q->x (px q).1 (px q).2)->(∀q,t.val=.y q->x (py q).1 (py q).2)->(∀q,t.val=.z q->x (pz q).1 (pz q).2)->(t.toE rv pn px py pz).H n r x:=by
 induction t with
 |l o=>
  intro _ h1 h2 h3 h4 h5;cases o with
  |n q=>exact h1 q rfl
  |r q=>exact h2 q rfl
  |x q=>exact h3 q rfl
  |y q=>exact h4 q rfl
  |z q=>exact h5 q rfl
 |w ps t ih=>intro h h1 h2 h3 h4 h5;exact⟨h.1,ih h.2 h1 h2 h3 h4 h5⟩
 |c b t f iht ihf=>
  intro h h1 h2 h3 h4 h5;refine⟨λhb=>?_,λhb=>?_⟩<;>subst hb
  .exact iht (h.1 rfl) h1 h2 h3 h4 h5
  .exact ihf (h.2 rfl) h1 h2 h3 h4 h5
 |k a f ih=>exact ih a
 |s S kn kx ky kz ihn ihx ihy ihz=>
  intro h h1 h2 h3 h4 h5;obtain⟨hob,hn,hx,hy,hz⟩:=h;refine⟨rfl,hob,λq hq=>?_,λq hq=>?_,λq hq=>?_,λq hq=>?_,λq hq=>?_⟩
  ·have e:(Tr.s S kn kx ky kz).val=(kn q).val:=by simp only[Tr.val,hq]
   rw[e]at h1 h2 h3 h4 h5;exact ir (ihn q (hn q hq) h1 h2 h3 h4 h5)
  .exact h2 q (by simp only[Tr.val,hq])
  ·have e:(Tr.s S kn kx ky kz).val=(kx q).val:=by simp only[Tr.val,hq]
   rw[e]at h1 h2 h3 h4 h5;exact ir (ihx q (hx q hq) h1 h2 h3 h4 h5)
  ·have e:(Tr.s S kn kx ky kz).val=(ky q).val:=by simp only[Tr.val,hq]
   rw[e]at h1 h2 h3 h4 h5;exact ir (ihy q (hy q hq) h1 h2 h3 h4 h5)
  ·have e:(Tr.s S kn kx ky kz).val=(kz q).val:=by simp only[Tr.val,hq]
   rw[e]at h1 h2 h3 h4 h5;exact ir (ihz q (hz q hq) h1 h2 h3 h4 h5)
theorem EC{X:Type}[Dft X]{px:X->Nat×Env}{i:Nat}{e:Env}{k:TrE R}(h:(kxs px i e k).H n r x):(∃e',ma e e'/\x i e')\/k.H n r x:=by
 unfold kxs at h;split at h
 ·split at h
  ·split at h
   .rename_i e3 hc;exact .inl ⟨e3,DC hc,h⟩
   .exact h.elim
  .exact .inr h
 .exact .inr h
theorem FC{A X Y Z:Type}[Dft A][Dft X][Dft Y][Dft Z](G:Good P tt sp)(subs:Ih R)(hs:Li P tt N fr C F subs)(kp:List (Nat×List Nat))(tb:List (Nat×Nat))(af:List (Nat×Bool×Nat)){S:da R A X Y Z}(t:Tr R A X Y Z)
  (ho:S.o=t.val) (hob:S.ob=t.ob) (h:runT tt sp N F kp tb af subs (Hb C S.path) S.path S.env (kn0 S.pn) (kx0 S.px S.py S.pz)=t.toE S.rv S.pn S.px S.py S.pz):pe P tt N fr C F S:=by
 intro hb;rw[hob]at hb
 have h1:=mY (n:=λe=>∃q,S.o=.n q/\ma e (S.pn q)) (r:=λv=>∃q,S.o=.r q/\v=S.rv q)
  (x:=λi e=>(∃q,S.o=.x q/\(S.px q).1=i/\ma e (S.px q).2)\/(∃q,S.o=.y q/\(S.py q).1=i/\ma e (S.py q).2)\/∃q,S.o=.z q/\(S.pz q).1=i/\ma e (S.pz q).2) (rv:=S.rv) (pn:=S.pn) (px:=S.px) (py:=S.py) (pz:=S.pz) t hb
  (λq hq=>⟨q,ho.trans hq,ma.refl _⟩) (λq hq=>⟨q,ho.trans hq,rfl⟩) (λq hq=>.inl ⟨q,ho.trans hq,rfl,ma.refl _⟩) (λq hq=>.inr (.inl ⟨q,ho.trans hq,rfl,ma.refl _⟩)) (λq hq=>.inr (.inr ⟨q,ho.trans hq,rfl,ma.refl _⟩))
 rw[← h]at h1
 have key:∀ {n':Env->Prop} {x':Nat->Env->Prop},(∀e e',ma e e'->n' e'->n' e)->(∀i e e',ma e e'->x' i e'->x' i e)->∀ {r':RV->Prop},
   (runT tt sp N F kp tb af subs (Hb C S.path) S.path S.env (kn0 S.pn) (kx0 S.px S.py S.pz)).H n' r' x'->Ht P N fr (Hb C S.path) S.env n' (λe=>r' (Uf tt F e)) x':=by
  intro n' x' hn' hx' r' hh;refine (lY G hs _ _ rfl _ _ _ hh).mono ?_ (λ_ h=>h) ?_
  ·rintro e' ⟨e'',hw,h⟩;unfold kn0 at h;split at h
   ·split at h
    .rename_i e3 hc;exact hn' _ _ (hw.trans (DC hc)) h
    .exact h.elim
   .exact h.elim
  ·rintro i e' ⟨e'',hw,h⟩;rcases EC h with⟨e3,hw2,h⟩|h
   .exact hx' _ _ _ (hw.trans hw2) h
   ·rcases EC h with⟨e3,hw2,h⟩|h
    .exact hx' _ _ _ (hw.trans hw2) h
    ·rcases EC h with⟨e3,hw2,h⟩|h
     .exact hx' _ _ _ (hw.trans hw2) h
     .exact h.elim
 refine key ?_ ?_ h1
 .rintro e e' hw ⟨q,hq,h⟩;exact⟨q,hq,hw.trans h⟩
 ·rintro i e e' hw (⟨q,hq,rfl,h⟩|⟨q,hq,rfl,h⟩|⟨q,hq,rfl,h⟩)
  .exact .inl ⟨q,hq,rfl,hw.trans h⟩
  .exact .inr (.inl ⟨q,hq,rfl,hw.trans h⟩)
  .exact .inr (.inr ⟨q,hq,rfl,hw.trans h⟩)
def jr(c:Code):Bool:=match c with
 |.loop _=>true
 |_=>false
theorem nY{c:Code}(h:jr c=true):c=.loop (nav c [0]):=by
 unfold jr at h;split at h
 .simp[nav]
 .cases h
def lpS{σ X Y Z:Type}(S:da R σ X Y Z)(o:Oc Empty R X Y Z)(ob:Prop):da R Empty X Y Z:=⟨o,ob,S.path.tail,S.env,S.rv,nE,S.px,S.py,S.pz⟩
theorem oY{σ X Y Z:Type}[Inhabited R](Sr:σ->da R σ X Y Z)(s0:σ)(hpn:∀s,(Sr s).pn=λs'=>(Sr s').env)(hp:∀s,(Sr s).path=0::(Sr s0).path.tail/\(Sr s).rv=(Sr s0).rv/\(Sr s).px=(Sr s0).px/\(Sr s).py=(Sr s0).py/\(Sr s).pz=(Sr s0).pz)
  (hc:jr (Hb C (Sr s0).path.tail)=true) (hb:∀s,pe P tt N fr C F (Sr s)) :
  pe P tt N fr C F (lpS (Sr s0) (lpV (λs=>ca (Sr s).o) s0) (LpT (λs=>ca (Sr s).o) (λs=>(Sr s).ob) s0)):=by
 intro hT;have hT:LpT (λs=>ca (Sr s).o) (λs=>(Sr s).ob) s0:=hT;show Ht P N fr (Hb C (Sr s0).path.tail) (Sr s0).env _ _ _;refine Ht.loopOc (c1:=nav (Hb C (Sr s0).path.tail) [0]) (nY hc) (λs=>(Sr s).env) (λs=>(Sr s).o) hT (RP:=λq e=>Uf tt F e=(Sr s0).rv q) (XP:=λi q e=>((Sr s0).px q).1=i/\ma e ((Sr s0).px q).2) (YP:=λi q e=>((Sr s0).py q).1=i/\ma e ((Sr s0).py q).2) (ZP:=λi q e=>((Sr s0).pz q).1=i/\ma e ((Sr s0).pz q).2) (λs hs=>?_) ?_ ?_ ?_ ?_
 ·have h:=hb s hs;obtain⟨h1,h2,h3,h4,h5⟩:=hp s;rw[h1,h2,h3,h4,h5,hpn s]at h;exact h
 .exact λq e h he=>⟨q,h,he⟩
 .exact λi q e h he=>.inl ⟨q,h,he⟩
 .exact λi q e h he=>.inr (.inl ⟨q,h,he⟩)
 .exact λi q e h he=>.inr (.inr ⟨q,h,he⟩)
def Pc:Nat:=2097200
theorem Fl{f:Nat}{s:Spec}{fn:Func}{c:Code}(hf:P.funcs[f]? = some fn)(hname:(fn.name == "runtime.NumGoroutine")=false)(hc:fn.body=some c)(h:∀x,s.pre x->False):Con P f s:=⟨⟨fn,hf,hname,by rw[hc];rfl⟩,λx hp=>(h x hp).elim⟩
theorem pY{pts:List PT}{rt:RT}{o:nb pts->Oc Empty rt.T Empty Empty Empty}{ob:nb pts->Prop}(G:Good P tt sp){f:Nat}{fn:Func}{c:Code}(hf:P.funcs[f]? = some fn)(hname:(fn.name == "runtime.NumGoroutine")=false)(hc:fn.body=some c){rs:List ResultVar}{fz:List Nat}
  (hrs:fn.results=rs.toArray) (hlen:Nat.ble pts.length fn.ntmps=true) (hno:Ch rt=true->Sa pts 0=none) (hrd:Sa pts 0=none) (S:nb pts->da rt.T Empty Empty Empty Empty)
  (hS:∀x,(S x).path=[]/\(S x).env=Qb pts x 0/\(S x).o=o x/\(S x).ob=ob x/\(S x).rv=λq=>(some (rt.av q),.dead))
  (h:∀ (x:nb pts) (fr:Fr),pe P tt ⟨fn.ntmps,none,[]⟩ fr c ⟨rs,rt,none,fz⟩ (S x)):Con P f ⟨pts,rt,false,λx=>(ocR (o x),0),ob⟩:=Gi G.htt hf hname hc hrs hlen hno λx hp fr _ _ _=>by
  obtain⟨h1,h2,h3,h4,h5⟩:=hS x;have hp:ob x:=hp;rw[← h4]at hp;have h0:=h x fr hp;rw[h1,h2,h3,h5]at h0;rw[hrd];refine Ht.mono h0 ?_ ?_ ?_
  .rintro e ⟨q,_⟩;exact q.elim
  ·rintro e ⟨q,hq,he⟩;have hq:o x=.r q:=hq;have he:Uf tt ⟨rs,rt,none,fz⟩ e=(some (rt.av q),.dead):=he;refine⟨?_,?_⟩
   ·show Hg tt e rs rt=some (rt.av (ocR (o x)));rw[hq];exact congrArg Prod.fst he
   .exact by unfold Dh;rw[hrd];trivial
  .rintro i e (⟨q,_⟩|⟨q,_⟩|⟨q,_⟩)<;>exact q.elim
theorem qY{pts:List PT}{rt:RT}{o:nb pts->Oc Empty (rt.T×Int) Empty Empty Empty}{ob:nb pts->Prop}(G:Good P tt sp){f:Nat}{fn:Func}{c:Code}(hf:P.funcs[f]? = some fn)(hname:(fn.name == "runtime.NumGoroutine")=false)(hc:fn.body=some c){rs:List ResultVar}{fz:List Nat}
  (hrs:fn.results=rs.toArray) (hlen:Nat.ble pts.length fn.ntmps=true) (hno:Ch rt=true->Sa pts 0=none) {k:Nat} (hrd:Sa pts 0=some k) (bs:nb pts->List Int) (hbs:∀x,rdB pts x=some (bs x)) (S:nb pts->da (rt.T×Int) Empty Empty Empty Empty)
  (hS:∀x,(S x).path=[]/\(S x).env=Qb pts x 0/\(S x).o=o x/\(S x).ob=ob x/\(S x).rv=λq=>(some (rt.av q.1),.box [(.sh,.lst .byte (bs x)),(.fr,.int .i64 q.2)]))
  (h:∀ (x:nb pts) (fr:Fr),pe P tt ⟨fn.ntmps,some k,[]⟩ fr c ⟨rs,rt,some k,fz⟩ (S x)):Con P f ⟨pts,rt,true,λx=>ocR (o x),ob⟩:=Gi G.htt hf hname hc hrs hlen hno λx hp fr _ _ _=>by
  obtain⟨h1,h2,h3,h4,h5⟩:=hS x;have hp:ob x:=hp;rw[← h4]at hp;have h0:=h x fr hp;rw[h1,h2,h3,h5]at h0;rw[hrd];refine Ht.mono h0 ?_ ?_ ?_
  .rintro e ⟨q,_⟩;exact q.elim
  ·rintro e ⟨q,hq,he⟩;have hq:o x=.r q:=hq;have he:Uf tt ⟨rs,rt,some k,fz⟩ e=(some (rt.av q.1),.box [(.sh,.lst .byte (bs x)),(.fr,.int .i64 q.2)]):=he;refine⟨?_,?_⟩
   ·show Hg tt e rs rt=some (rt.av (ocR (o x)).1);rw[hq];exact congrArg Prod.fst he
   ·show Dh pts x (ocR (o x)).2 e;unfold Dh;rw[hrd,hbs,hq];exact congrArg Prod.snd he
  .rintro i e (⟨q,_⟩|⟨q,_⟩|⟨q,_⟩)<;>exact q.elim
end
end Go.Proofs.YthfkpijcajdnhaaGreat

namespace Go.Proofs.YthfkpijcajdnhaaGreat
open Go
def uf(sz:Nat->Option Nat):List Field->Nat->Option Nat
 |[],o=>some o
 |f::fs,o=>match Nat.beq f.offset o&&f.name != "_",sz f.type with
  |true,some n=>uf sz fs (o+n)
  |_,_=>none
def vf(P:Program):Nat->Nat->Option Nat
 |0,_=>none
 |m+1,t=>match P.underlying t,P.info? t with
  |some (.int _),some _=>some 1
  |some (.struct fs),some i=>match P.stoodInHeld t,uf (vf P m) fs.toList 0 with
   |false,some n=>match Nat.beq i.size n with
    |true=>some n
    |false=>none
   |_,_=>none
  |_,_=>none
theorem Pq:∀ {cs ds:List C} {b:Bool},pb cs ds=some b->cs.length=ds.length
 |[],[],_,_=>rfl
 |.int _ _::r,.int _ _::r',_,h=>by
  simp only[pb]at h;split at h
  .rename_i h';simp[Pq h']
  .cases h
 |[],_::_,_,h=>by simp[pb]at h
 |.bool _::_,_,_,h=>by simp[pb]at h
 |.str _::_,_,_,h=>by simp[pb]at h
 |.lst _ _::_,_,_,h=>by simp[pb]at h
 |.nl _::_,_,_,h=>by simp[pb]at h
 |.int _ _::_,[],_,h=>by simp[pb]at h
 |.int _ _::_,.bool _::_,_,h=>by simp[pb]at h
 |.int _ _::_,.str _::_,_,h=>by simp[pb]at h
 |.int _ _::_,.lst _ _::_,_,h=>by simp[pb]at h
 |.int _ _::_,.nl _::_,_,h=>by simp[pb]at h
theorem xL:∀ {a c a' c':List C} {e:Bool},a.length=c.length->pb (a++a') (c++c')=some e->∃e1 e2,pb a c=some e1/\pb a' c'=some e2/\e=(e1&&e2)
 |[],[],_,_,e,_,h=>⟨true,e,rfl,h,by simp⟩
 |x::a,y::c,a',c',e,hl,h=>by
  cases x<;>cases y<;>simp only[List.cons_append,pb]at h<;>try (cases h;done)
  rename_i k n k' n';split at h
  ·rename_i e' hk hr;obtain⟨e1,e2,h1,h2,h3⟩:=xL (by simpa using hl) hr;simp only[Option.some.injEq]at h;exact⟨cmp .eql n n'&&e1,e2,by simp only[pb,hk,h1],h2,by rw[← h,h3,Bool.and_assoc]⟩
  .cases h
 |[],_::_,_,_,_,hl,_=>by simp at hl
 |_::_,[],_,_,_,hl,_=>by simp at hl
section
variable {P:Program}
def EqP(P:Program)(d t n:Nat):Prop:=∀ (w:World) (cs ds:List C) (off:Nat) (b:Bool),pb ((cs.drop off).take n) ((ds.drop off).take n)=some b->((cs.drop off).take n).length=n ->
 ∃x y,(Go.part t (cs.map zv).toArray off).run P w=.ok x w/\(Go.part t (ds.map zv).toArray off).run P w=.ok y w/\(Op.equalIn d t x y).run P w=.ok b w
theorem VX{d t:Nat}{k:IntKind}(hu:P.underlying t=some (.int k)):EqP P (d+1) t 1:=by
 intro w cs ds off b h hl;cases hc:cs.drop off with
 |nil=>rw[hc]at hl;simp at hl
 |cons c cr=>
  rw[hc]at h;cases hd:ds.drop off with
  |nil=>rw[hd]at h;cases c<;>simp[pb]at h
  |cons e er=>
   rw[hd]at h
   have h1:cs[off]? = some c:=by
    have:=List.getElem?_drop (xs:=cs) (i:=off) (j:=0);rw[hc]at this;simpa using this.symm
   have h2:ds[off]? = some e:=by
    have:=List.getElem?_drop (xs:=ds) (i:=off) (j:=0);rw[hd]at this;simpa using this.symm
   simp only[List.take_succ_cons,List.take_zero]at h;cases c<;>cases e<;>simp only[pb]at h<;>try (cases h;done)
   rename_i k1 a k2 a';split at h
   ·rename_i e' hk hr;simp only[Option.some.injEq]at h hr;subst hr;have hk:=yi hk;subst hk;refine⟨.int k1 a,.int k1 a',?_,?_,?_⟩
    .simp[Go.part,Go.isAgg,run_underlying hu,h1,zv]
    .simp[Go.part,Go.isAgg,run_underlying hu,h2,zv]
    ·rw[run_equalIn_int w d t k1 k a a' hu,← h];simp[cmp]
   .cases h
theorem iC{sz:Nat->Option Nat}:∀ {fs:List Field} {o n:Nat},uf sz fs o=some n->o<=n
 |[],o,n,h=>by simp only[uf,Option.some.injEq]at h;omega
 |f::fs,o,n,h=>by
  simp only[uf]at h;split at h
  .have:=iC h;omega
  .cases h
theorem yL{d:Nat}{sz:Nat->Option Nat}(hsz:∀t n,sz t=some n->EqP P d t n)(w:World)(cs ds:List C):∀ {fs:List Field} {o n:Nat} {b:Bool},uf sz fs o=some n ->
  pb ((cs.drop o).take (n - o)) ((ds.drop o).take (n - o))=some b->((cs.drop o).take (n - o)).length=n - o->(Op.eqFields d (cs.map zv).toArray (ds.map zv).toArray fs).run P w=.ok b w
 |[],o,n,b,h,hb,_=>by
  simp only[uf,Option.some.injEq]at h;subst h;rw[Nat.sub_self]at hb;simp only[List.take_zero,pb,Option.some.injEq]at hb;subst hb;rfl
 |f::fs,o,n,b,h,hb,hl=>by
  simp only[uf]at h;split at h
  ·rename_i k hc hk;simp only[Bool.and_eq_true,bne_iff_ne,ne_eq]at hc;have ho:=Nat.eq_of_beq_eq_true hc.1;have hle:=iC h
   have hsp:∀l:List C,(l.drop o).take (n - o)=(l.drop o).take k++(l.drop (o+k)).take (n - (o+k)):=λl=>by
    rw[show n - o=k+(n - (o+k)) by omega,List.take_add,List.drop_drop]
   rw[hsp cs,hsp ds]at hb;rw[hsp cs]at hl
   have hl1:((cs.drop o).take k).length=k/\((cs.drop (o+k)).take (n - (o+k))).length=n - (o+k):=by
    rw[List.length_append]at hl;have h1:((cs.drop o).take k).length<=k:=by simp;omega
    have h2:((cs.drop (o+k)).take (n - (o+k))).length<=n - (o+k):=by simp;omega
    omega
   have hll:=Pq hb
   have hl2:((ds.drop o).take k).length=k:=by
    rw[List.length_append,List.length_append,hl1.1,hl1.2]at hll;have h1:((ds.drop o).take k).length<=k:=by simp;omega
    have h2:((ds.drop (o+k)).take (n - (o+k))).length<=n - (o+k):=by simp;omega
    omega
   obtain⟨e1,e2,g1,g2,g3⟩:=xL (by rw[hl1.1,hl2]) hb;obtain⟨x,y,p1,p2,p3⟩:=hsz f.type k hk w cs ds o e1 g1 hl1.1;have ih:=yL hsz w cs ds h g2 hl1.2;simp only[Op.eqFields,ne_eq,hc.2,not_false_eq_true,if_true,Sem.run_bind,ho,p1,p2,p3,Result.andThen_ok];rw[g3];cases e1 with
   |false=>simp
   |true=>simpa using ih
  .cases h
theorem zL:∀ (m t n d:Nat),vf P m t=some n->EqP P (d+m) t n
 |0,_,_,_,h=>by simp[vf]at h
 |m+1,t,n,d,h=>by
  simp only[vf]at h;split at h
  ·rename_i k i hu hi;simp only[Option.some.injEq]at h;subst h;exact VX (d:=d+m) hu
  ·rename_i fs i hu hi;split at h
   ·rename_i n' hs hf;split at h
    ·rename_i hn;simp only[Option.some.injEq]at h;subst h;have hn:=Nat.eq_of_beq_eq_true hn;intro w cs ds off b hb hl;have hfo:P.fieldsOf t=fs:=by simp[Program.fieldsOf,hu]
     have hex:∀l:List C,((l.map zv).toArray.extract off (off+n'))=(((l.drop off).take n').map zv).toArray:=λl=>by
      apply Array.ext';simp[List.map_drop,List.map_take]
     have hpart:∀l:List C,(Go.part t (l.map zv).toArray off).run P w=.ok (.agg (((l.drop off).take n').map zv).toArray) w:=λl=>by
      rw[← hex l];simp[Go.part,Go.isAgg,run_underlying hu,sizeOf,typeInfo,hi,hn]
     refine⟨_,_,hpart cs,hpart ds,?_⟩;rw[show d+(m+1)=(d+m)+1 from rfl,run_equalIn_struct w (d+m) t _ _ (by rw[hfo];exact hu) hs,hfo];refine yL (λt n h=>zL m t n d h) w ((cs.drop off).take n') ((ds.drop off).take n') (fs:=fs.toList) hf ?_ ?_
     .rw[Nat.sub_zero,List.drop_zero,List.drop_zero,List.take_take,List.take_take,Nat.min_self];exact hb
     .rw[Nat.sub_zero,List.drop_zero,List.take_take,Nat.min_self];exact hl
    .cases h
   .cases h
  .cases h
def jC(P:Program)(t n:Nat):Bool:=
 !P.eqGuardType P.depth t&&match P.underlying t,vf P 9 t with
 |some (.struct _),some k=>Nat.beq k n
 |_,_=>false
theorem WX{t n:Nat}(h:jC P t n=true):Of P t n:=by
 simp only[jC,Bool.and_eq_true,Bool.not_eq_true']at h;obtain⟨h1,h2⟩:=h;split at h2
 ·rename_i fs k hu hk;have hn:=Nat.eq_of_beq_eq_true h2;subst hn;refine⟨h1,λw cs ds b hb hl=>?_⟩
  obtain⟨x,y,p1,p2,p3⟩:=zL 9 t k 9991 hk w cs ds 0 b (by
   rw[List.drop_zero,List.drop_zero,List.take_of_length_le (by omega),List.take_of_length_le (by rw[← Pq hb];omega)];exact hb) (by simp;omega)
  have hi:∃i,P.info? t=some i/\i.size=k:=by
   simp only[vf,hu]at hk;cases hi:P.info? t with
   |none=>rw[hi]at hk;cases hk
   |some i=>
    rw[hi]at hk;simp only[]at hk;split at hk
    ·split at hk
     ·rename_i hn;simp only[Option.some.injEq]at hk;exact⟨i,rfl,by rw[Nat.eq_of_beq_eq_true hn,hk]⟩
     .cases hk
    .cases hk
  obtain⟨i,hi,hik⟩:=hi
  have hpart:∀l:List C,l.length=k->(Go.part t (l.map zv).toArray 0).run P w=.ok (.agg (l.map zv).toArray) w:=λl hl=>by
   have hex:((l.map zv).toArray.extract 0 k)=(l.map zv).toArray:=by
    apply Array.ext';simp[List.take_of_length_le (show (l.map zv).length<=k by simp;omega)]
   have hex':Array.extract (l.map zv).toArray 0 k=(l.map zv).toArray:=hex;simp only[Go.part,Go.isAgg,run_underlying hu,sizeOf,typeInfo,hi,hik,Sem.run_bind,Sem.run_pure,Result.andThen_ok,Nat.zero_add,if_true,run_program];simp[hex']
  rw[hpart cs hl]at p1;rw[hpart ds (by rw[← Pq hb];exact hl)]at p2;cases p1;cases p2;exact p3
 .cases h2
def lC(P:Program):TT->Bool
 |[]=>true
 |(t,d)::r=>lB P t d&&((!d.eq||jC P t d.size)&&lC P r)
theorem xl{P:Program}:∀ {tt:TT},lC P tt=true->ac P tt
 |[],_=>⟨(λ_ _ h=>by cases h),(λ_ _ h=>by cases h)⟩
 |(t0,d0)::r,h=>by
  simp only[lC,Bool.and_eq_true]at h;obtain⟨h1,h2,h3⟩:=h;have ih:=xl h3;refine⟨λt d h=>?_,λt d h he=>?_⟩
  ·simp only[lk]at h;split at h
   ·rename_i hb;cases h;rw[← Nat.eq_of_beq_eq_true hb];exact sW h1
   .exact ih.td t d h
  ·simp only[lk]at h;split at h
   ·rename_i hb;cases h;rw[← Nat.eq_of_beq_eq_true hb];rw[he]at h2;exact WX (by simpa using h2)
   .exact ih.eq t d h he
end
end Go.Proofs.YthfkpijcajdnhaaGreat

namespace Go.Proofs.YthfkpijcajdnhaaGreat
open Go
def Ig(r:Nat)(o:Option Nat->Option Nat):Option Nat->Option Nat:=λi=>match o i with
 |some b=>if b=r then none else some b
 |none=>none
theorem mC{r:Nat}{o:Option Nat->Option Nat}{i:Option Nat}{b:Nat}(h:Ig r o i=some b):o i=some b:=by
 unfold Ig at h;split at h
 ·rename_i b' hb;split at h
  .cases h
  .rw[hb];exact h
 .cases h
theorem nC{r:Nat}{o:Option Nat->Option Nat}{i:Option Nat}{b:Nat}(h:o i=some b)(hb:b≠r):Ig r o i=some b:=by
 unfold Ig;rw[h];simp[hb]
theorem Blk.ne{w:World}{b r:Nat}{cs:List Value}(h:Blk w b cs){o:Obj}(ho:w.heap[r]? = some o)(hc:Go.Proofs.YthfkpijcajdnhaaGreat.isC o=false):b≠r:=λe=>by
 subst e;rw[Blk.isC h ho]at hc;cases hc
theorem AL{w:World}{b r i:Nat}{u:Value}(h:w.cell? ⟨b,i,none⟩=some u){o:Obj}(ho:w.heap[r]? = some o)(hc:isC o=false):b≠r:=λe=>by
 subst e;cases o<;>simp[World.cell?,ho,isC]at h hc
section
variable {w w':World} {F:Fz} {r:Nat} {B:Nat} (hp:Pk w r w') {o0:Obj} (ho:w.heap[r]? = some o0) (hc:isC o0=false)
include hp ho hc
theorem oC(hl:Live F w):nf F w w':=λb i hb=>by
 cases h:w.cell? ⟨b,i,none⟩ with
 |none=>have:=hl b i hb;rw[h]at this;cases this
 |some u=>rw[cell_of_heap (hp.block b (AL h ho hc)),h]
theorem VR.obj(hl:Live F w){o:Option Nat->Option Nat}{av:AV}{v:Value}(h:VR F B w o av v):VR F B w' (Ig r o) av v:=by
 have hF:=oC hp ho hc hl;have rc:∀ {lo:Nat} {c:C} {v:Value},RC F lo w c v->RC F lo w' c v:=λh=>h.poke hp hF
 have acc:∀ {lo:Nat} {i:Option Nat} {c:C} {v:Value},Ga F lo w (o i) c v->Ga F lo w' (Ig r o i) c v:=by
  rintro lo i c v ⟨h1,h2⟩;refine⟨rc h1,?_⟩;rcases h2 with h2|⟨t,xs,b,cap,cs,e1,e2,e3,e4,e5,e6⟩
  .exact .inl h2
  .exact .inr ⟨t,xs,b,cap,cs,e1,e2,nC e3 (e4.ne ho hc),e4.same (hp.block b (e4.ne ho hc)),e5,e6⟩
 cases av with
 |dead=>trivial
 |v k c=>
  cases k with
  |sh=>exact rc h
  |fr=>exact rc h
  |acc f=>exact acc h
  |own f=>
   rcases h with h|⟨t,xs,b,cap,cs,vs,e1,e2,e3,e4,e5,e5',e6,e7,e8,e9⟩
   .exact .inl h
   exact .inr ⟨t,xs,b,cap,cs,vs,e1,e2,nC e3 (e4.ne ho hc),e4.same (hp.block b (e4.ne ho hc)),e5,e5',e6,e7,e8,λi j x c hx hc=>rc (e9 i j x c hx hc)⟩
 |agg f cs=>obtain⟨vs,e,h⟩:=h;exact⟨vs,e,h.poke hp hF⟩
 |tup l=>obtain⟨vs,e,h⟩:=h;exact⟨vs,e,h.poke hp hF⟩
 |box cs=>
  obtain⟨b,vs,e1,e2,e3,e4,e5,e6⟩:=h;refine⟨b,vs,e1,nC e2 (e3.ne ho hc),e3.same (hp.block b (e3.ne ho hc)),e4,e5,λj kc u hk hu=>?_⟩;have:=e6 j kc u hk hu;obtain⟨k,c⟩:=kc;cases k with
  |sh=>exact rc this
  |fr=>exact rc this
  |acc f=>exact acc this
  |own f=>exact this
 |cond k a=>exact h.elim
 |view s i=>exact h.elim
 |baddr s i=>exact h.elim
 |faddr f cs=>exact h.elim
 |oaddr s i j=>exact h.elim
theorem SR.obj(hl:Live F w){tm:Nat->Value}{g:Get}{ow:Nat->Option Nat->Option Nat}{n:Nat}:∀ {av:AV},SR F B w tm g ow n av->SR F B w' tm g (λs=>Ig r (ow s)) n av
 |.dead,_=>trivial
 |.v k c,h=>VR.obj (av:=.v k c) hp ho hc hl h
 |.agg f cs,h=>VR.obj (av:=.agg f cs) hp ho hc hl h
 |.tup l,h=>VR.obj (av:=.tup l) hp ho hc hl h
 |.box cs,h=>VR.obj (av:=.box cs) hp ho hc hl h
 |.cond k a,h=>⟨h.1,h.2.1,λhb=>SR.obj hl (h.2.2.1 hb),h.2.2.2⟩
 |.view m none,h=>h
 |.view m (some j),h=>by
  obtain⟨h0,cs,b',f,c,h1,h2,h3,h4⟩:=h;exact⟨h0,cs,b',f,c,h1,h2,h3,by rw[cell_of_heap (hp.block b' (AL h4 ho hc))];exact h4⟩
 |.baddr m o,h=>h
 |.faddr f cs,h=>by
  obtain⟨b',o,vs,h1,h2,h3⟩:=h;have hF:=oC hp ho hc hl;exact⟨b',o,vs,h1,h2.poke hp hF,λj v hv=>⟨(h3 j v hv).1,by rw[hF _ _ (h3 j v hv).1];exact (h3 j v hv).2⟩⟩
 |.oaddr m i o,h=>h
theorem ja.obj{IoB:List Nat}{F0:Fz}{e:Env}{tm:Nat->Value}{ow:Nat->Option Nat->Option Nat}(hs:ja B IoB F0 e tm w F ow):ja B IoB F0 e tm w' F (λs=>Ig r (ow s)):=⟨hs.sub,hs.new,λb o hb=>by rw[oC hp ho hc hs.live b o hb];exact hs.live b o hb,λs i s' i' b h h'=>hs.inj s i s' i' b (mC h) (mC h'),
   λs i b h=>by rw[hp.size];exact hs.bd s i b (mC h),λs=>(hs.sr s).obj hp ho hc hs.live⟩
end
structure MS(N:NP)(B:Nat)(IoB:List Nat)(W0:World)(F0:Fz)(obs:List (Nat×Obj))(e:Env)(a:Act)(w:World):Prop where
 sim:Sim N B IoB w F0 e a w
 kept:Kept B IoB W0 w
 ob:∀p∈obs,w.heap[p.1]? = some p.2/\isC p.2=false/\B<=p.1
 hB:B=W0.heap.size
section
variable {P:Program} {N:NP} {B:Nat} {IoB:List Nat} {W0:World} {F0:Fz} {obs:List (Nat×Obj)} {e:Env} {a:Act} {w:World}
theorem Sim.rebase(hs:Sim N B IoB W0 F0 e a w):Sim N B IoB w F0 e a w:=⟨hs.defers,hs.tmps,Nat.le_trans hs.base hs.kept.size,hs.f0,Kept.refl _ _ _,hs.rep⟩
theorem MS.of(hs:Sim N B IoB W0 F0 e a w)(hB:B=W0.heap.size):MS N B IoB W0 F0 [] e a w:=⟨hs.rebase,hs.kept,(λp hp=>by cases hp),hB⟩
theorem MS.to(h:MS N B IoB W0 F0 obs e a w):Sim N B IoB W0 F0 e a w:=⟨h.sim.defers,h.sim.tmps,Nat.le_of_eq h.hB,h.sim.f0,h.kept,h.sim.rep⟩
theorem Tms.forget{N':NP}{t:Array Value}(h:Tms N IoB t)(hn:N'.n=N.n)(hr:N'.r=N.r)(hk:∀p∈N'.k,p∈N.k):Tms N' IoB t:=⟨by rw[hn];exact h.size,λs hs=>h.rd s (by rw[← hr];exact hs),λp hp=>h.kp p (hk p hp)⟩
theorem MS.forget{N':NP}{obs':List (Nat×Obj)}(h:MS N B IoB W0 F0 obs e a w)(hn:N'.n=N.n)(hr:N'.r=N.r)(hk:∀p∈N'.k,p∈N.k)(ho:∀p∈obs',p∈obs):MS N' B IoB W0 F0 obs' e a w:=⟨⟨h.sim.defers,h.sim.tmps.forget hn hr hk,h.sim.base,h.sim.f0,h.sim.kept,h.sim.rep⟩,h.kept,λp hp=>h.ob p (ho p hp),h.hB⟩
theorem MS.of_sim{e':Env}{a':Act}{w':World}(h:MS N B IoB W0 F0 obs e a w)(hs:Sim N B IoB w F0 e' a' w'):MS N B IoB W0 F0 obs e' a' w':=⟨hs.rebase,h.kept.trans hs.kept,λp hp=>⟨hs.kept.obj _ _ (h.ob p hp).1 (h.ob p hp).2.1,(h.ob p hp).2⟩,h.hB⟩
theorem MS.reg{tt:TT}{sp:SP}(G:Good P tt sp){id:Nat}{ops:Array Oper}{draw:Bool}(hok:Jq sp N ops.toList draw=true){keep:List Nat}{e':Env}{ps:List Prop}
  (hr:rl tt sp keep ops.toList draw e=some (e',ps)) (ho:fa ps) {Q:Exit->Act->World->Prop} (hQ:∀a w,MS N B IoB W0 F0 obs e' a w->Q .normal a w) (hs:MS N B IoB W0 F0 obs e a w):(Code.region id ops draw).wp P Q a w:=qL G.htt G.hsp G.hm hok hr ho.all (λa w h=>hQ a w (hs.of_sim h)) hs.sim
theorem MS.stepF{tt:TT}{sp:SP}(G:Good P tt sp)(hs:MS N B IoB W0 F0 obs e a w){ops:Array Oper}{o:Oper}{e':Env}{ps:List Prop}(hgd:o.guard=none)
  (hst:Go.Proofs.YthfkpijcajdnhaaGreat.stepF tt sp (ops.toList.map (·.dst)) e o=some (e',ps)) (ho:fa ps) (hdN:∀d,o.dst=some d->N.ok d=true) {next:Act->World->Prop} {Q:Exit->Act->World->Prop} (hn:∀a' w',MS N B IoB W0 F0 obs e' a' w'->next a' w') :
  o.wp P a w next Q:=by
 have h:=zq G.htt G.hsp hs.sim hst ho.all hdN (Q:=Q) (next:=next) (λa' w' h=>hn a' w' (hs.of_sim h));have hw:Region.wanted o (yielded ops a.tmps)=true:=by unfold Region.wanted;rw[hgd]
 rw[if_pos hw]at h;exact h
theorem wa{ops:Array Oper}{i:Nat}{o:Oper}(ho:ops[i]? = some o)(hg:o.guard=none){next:Act->World->Prop}{Q:Exit->Act->World->Prop}(h:o.wp P a w next Q):wpOp P ops Q i next a w:=by
 unfold wpOp;rw[ho];simp only[];have hw:Region.wanted o (yielded ops a.tmps)=true:=by unfold Region.wanted;rw[hg]
 rw[if_pos hw];exact .inl h
theorem Tms.putK{a:Act}(h:Tms N IoB a.tmps){d:Nat}(hd:N.ok d=true)(v:Value):Tms ⟨N.n,N.r,(d,v)::N.k⟩ IoB (a.put (some d) v).tmps:=by
 have h1:=h.put hd v;refine⟨h1.size,h1.rd,λp hp=>?_⟩;rcases List.mem_cons.1 hp with rfl|hp
 .rw[La a d v (by rw[h.size];exact NP.ok_lt hd),if_pos rfl]
 .exact h1.kp p hp
theorem MS.val(hs:MS N B IoB W0 F0 obs e a w){d:Nat}(hd:N.ok d=true){v:Value}{av:AV}(hfl:Vb av=true)(hav:∀F,Live F w->VR F B w (λ_=>none) av v) :
  MS ⟨N.n,N.r,(d,v)::N.k⟩ B IoB W0 F0 obs (put e d av) (a.put (some d) v) w:=by
 obtain⟨F,ow,hx⟩:=hs.sim.rep;refine⟨⟨hs.sim.defers,hs.sim.tmps.putK hd v,hs.sim.base,hs.sim.f0,Kept.refl _ _ _,F,λs=>if s=d then (λ_=>none) else ow s,?_⟩,hs.kept,hs.ob,hs.hB⟩;rw[show (λn=>(a.put (some d) v).tmps.getD n undef)=λn=>if n=d then v else a.tmps.getD n undef from funext (La a d v (by rw[hs.sim.tmps.size];exact NP.ok_lt hd))];refine hx.put hs.sim.base (Ia.refl F w) hx.live (λi b h=>by simp at h) (λi i' b h=>by simp at h) (λg' _ _=>?_);rw[ld hfl];simp only[if_true];exact hav F hx.live
theorem MS.alloc(hs:MS N B IoB W0 F0 obs e a w){d:Nat}(hd:N.ok d=true){v:Value}{o:Obj}(hc:isC o=false) :
  MS ⟨N.n,N.r,(d,v)::N.k⟩ B IoB W0 F0 ((w.heap.size,o)::obs) (put e d .dead) (a.put (some d) v) (w.alloc o):=by
 obtain⟨F,ow,hx⟩:=hs.sim.rep;have hBw:=hs.sim.base;have hlt:∀k,k<w.heap.size->(w.alloc o).heap[k]? = w.heap[k]?:=λk hk=>wq o hk;have hg:Ia F w F (w.alloc o):=⟨rfl,rfl,rfl,by show w.heap.size<=(w.heap.push o).size;simp,hlt,λ_ _ h=>h,λ_ _ h=>.inl h⟩;have hkp:Kept B IoB w (w.alloc o):=⟨rfl,rfl,rfl,hg.size,λk hk _=>hlt k (by omega),λk o' hk _=>by rw[hlt k (Array.getElem?_eq_some_iff.1 hk).1];exact hk⟩;refine⟨⟨hs.sim.defers,hs.sim.tmps.putK hd v,Nat.le_trans hBw hg.size,hs.sim.f0,Kept.refl _ _ _,F,λs=>if s=d then (λ_=>none) else ow s,?_⟩,hs.kept.trans hkp,λp hp=>?_,hs.hB⟩
 ·rw[show (λn=>(a.put (some d) v).tmps.getD n undef)=λn=>if n=d then v else a.tmps.getD n undef from funext (La a d v (by rw[hs.sim.tmps.size];exact NP.ok_lt hd))];refine hx.put hBw hg (λb i hb=>by rw[hg.live hx.live b i hb];exact hx.live b i hb) (λi b h=>by simp at h) (λi i' b h=>by simp at h) (λg' _ _=>trivial)
 ·rcases List.mem_cons.1 hp with rfl|hp
  .exact⟨by show (w.heap.push o)[w.heap.size]? = some o;simp,hc,hBw⟩
  .exact⟨by rw[hlt _ (Array.getElem?_eq_some_iff.1 (hs.ob p hp).1).1];exact (hs.ob p hp).1,(hs.ob p hp).2⟩
theorem MS.set(hs:MS N B IoB W0 F0 obs e a w){r:Nat}{o0:Obj}(hr:(r,o0)∈obs){w':World}(hp:Pk w r w'){obs':List (Nat×Obj)}
  (ho:∀p∈obs',(p∈obs/\p.1≠r)\/(p.1=r/\w'.heap[r]? = some p.2/\isC p.2=false)):MS N B IoB W0 F0 obs' e a w':=by
 obtain⟨h1,h2,h3⟩:=hs.ob _ hr;obtain⟨F,ow,hx⟩:=hs.sim.rep;refine⟨⟨hs.sim.defers,hs.sim.tmps,by rw[hp.size];exact hs.sim.base,hs.sim.f0,Kept.refl _ _ _,F,_,hx.obj hp h1 h2⟩,?_,λp hpp=>?_,hs.hB⟩
 ·have hrW:∀k,k<W0.heap.size->k≠r:=λk hk e=>by have:=hs.hB;simp only at h3;omega
  refine⟨hp.os.trans hs.kept.os,hp.tape.trans hs.kept.tape,hp.output.trans hs.kept.output,by rw[hp.size];exact hs.kept.size,λk hk hio=>?_,λk o hk hc=>?_⟩
  .rw[hp.block k (hrW k (by have:=hs.hB;omega))];exact hs.kept.block k hk hio
  .rw[hp.block k (hrW k (Array.getElem?_eq_some_iff.1 hk).1)];exact hs.kept.obj k o hk hc
 ·rcases ho p hpp with⟨q1,q2⟩|⟨q1,q2,q3⟩
  .exact⟨by rw[hp.block _ q2];exact (hs.ob p q1).1,(hs.ob p q1).2⟩
  .exact⟨by rw[q1];exact q2,q3,by rw[q1];exact h3⟩
theorem MS.bool(hs:MS N B IoB W0 F0 obs e a w){t:Nat}{k:K}{b:Bool}(hg:ba e t=.v k (.bool b)):a.eval (.tmp t)=.bool b:=by
 obtain⟨F,ow,hx⟩:=hs.sim.rep;have hsr:=hx.sr t;rw[hg]at hsr;exact uh (hsr.avr (λ_ _ h=>by cases h))
theorem MS.drew(hs:MS N B IoB W0 F0 obs e a w)(m:Nat):MS N B IoB W0 F0 obs e a { w with drawn:=m }:=by
 have h:=hs.sim.drew m;exact hs.of_sim h
end
section
variable {P:Program} {ops:Array Oper} {Q:Exit->Act->World->Prop}
theorem pC{J:(Nat->Bool)->Act->World->Prop}(hback:ol ops.toList 0=true)
  (hstep:∀ (L:Nat->Bool) (a:Act) (w:World) (i:Nat) (o:Oper),ops[i]? = some o->L i=false->(∀e∈o.after,Region.binds .any e=true->L e.on=true)->Closed ops L->J L a w ->
    ∀ (next:Act->World->Prop),(∀a' w',J (λj=>if j=i then true else L j) a' w'->next a' w')->wpOp P ops Q i next a w)
  (hQ:∀L a w,(∀i,i<ops.size->L i=true)->J L a w->Q .normal a w) :
  ∀ (fuel:Nat) (listed:Array Bool) (a:Act) (w:World),listed.size=ops.size->listed.toList.count false=fuel->Closed ops (λi=>listed.getD i false)->J (λi=>listed.getD i false) a w->wpAny P .any ops Q fuel listed a w:=by
 have hgl:∀i,ops.toList[i]? = ops[i]?:=λi=>Array.getElem?_toList;intro fuel
 induction fuel with
 |zero=>
  intro listed a w hsz hcnt hcl hJ
  have hall:∀i,i<ops.size->listed.getD i false=true:=by
   intro i hi
   have hnot:false ∉ listed.toList:=λhm=>by
    have:=List.count_pos_iff.2 hm;omega
   have hi':i<listed.toList.length:=by rw[Array.length_toList];omega
   have hmem:=List.getElem_mem hi';cases hb:listed.toList[i] with
   |false=>rw[hb]at hmem;exact absurd hmem hnot
   |true=>rw[Array.getD_eq_getD_getElem?,← Array.getElem?_toList,List.getElem?_eq_getElem hi',hb];rfl
  refine⟨?_,hQ _ a w hall hJ⟩;cases hr:Region.ready .any ops listed with
  |nil=>rfl
  |cons j r=>
   have hj:j∈Region.ready .any ops listed:=by rw[hr];simp
   obtain⟨h0,o,ho,_⟩:=mem_ready.1 hj;have hlt:j<ops.size:=(Array.getElem?_eq_some_iff.1 ho).1;have:=hall j hlt;rw[Array.getD_eq_getD_getElem?]at this h0;rw[Array.getElem?_eq_getElem (by omega)]at this h0;simp at this h0;rw[this]at h0;cases h0
 |succ fuel ih=>
  intro listed a w hsz hcnt hcl hJ;refine⟨λhr=>?_,λi hi=>?_⟩
  ·exfalso
   have hall:∀i,i<ops.size->listed.getD i false=true:=by
    intro i
    induction i using Nat.strongRecOn with
    |ind i ihi=>
     intro hi;cases hb:listed.getD i false with
     |true=>rfl
     |false=>
      have hmem:i∈Region.ready .any ops listed:=by
       refine mem_ready.2 ⟨?_,ops[i],Array.getElem?_eq_getElem hi,λe he hbd=>?_⟩
       ·rw[Array.getD_eq_getD_getElem?,Array.getElem?_eq_getElem (by omega)]at hb⊢;simpa using hb
       ·have:=XB hback i ops[i] (by rw[hgl];exact Array.getElem?_eq_getElem hi) e he hbd;exact ihi e.on (by omega) (by omega)
      rw[hr]at hmem;simp at hmem
   have hpos:0<listed.toList.count false:=by omega
   have hm:=List.count_pos_iff.1 hpos;obtain⟨i,hi⟩:=List.mem_iff_getElem?.1 hm;have hlt:=(List.getElem?_eq_some_iff.1 hi).1;rw[Array.length_toList]at hlt;have:=hall i (by omega);rw[Array.getD_eq_getD_getElem?,← Array.getElem?_toList,hi]at this;cases this
  ·obtain⟨hi0,o,ho,hedge⟩:=mem_ready.1 hi;have hin:i<ops.size:=(Array.getElem?_eq_some_iff.1 ho).1
   have hLi:listed.getD i false=false:=by
    rw[Array.getD_eq_getD_getElem?,Array.getElem?_eq_getElem (by omega)]at hi0⊢;simpa using hi0
   have hli:listed.toList[i]? = some false:=by
    rw[Array.getElem?_toList,Array.getElem?_eq_getElem (by omega)];rw[Array.getD_eq_getD_getElem?,Array.getElem?_eq_getElem (by omega)]at hLi;simpa using hLi
   have hset:(λj=>(listed.setIfInBounds i true).getD j false)=λj=>if j=i then true else listed.getD j false:=by
    funext j
    by_cases e:j=i
    ·subst e;rw[if_pos rfl,Array.getD_eq_getD_getElem?,Array.getElem?_setIfInBounds_self_of_lt (by omega)];rfl
    .rw[if_neg e,getD_set_ne false (Ne.symm e)]
   have hcl':Closed ops (λi'=>(listed.setIfInBounds i true).getD i' false):=by
    rw[hset];intro j o' ho' hj e he hbd;simp only[]at hj⊢;split
    .rfl
    ·split at hj
     ·rename_i e';subst e';rw[ho]at ho';cases ho';exact hedge e he hbd
     .exact hcl j o' ho' hj e he hbd
   have hcnt':(listed.setIfInBounds i true).toList.count false=fuel:=by
    rw[Array.toList_setIfInBounds];have:=kL hli;omega
   exact hstep _ a w i o ho hLi hedge hcl hJ _ (λa' w' hJ'=>ih _ a' w' (by rw[Array.size_setIfInBounds];exact hsz) hcnt' hcl' (by rw[hset];exact hJ'))
end
end Go.Proofs.YthfkpijcajdnhaaGreat

namespace Go.Proofs.YthfkpijcajdnhaaGreat
open Go
def Bc(ks:List Int):List Value:=ks.map (Value.int .i64)
def Aa(ks:List Int):Value:=.agg (Bc ks).toArray
abbrev MP:=List (List Int×Int)
def Lb(i:Nat)(p:List Int×Int):MapEntry:={ key:=Aa p.1,val:=.int .i64 p.2,born:=i }
def Pa:Nat->MP->List MapEntry
 |_,[]=>[]
 |i,p::r=>Lb i p::Pa (i+1) r
def ra(m:MP):Obj:=.map (Pa 0 m).toArray m.length
def Sc(w:World)(r:Nat)(o:Obj):World:={ w with heap:=w.heap.setIfInBounds r o }
theorem Jg(w:World)(r:Nat)(o:Obj):Pk w r (Sc w r o):=⟨rfl,rfl,rfl,by simp[Sc],λk hk=>by
   show (w.heap.setIfInBounds r o)[k]? = w.heap[k]?;rw[Array.getElem?_setIfInBounds,if_neg (λe=>hk e.symm)]⟩
theorem Kg{w:World}{r:Nat}{o o':Obj}(h:w.heap[r]? = some o):(Sc w r o').heap[r]? = some o':=by
 show (w.heap.setIfInBounds r o')[r]? = some o';rw[Array.getElem?_setIfInBounds,if_pos rfl,if_pos (Array.getElem?_eq_some_iff.1 h).1]
def Rb:MP->List Int->Nat->Option (Nat×Int)
 |[],_,_=>none
 |p::r,ks,i=>if p.1=ks then some (i,p.2) else Rb r ks (i+1)
def Ra(m:MP)(ks:List Int):Int:=match Rb m ks 0 with
 |some (_,v)=>v
 |none=>0
def stp(m:MP)(ks:List Int):Nat:=match Rb m ks 0 with
 |some (i,_)=>i
 |none=>m.length
def lc(m:MP)(ks:List Int):MP:=match Rb m ks 0 with
 |some _=>m
 |none=>m++[(ks,0)]
def Xc:MP->Nat->Int->MP
 |[],_,_=>[]
 |p::r,0,v=>(p.1,v)::r
 |p::r,i+1,v=>p::Xc r i v
theorem Qq:∀ (j:Nat) (m:MP) (i:Nat),(Pa j m)[i]? = (m[i]?).map (Lb (j+i))
 |_,[],i=>by simp[Pa]
 |j,p::r,0=>by simp[Pa]
 |j,p::r,i+1=>by simp[Pa,Qq (j+1) r i,Nat.add_assoc,Nat.add_comm 1 i]
theorem BL:∀ (j:Nat) (m n:MP),Pa j (m++n)=Pa j m++Pa (j+m.length) n
 |_,[],n=>by simp[Pa]
 |j,p::r,n=>by simp[Pa,BL (j+1) r n,Nat.add_assoc,Nat.add_comm 1 r.length]
theorem qC{j:Nat}{m:MP}{e:MapEntry}(h:e∈Pa j m):∃i p,m[i]? = some p/\e=Lb (j+i) p:=by
 obtain⟨i,hi⟩:=List.mem_iff_getElem?.1 h;rw[Qq]at hi;cases hm:m[i]? with
 |none=>rw[hm]at hi;cases hi
 |some p=>rw[hm]at hi;simp at hi;exact⟨i,p,hm,hi.symm⟩
theorem yl:∀ {m:MP} {ks:List Int} {j i:Nat} {v:Int},Rb m ks j=some (i,v)->j<=i/\m[i - j]? = some (ks,v)
 |[],_,_,_,_,h=>by simp[Rb]at h
 |p::r,ks,j,i,v,h=>by
  simp only[Rb]at h;split at h
  ·rename_i hp;simp only[Option.some.injEq,Prod.mk.injEq]at h;obtain⟨rfl,rfl⟩:=h;exact⟨Nat.le_refl _,by simp[← hp]⟩
  ·obtain⟨h1,h2⟩:=yl h;refine⟨by omega,?_⟩;rw[show i - j=(i - (j+1))+1 by omega];simpa using h2
theorem CL:∀ {m:MP} {ks:List Int} {j:Nat},Rb m ks j=none->∀p∈m,p.1≠ks
 |[],_,_,_,p,hp=>by simp at hp
 |q::r,ks,j,h,p,hp=>by
  simp only[Rb]at h;split at h
  .cases h
  ·rename_i hq;rcases List.mem_cons.1 hp with rfl|hp
   .exact hq
   .exact CL h p hp
section
variable {P:Program} {K n:Nat}
theorem DL:∀ {ks ls:List Int},ks.length=ls.length->pb (ks.map (C.int .i64)) (ls.map (C.int .i64))=some (decide (ks=ls))
 |[],[],_=>rfl
 |a::r,b::r',h=>by
  simp only[List.map_cons,pb];rw[DL (by simpa using h)];show some (cmp .eql a b&&decide (r=r'))=_
  congr 1
  by_cases h1:a=b<;>by_cases h2:r=r'<;>simp[cmp,h1,h2]
 |[],_::_,h=>by simp at h
 |_::_,[],h=>by simp at h
theorem FL(ks:List Int):((ks.map (C.int .i64)).map zv).toArray=(Bc ks).toArray:=by
 simp[Bc,zv]
theorem GL(hE:Of P K n)(w:World){ks ls:List Int}(h1:ks.length=n)(h2:ls.length=n):(Op.equal K (Aa ks) (Aa ls)).run P w=.ok (decide (ks=ls)) w:=by
 have:=hE.2 w (ks.map (C.int .i64)) (ls.map (C.int .i64)) _ (DL (by omega)) (by simpa using h1);rw[FL,FL]at this;exact this
def yb(n:Nat)(m:MP):Prop:=∀p∈m,p.1.length=n
theorem IL(hE:Of P K n)(w:World){ks:List Int}(hk:ks.length=n):∀ (m:MP) (j i:Nat),yb n m ->
  (Instr.findAsking K (Aa ks) (Pa j m) i).run P w=.ok ((Rb m ks i).map λq=>(q.1,Value.int .i64 q.2)) w
 |[],j,i,_=>by simp[Pa,Instr.findAsking,Rb]
 |p::r,j,i,hm=>by
  have h1:=GL hE w hk (hm p (by simp));simp only[Pa,Instr.findAsking,Sem.run_bind,Rb];show ((Op.equal K (Aa ks) (Aa p.1)).run P w).andThen _=_;rw[h1,Result.andThen_ok];by_cases e:p.1=ks
  .simp[e,Lb]
  ·have e':¬ ks=p.1:=λh=>e h.symm;simp only[e',decide_false,e,if_false,Bool.false_eq_true];exact IL hE w hk r (j+1) (i+1) (λq hq=>hm q (by simp[hq]))
theorem ML(hE:Of P K n){fs:Array Field}(hu:P.underlying K=some (.struct fs))(w:World){ks:List Int}(hk:ks.length=n)(m:MP)(hm:yb n m) :
  (Instr.findKey K (Aa ks) (Pa 0 m)).run P w=.ok ((Rb m ks 0).map λq=>(q.1,Value.int .i64 q.2)) w:=by
 unfold Instr.findKey;simp only[Sem.run_bind,run_underlying hu,Result.andThen_ok];cases m with
 |nil=>simp[Pa,Instr.findNow,Rb]
 |cons p r=>
  have:Instr.findNow (.struct fs) (Aa ks) (Pa 0 (p::r)) 0=none:=by simp[Pa,Instr.findNow,Instr.sameNow]
  rw[this];exact IL hE w hk _ 0 0 hm
def rC(P:Program)(K n:Nat):Prop:=∀ (b:Bool) (w:World) (ks:List Int),ks.length=n->(Instr.checkKey b 10000 K (Aa ks)).run P w=.ok () w
theorem NL:∀ (ks:List Int),(Bc ks).zip (Bc ks) |>.all (λ(x,y)=>Instr.sameBits 9999 x y)
 |[]=>rfl
 |a::r=>by
  simp only[Bc,List.map_cons,List.zip_cons_cons,List.all_cons,Bool.and_eq_true];exact⟨by simp[Instr.sameBits],NL r⟩
theorem PL(w:World)(ks:List Int):(Instr.keyThatStays (Aa ks) (Aa ks)).run P w=.ok (Aa ks) w:=by
 have:Instr.sameBits 10000 (Aa ks) (Aa ks)=true:=by
  show ((Bc ks).toArray.size == (Bc ks).toArray.size&&_)=true;simp only[BEq.rfl,Bool.true_and];exact NL ks
 simp[Instr.keyThatStays,this]
structure sC(P:Program)(T K E n:Nat):Prop where
 u:P.underlying T=some (.map K E)
 k:∃fs,P.underlying K=some (.struct fs)
 eq:Of P K n
 ck:rC P K n
 z:∀w,(zeroValue E).run P w=.ok (.int .i64 0) w
variable {T E:Nat} (M:sC P T K E n) {w:World} {r:Nat} {m:MP} (hr:w.heap[r]? = some (ra m)) (hm:yb n m) {ks:List Int} (hk:ks.length=n)
include M hr
include hm hk
theorem Rq:(Instr.lookup T (.map (some r)) (Aa ks) false).run P w=.ok (.int .i64 (Ra m ks)) w:=by
 obtain⟨fs,hu⟩:=M.k;have h1:=ML M.eq hu w hk m hm;have h2:∀b,(Instr.checkKey b 10000 K (Aa ks)).run P w=.ok () w:=λb=>M.ck b w ks hk;have hg:(getObj r).run P w=.ok (ra m) w:=by simp[getObj,Sem.run,hr,ra]
 unfold Instr.lookup;simp only[Sem.run_bind,run_underlying M.u,Result.andThen_ok,hg];simp only[ra,Sem.run_bind,Sem.run_pure,Result.andThen_ok,h2,h1];unfold Ra;cases hl:Rb m ks 0 with
 |none=>simp[M.z w]
 |some q=>simp
theorem QL:(Instr.mapEntry T (.map (some r)) (Aa ks)).run P w=.ok (.tuple #[.int .i64 (Ra m ks),goInt (stp m ks)]) (Sc w r (ra (lc m ks))):=by
 obtain⟨fs,hu⟩:=M.k;have h1:=ML M.eq hu w hk m hm;have h2:∀b,(Instr.checkKey b 10000 K (Aa ks)).run P w=.ok () w:=λb=>M.ck b w ks hk;have hg:(getObj r).run P w=.ok (ra m) w:=by simp[getObj,Sem.run,hr,ra]
 have hs:∀o,(setObj r o).run P w=.ok () (Sc w r o):=λo=>by simp[setObj,Sem.run,hr,ra,Sc]
 unfold Instr.mapEntry;simp only[Sem.run_bind,run_underlying M.u,Result.andThen_ok,hg];simp only[ra,Sem.run_bind,Result.andThen_ok,h2,h1];unfold Ra stp lc;cases hl:Rb m ks 0 with
 |none=>
  simp only[Option.map_none,Sem.run_bind,M.z w,Result.andThen_ok,hs,Sem.run_pure]
  have:ra (m++[(ks,0)])=.map ((Pa 0 m).toArray.push { key:=Aa ks,val:=.int .i64 0,born:=m.length }) (m.length+1):=by
   unfold ra;rw[BL];simp[Pa,Lb]
  rw[← ra,this]
 |some q=>
  obtain⟨i,v⟩:=q;obtain⟨_,hi⟩:=yl hl;rw[Nat.sub_zero]at hi
  have he:(Pa 0 m).toArray[i]? = some (Lb i (ks,v)):=by
   have:=Qq 0 m i;rw[hi]at this;simpa using this
  simp only[Option.map_some,Sem.run_bind,he,Option.getD_some];have hst:=PL (P:=P) w ks;have hke:(Lb i (ks,v)).key=Aa ks:=rfl;rw[hke,hst,Result.andThen_ok]
  have hmod:((Pa 0 m).toArray.modify i λe=>{ e with key:=Aa ks })=(Pa 0 m).toArray:=by
   apply Array.ext';apply List.ext_getElem?;intro j;simp only[Array.toList_modify,List.getElem?_modify];by_cases hij:i=j
   ·subst hij;have he':(Pa 0 m)[i]? = some (Lb i (ks,v)):=by simpa using he
    simp[he',Lb]
   .simp[hij]
  rw[hmod,hs,Result.andThen_ok];simp[Lb]
omit hm hk in
theorem RL{i:Nat}(hi:i<m.length)(v:Int):(Instr.entryStore T (.map (some r)) (goInt i) (.int .i64 v)).run P w=.ok () (Sc w r (ra (Xc m i v))):=by
 have _:=M;have hg:(getObj r).run P w=.ok (ra m) w:=by simp[getObj,Sem.run,hr,ra]
 have hs:∀o,(setObj r o).run P w=.ok () (Sc w r o):=λo=>by simp[setObj,Sem.run,hr,ra,Sc]
 have hfi:∀ (m:MP) (j i:Nat),i<m.length->(Pa j m).findIdx? (λe=>(e.born:Int) == ((j+i:Nat):Int))=some i:=by
  intro m
  induction m with
  |nil=>intro j i h;simp at h
  |cons p q ih=>
   intro j i h;cases i with
   |zero=>simp[Pa,Lb,List.findIdx?_cons]
   |succ i=>
    have h2:=ih (j+1) i (by simpa using h);simp only[Pa,List.findIdx?_cons];rw[show j+(i+1)=j+1+i by omega]
    have hne:(((Lb j p).born:Int) == ((j+1+i:Nat):Int))=false:=by
     have:((Lb j p).born:Int)=(j:Int):=rfl;rw[this];simp;omega
    rw[hne,h2];rfl
 have hfi0:(Pa 0 m).toArray.findIdx? (λe=>(e.born:Int) == (i:Int))=some i:=by
  have:=hfi m 0 i hi;simpa using this
 unfold Instr.entryStore;have hai:(asInt (goInt i)).run P w=.ok (i:Int) w:=by simp[asInt,asIntOf,goInt]
 simp only[Sem.run_bind,hg,Result.andThen_ok,ra,hai,hfi0,hs]
 have hmod:((Pa 0 m).toArray.modify i λe=>{ e with val:=.int .i64 v })=(Pa 0 (Xc m i v)).toArray:=by
  have hg2:∀ (m:MP) (j i k:Nat),(Pa j (Xc m i v))[k]? = if i=k then ((Pa j m)[k]?).map (λe=>{ e with val:=.int .i64 v }) else (Pa j m)[k]?:=by
   intro m
   induction m with
   |nil=>intro j i k;simp[Xc,Pa]
   |cons p q ih=>
    intro j i k;cases i with
    |zero=>cases k<;>simp[Xc,Pa,Lb]
    |succ i=>
     cases k with
     |zero=>simp[Xc,Pa]
     |succ k=>
      simp only[Xc,Pa,List.getElem?_cons_succ,ih (j+1) i k];simp
  apply Array.ext';apply List.ext_getElem?;intro k;simp only[Array.toList_modify,List.getElem?_modify];rw[hg2 m 0 i k];by_cases h:i=k<;>simp[h]
 have hlen:∀ (m:MP) (i:Nat),(Xc m i v).length=m.length:=by
  intro m
  induction m with
  |nil=>intro i;rfl
  |cons p q ih=>intro i;cases i<;>simp[Xc,ih]
 rw[hmod,hlen]
end
def ub(r:Nat)(m:MP)(S:List Nat):Obj:=.mapIter (some r) m.length S.toArray m.length
section
variable {P:Program} {w:World} {r it:Nat} {m:MP} (hr:w.heap[r]? = some (ra m)) {S:List Nat} (hit:w.heap[it]? = some (ub r m S))
include hr hit
theorem SL(t:Nat):((∀i,i<m.length->i∈S)/\(Instr.next (.pointer (some ⟨it,0,none⟩)) false t).run P w=.ok (.tuple #[.bool false]) w) \/
  ∃i p n,i ∉ S/\m[i]? = some p/\(Instr.next (.pointer (some ⟨it,0,none⟩)) false t).run P w=.ok (.tuple #[.bool true,Aa p.1,.int .i64 p.2]) (Sc { w with drawn:=n } it (ub r m (S++[i]))):=by
 have hg:(getObj r).run P w=.ok (ra m) w:=by simp[getObj,Sem.run,hr,ra]
 have hgi:(getObj it).run P w=.ok (ub r m S) w:=by simp[getObj,Sem.run,hit,ub]
 have hs:∀ (n:Nat) o,(setObj it o).run P { w with drawn:=n }=.ok () (Sc { w with drawn:=n } it o):=λn o=>by simp[setObj,Sem.run,hit,ub,Sc]
 let L0:=(Pa 0 m).filter λe=>!S.toArray.contains e.born;have hL0:(Pa 0 m).filter (λe=>!S.toArray.contains e.born)=L0:=rfl
 have hold:L0.filter (λe=>decide (e.born<m.length))=L0:=by
  apply List.filter_eq_self.2;intro e he;obtain⟨i,p,hp,rfl⟩:=qC (List.mem_filter.1 he).1;have:=(List.getElem?_eq_some_iff.1 hp).1;simp[Lb,this]
 have hnew:L0.filter (λe=>decide (e.born >= m.length))=[]:=by
  apply List.filter_eq_nil_iff.2;intro e he;obtain⟨i,p,hp,rfl⟩:=qC (List.mem_filter.1 he).1;have:=(List.getElem?_eq_some_iff.1 hp).1;simp[Lb];omega
 have hlast:(!S.toArray.isEmpty&&!(Pa 0 m).toArray.isEmpty&&(Pa 0 m).toArray.all (λe=>decide (e.born >= m.length)))=false:=by
  cases hm:m with
  |nil=>simp[Pa]
  |cons p q=>simp[Pa,Lb]
 have hrun:(Instr.next (.pointer (some ⟨it,0,none⟩)) false t).run P w =
   (do let c ← choose (.mapNext ((if L0.isEmpty then #[none] else #[])++(L0.map some).toArray:Array (Option MapEntry)).size)
       match (((if L0.isEmpty then #[none] else #[])++(L0.map some).toArray:Array (Option MapEntry)))[c]? with
       |some (some e)=>do
        setObj it (.mapIter (some r) m.length (S.toArray.push e.born) m.length)
        pure (Value.tuple #[.bool true,e.key,e.val])
       |some none=>pure (.tuple #[.bool false])
       |none=>stuck "Next: no such candidate" : Sem Value).run P w:=by
  unfold Instr.next;simp only[Sem.run_bind,hgi,Result.andThen_ok,ub,hg,ra,hlast,Bool.false_eq_true,if_false];simp only[List.filter_toArray,hL0,hold,hnew,List.append_toArray,List.append_nil,List.map_toArray,List.isEmpty_toArray];rfl
 have hmemL:∀e∈L0,∃i p,m[i]? = some p/\e=Lb i p/\i ∉ S:=by
  intro e he;obtain⟨h1,h2⟩:=List.mem_filter.1 he;obtain⟨i,p,hp,rfl⟩:=qC h1;rw[Nat.zero_add]at h2⊢;refine⟨i,p,hp,rfl,?_⟩;simpa [Lb] using h2
 rw[hrun];cases hL:L0 with
 |nil=>
  left;refine⟨λi hi=>?_,?_⟩
  ·by_cases hiS:i∈S
   .exact hiS
   ·exfalso
    have hmem:Lb i m[i]∈L0:=by
     refine List.mem_filter.2 ⟨List.mem_iff_getElem?.2 ⟨i,by rw[Qq,List.getElem?_eq_getElem hi];simp⟩,?_⟩;simp[Lb,hiS]
    rw[hL]at hmem;simp at hmem
  .simp[choose,Sem.run,Question.forced]
 |cons e0 l=>
  right
  have hch:∃c n,c<(e0::l).length/\∀ (k:Nat->Sem Value),((choose (.mapNext (e0::l).length)) >>= k).run P w=(k c).run P { w with drawn:=n }:=by
   cases hf:(Question.mapNext (e0::l).length).forced with
   |true=>exact⟨0,w.drawn,by simp,λk=>by show (if _ then _ else _)=_;rw[if_pos hf];rfl⟩
   |false=>
    refine⟨(Question.mapNext (e0::l).length).cut (w.tape w.drawn (.mapNext (e0::l).length)),w.drawn+1,?_,λk=>by show (if _ then _ else _)=_;rw[if_neg (by rw[hf];simp)];rfl⟩;exact Nat.mod_lt _ (by simp)
  obtain⟨c,n,hc,hk⟩:=hch;obtain⟨i,p,hp,he,hi⟩:=hmemL ((e0::l)[c]) (by rw[hL];exact List.getElem_mem hc);refine⟨i,p,n,hi,hp,?_⟩;have hsz:((if (e0::l).isEmpty then #[none] else #[])++((e0::l).map some).toArray:Array (Option MapEntry)).size=(e0::l).length:=by simp
  have hget:((if (e0::l).isEmpty then #[none] else #[])++((e0::l).map some).toArray:Array (Option MapEntry))[c]? = some (some (Lb i p)):=by
   rw[← he];simp only[List.isEmpty_cons,Bool.false_eq_true,if_false,Array.empty_append,List.getElem?_toArray,List.getElem?_map,List.getElem?_eq_getElem hc,Option.map_some]
  rw[hsz,hk];simp only[hget,Sem.run_bind,hs,Result.andThen_ok,Sem.run_pure];simp[Lb,ub]
theorem UL{i:Nat}{p:List Int×Int}(hp:m[i]? = some p)(hS:∃S',S=S'++[i]):(Instr.entry (.pointer (some ⟨it,0,none⟩))).run P w=.ok (.tuple #[Aa p.1,.int .i64 p.2]) w:=by
 obtain⟨S',rfl⟩:=hS;have hg:(getObj r).run P w=.ok (ra m) w:=by simp[getObj,Sem.run,hr,ra]
 have hgi:(getObj it).run P w=.ok (ub r m (S'++[i])) w:=by simp[getObj,Sem.run,hit,ub]
 have hfd:∀ (m:MP) (j i:Nat),m[i]? = some p->(Pa j m).find? (λe=>e.born == j+i)=some (Lb (j+i) p):=by
  intro m
  induction m with
  |nil=>intro j i h;simp at h
  |cons q r ih=>
   intro j i h;cases i with
   |zero=>simp at h;subst h;simp[Pa,Lb]
   |succ i=>
    have h2:=ih (j+1) i (by simpa using h);simp only[Pa,List.find?_cons];rw[show j+(i+1)=j+1+i by omega]
    have hne:((Lb j q).born == j+1+i)=false:=by
     show (j == j+1+i)=false;simp;omega
    rw[hne,h2]
 have hfd0:(Pa 0 m).toArray.find? (λe=>e.born == i)=some (Lb i p):=by
  have:=hfd m 0 i hp;simpa using this
 unfold Instr.entry;simp only[Sem.run_bind,hgi,Result.andThen_ok,ub];simp[hfd0,hg,ra,Lb]
end
end Go.Proofs.YthfkpijcajdnhaaGreat

namespace Go.Proofs.YthfkpijcajdnhaaGreat
open Go
section
variable {P:Program}
def CkP(P:Program)(d t n:Nat):Prop:=∀ (b:Bool) (w:World) (cs:List Int) (off:Nat),((cs.drop off).take n).length=n ->
 ∃x,(Go.part t (Bc cs).toArray off).run P w=.ok x w/\(Instr.checkKey b d t x).run P w=.ok () w
theorem XX{d t:Nat}{k:IntKind}(hu:P.underlying t=some (.int k)):CkP P (d+1) t 1:=by
 intro b w cs off hl;cases hc:cs.drop off with
 |nil=>rw[hc]at hl;simp at hl
 |cons c cr=>
  have h1:cs[off]? = some c:=by
   have:=List.getElem?_drop (xs:=cs) (i:=off) (j:=0);rw[hc]at this;simpa using this.symm
  refine⟨.int .i64 c,?_,?_⟩
  .simp[Go.part,Go.isAgg,run_underlying hu,Bc,h1]
  .simp[Instr.checkKey,run_underlying hu]
theorem VL{d:Nat}{sz:Nat->Option Nat}(hsz:∀t n,sz t=some n->CkP P d t n)(b:Bool)(w:World)(cs:List Int):∀ {fs:List Field} {o n:Nat},uf sz fs o=some n->((cs.drop o).take (n - o)).length=n - o ->
  (forIn (m:=Sem) fs PUnit.unit λf _=>(if f.name≠"_" then do Instr.checkKey b d f.type (← Go.part f.type (Bc cs).toArray f.offset);pure (ForInStep.yield PUnit.unit) else pure (ForInStep.yield PUnit.unit))).run P w=.ok PUnit.unit w
 |[],o,n,_,_=>by simp
 |f::fs,o,n,h,hl=>by
  simp only[uf]at h;split at h
  ·rename_i k hc hk;simp only[Bool.and_eq_true,bne_iff_ne,ne_eq]at hc;have ho:=Nat.eq_of_beq_eq_true hc.1;have hle:=iC h
   have hsp:∀l:List Int,(l.drop o).take (n - o)=(l.drop o).take k++(l.drop (o+k)).take (n - (o+k)):=λl=>by
    rw[show n - o=k+(n - (o+k)) by omega,List.take_add,List.drop_drop]
   rw[hsp cs]at hl
   have hl1:((cs.drop o).take k).length=k/\((cs.drop (o+k)).take (n - (o+k))).length=n - (o+k):=by
    rw[List.length_append]at hl;have h1:((cs.drop o).take k).length<=k:=by simp;omega
    have h2:((cs.drop (o+k)).take (n - (o+k))).length<=n - (o+k):=by simp;omega
    omega
   obtain⟨x,p1,p2⟩:=hsz f.type k hk b w cs o hl1.1;have ih:=VL hsz b w cs h hl1.2;simp only[List.forIn_cons,Sem.run_bind,ne_eq,hc.2,not_false_eq_true,if_true,ho,p1,p2,Result.andThen_ok,Sem.run_pure];exact ih
  .cases h
theorem WL:∀ (m t n d:Nat),vf P m t=some n->CkP P (d+m) t n
 |0,_,_,_,h=>by simp[vf]at h
 |m+1,t,n,d,h=>by
  simp only[vf]at h;split at h
  ·rename_i k i hu hi;simp only[Option.some.injEq]at h;subst h;exact XX (d:=d+m) hu
  ·rename_i fs i hu hi;split at h
   ·rename_i n' hs hf;split at h
    ·rename_i hn;simp only[Option.some.injEq]at h;subst h;have hn:=Nat.eq_of_beq_eq_true hn;intro b w cs off hl
     have hex:((Bc cs).toArray.extract off (off+n'))=(Bc ((cs.drop off).take n')).toArray:=by
      apply Array.ext';simp[Bc,List.map_drop,List.map_take]
     refine⟨.agg (Bc ((cs.drop off).take n')).toArray,?_,?_⟩
     ·rw[← hex];simp[Go.part,Go.isAgg,run_underlying hu,sizeOf,typeInfo,hi,hn]
     ·have hk:=VL (λt n h=>WL m t n d h) b w ((cs.drop off).take n') (fs:=fs.toList) hf (by rw[Nat.sub_zero,List.drop_zero,List.take_take,Nat.min_self];exact hl);rw[show d+(m+1)=(d+m)+1 from rfl];simp only[Instr.checkKey,Sem.run_bind,run_underlying hu,Result.andThen_ok];rw[← Array.forIn_toList];rw[hk];rfl
    .cases h
   .cases h
  .cases h
theorem tC{K n:Nat}{fs:Array Field}(hu:P.underlying K=some (.struct fs)){i:TypeInfo}(hi:P.info? K=some i)(hin:i.size=n)(h:vf P 9 K=some n):rC P K n:=by
 intro b w ks hk;obtain⟨x,p1,p2⟩:=WL 9 K n 9991 h b w ks 0 (by simp;omega)
 have hex:((Bc ks).toArray.extract 0 n)=(Bc ks).toArray:=by
  apply Array.ext';simp[Bc,List.take_of_length_le (show (ks.map (Value.int .i64)).length<=n by simp;omega)]
 have hpart:(Go.part K (Bc ks).toArray 0).run P w=.ok (Aa ks) w:=by
  have hex':Array.extract (Bc ks).toArray 0 n=(Bc ks).toArray:=hex;simp only[Go.part,Go.isAgg,run_underlying hu,sizeOf,typeInfo,hi,hin,Sem.run_bind,Sem.run_pure,Result.andThen_ok,Nat.zero_add,if_true,run_program];simp[hex',Aa]
 rw[hpart]at p1;cases p1;exact p2
end
def stepM(m:MP)(q:List Int×Int):MP:=Xc (lc m q.1) (stp m q.1) (ar .add .i64 (Ra m q.1) q.2)
def Ma(l:List (List Int×Int)):MP:=l.foldl stepM []
def la(m:MP):List (List Int):=m.map (·.1)
theorem uC:∀ (m:MP) (i:Nat) (v:Int),la (Xc m i v)=la m
 |[],_,_=>rfl
 |_::_,0,_=>rfl
 |p::r,i+1,v=>by
  have:=uC r i v;simp only[la,Xc,List.map_cons]at this⊢;rw[this]
theorem YX(m:MP)(ks:List Int):la (lc m ks)=if ks∈la m then la m else la m++[ks]:=by
 unfold lc;cases h:Rb m ks 0 with
 |some q=>
  obtain⟨i,v⟩:=q;obtain⟨_,h2⟩:=yl h;have:ks∈la m:=List.mem_map.2 ⟨_,List.mem_of_getElem? h2,rfl⟩;simp[this]
 |none=>
  have h2:=CL h
  have:ks ∉ la m:=λhm=>by
   obtain⟨p,hp,he⟩:=List.mem_map.1 hm;exact h2 p hp he
  rw[if_neg this];simp[la]
theorem Sq(m:MP)(q:List Int×Int):la (stepM m q)=if q.1∈la m then la m else la m++[q.1]:=by
 unfold stepM;rw[uC,YX]
theorem vC{m:MP}(h:(la m).Nodup)(q:List Int×Int):(la (stepM m q)).Nodup:=by
 rw[Sq];split
 .exact h
 ·rename_i hn;rw[List.nodup_append];exact⟨h,by simp,λa ha b hb e=>by simp at hb;subst hb;subst e;exact hn ha⟩
theorem zl(l:List (List Int×Int)):(la (Ma l)).Nodup:=by
 unfold Ma
 suffices ∀ (l:List (List Int×Int)) (m:MP),(la m).Nodup->(la (l.foldl stepM m)).Nodup from this l [] (by simp[la])
 intro l
 induction l with
 |nil=>exact λm h=>h
 |cons q r ih=>exact λm h=>ih _ (vC h q)
theorem ZX(p:List Int×Int)(m:MP)(ks:List Int)(j:Nat):Rb (p::m) ks j=if p.1=ks then some (j,p.2) else Rb m ks (j+1):=rfl
theorem XL:∀ (m:MP) (ks:List Int) (j:Nat),Rb m ks (j+1)=(Rb m ks j).map λq=>(q.1+1,q.2)
 |[],_,_=>rfl
 |p::r,ks,j=>by
  simp only[Rb];split
  .rfl
  .exact XL r ks (j+1)
theorem Ke(p:List Int×Int)(m:MP)(ks:List Int):Ra (p::m) ks=if p.1=ks then p.2 else Ra m ks:=by
 unfold Ra;rw[ZX,XL];by_cases h:p.1=ks
 .simp[h]
 ·simp only[h,if_false];cases Rb m ks 0<;>simp
theorem aY(m:MP)(ks ls:List Int):Ra (m++[(ks,0)]) ls=Ra m ls:=by
 induction m with
 |nil=>simp[Ra,Rb];split<;>simp_all
 |cons p r ih=>rw[List.cons_append,Ke,Ke,ih]
theorem YL(m:MP)(ks ls:List Int):Ra (lc m ks) ls=Ra m ls:=by
 unfold lc;split
 .rfl
 .exact aY m ks ls
theorem ZL:∀ {m:MP} {i:Nat} {ks:List Int} {v0:Int} (v:Int),(la m).Nodup->m[i]? = some (ks,v0)->∀ls,Ra (Xc m i v) ls=if ls=ks then v else Ra m ls
 |[],_,_,_,_,_,h,_=>by simp at h
 |p::r,0,ks,v0,v,_,h,ls=>by
  simp at h;subst h;simp only[Xc,Ke];by_cases e:ks=ls
  .simp[e]
  .simp[e,Ne.symm e]
 |p::r,i+1,ks,v0,v,hn,h,ls=>by
  have h':r[i]? = some (ks,v0):=by simpa using h
  have hn':p.1 ∉ la r/\(la r).Nodup:=by simpa [la] using hn
  have ih:=ZL v hn'.2 h' ls;simp only[Xc,Ke,ih];by_cases e:p.1=ls
  ·have:ls≠ks:=λe2=>hn'.1 (by rw[e,e2];exact List.mem_map.2 ⟨_,List.mem_of_getElem? h',rfl⟩);simp[e,this]
  .simp[e]
theorem aM(m:MP)(ks:List Int):∃v0,(lc m ks)[stp m ks]? = some (ks,v0):=by
 unfold lc stp;cases h:Rb m ks 0 with
 |some q=>
  obtain⟨i,v⟩:=q;obtain⟨_,h2⟩:=yl h;exact⟨v,by simpa using h2⟩
 |none=>exact⟨0,by simp⟩
theorem cY{m:MP}(hn:(la m).Nodup)(q:List Int×Int)(ls:List Int):Ra (stepM m q) ls=if ls=q.1 then ar .add .i64 (Ra m q.1) q.2 else Ra m ls:=by
 obtain⟨v0,h⟩:=aM m q.1
 have hn2:(la (lc m q.1)).Nodup:=by
  have:=vC hn q;unfold stepM at this;rwa [uC]at this
 unfold stepM;rw[ZL _ hn2 h,YL]
theorem wC{m:MP}{ks:List Int}(h:ks ∉ la m):Ra m ks=0:=by
 unfold Ra;cases hl:Rb m ks 0 with
 |none=>rfl
 |some q=>
  obtain⟨i,v⟩:=q;obtain⟨_,h2⟩:=yl hl;exact absurd (List.mem_map.2 ⟨_,List.mem_of_getElem? h2,rfl⟩) h
theorem Tq{m:MP}(hn:(la m).Nodup){p:List Int×Int}(h:p∈m):Ra m p.1=p.2:=by
 induction m with
 |nil=>simp at h
 |cons q r ih=>
  rw[Ke];have hn':q.1 ∉ la r/\(la r).Nodup:=by simpa [la] using hn
  rcases List.mem_cons.1 h with rfl|h
  .simp
  ·have:q.1≠p.1:=λe=>hn'.1 (e▸List.mem_map.2 ⟨p,h,rfl⟩);simp[this,ih hn'.2 h]
def Le(l:List (List Int×Int))(ks:List Int):Int:=l.foldl (λs q=>if q.1=ks then ar .add .i64 s q.2 else s) 0
theorem xC(l:List (List Int×Int))(ks:List Int):Ra (Ma l) ks=Le l ks:=by
 unfold Ma Le
 suffices ∀ (l:List (List Int×Int)) (m:MP),(la m).Nodup->Ra (l.foldl stepM m) ks=l.foldl (λs q=>if q.1=ks then ar .add .i64 s q.2 else s) (Ra m ks) by
  have:=this l [] (by simp[la]);simpa [Ra,Rb] using this
 intro l
 induction l with
 |nil=>exact λm _=>rfl
 |cons q r ih=>
  intro m hn;simp only[List.foldl_cons];rw[ih _ (vC hn q),cY hn]
  congr 1
  by_cases h:q.1=ks
  .simp[h]
  .simp[h,Ne.symm h]
def ltK:List Int->List Int->Bool
 |a::r,b::r'=>decide (a<b)||(decide (a=b)&&ltK r r')
 |_,_=>false
theorem Me:∀a,ltK a a=false
 |[]=>rfl
 |a::r=>by simp[ltK,Me r]
theorem Rf:∀ {a b c:List Int},ltK a b=true->ltK b c=true->ltK a c=true
 |a::r,b::r',c::r'',h1,h2=>by
  simp only[ltK,Bool.or_eq_true,Bool.and_eq_true,decide_eq_true_eq]at h1 h2⊢;rcases h1 with h1|⟨rfl,h1⟩<;>rcases h2 with h2|⟨rfl,h2⟩
  .left;omega
  .left;exact h1
  .left;exact h2
  .right;exact⟨rfl,Rf h1 h2⟩
 |[],_,_,h1,_=>by simp[ltK]at h1
 |_::_,[],_,h1,_=>by simp[ltK]at h1
 |_::_,_::_,[],_,h2=>by simp[ltK]at h2
theorem Uq:∀ {a b:List Int},a.length=b.length->a≠b->ltK a b=true\/ltK b a=true
 |[],[],_,h=>absurd rfl h
 |a::r,b::r',hl,h=>by
  simp only[ltK,Bool.or_eq_true,Bool.and_eq_true,decide_eq_true_eq];by_cases e:a=b
  ·subst e;rcases Uq (a:=r) (b:=r') (by simpa using hl) (λe=>h (by rw[e])) with h|h
   .exact .inl (.inr ⟨rfl,h⟩)
   .exact .inr (.inr ⟨rfl,h⟩)
  ·rcases Int.lt_or_gt_of_ne e with h|h
   .exact .inl (.inl h)
   .exact .inr (.inl h)
 |[],_::_,hl,_=>by simp at hl
 |_::_,[],hl,_=>by simp at hl
def Fh(p:List Int×Int):MP->MP
 |[]=>[p]
 |q::r=>if ltK p.1 q.1 then p::q::r else q::Fh p r
def Ii:MP->MP
 |[]=>[]
 |p::r=>Fh p (Ii r)
theorem yC(p:List Int×Int):∀m:MP,(Fh p m).Perm (p::m)
 |[]=>.refl _
 |q::r=>by
  simp only[Fh];split
  .exact .refl _
  .exact ((yC p r).cons q).trans (.swap p q r)
theorem Al:∀m:MP,(Ii m).Perm m
 |[]=>.refl _
 |p::r=>(yC p (Ii r)).trans ((Al r).cons p)
abbrev Asc(m:MP):Prop:=m.Pairwise λp q=>ltK p.1 q.1=true
theorem bM{n:Nat}{p:List Int×Int}:∀ {m:MP},Asc m->yb n m->p.1.length=n->p.1 ∉ la m->Asc (Fh p m)
 |[],_,_,_,_=>by simp[Fh]
 |q::r,h,hk,hp,hn=>by
  simp only[Fh];have h':=List.pairwise_cons.1 h;split
  ·rename_i hlt;refine List.pairwise_cons.2 ⟨λs hs=>?_,h⟩;rcases List.mem_cons.1 hs with rfl|hs
   .exact hlt
   .exact Rf hlt (h'.1 s hs)
  ·rename_i hlt;have hne:p.1≠q.1:=λe=>hn (by simp[la,e]);have hqp:ltK q.1 p.1=true:=(Uq (by rw[hp,hk q (by simp)]) hne).elim (λh=>absurd h hlt) id;refine List.pairwise_cons.2 ⟨λs hs=>?_,bM h'.2 (λs hs=>hk s (by simp[hs])) hp (λhm=>hn (by simp only[la,List.map_cons,List.mem_cons];exact .inr hm))⟩;rcases List.mem_cons.1 ((yC p r).mem_iff.1 hs) with rfl|hs
   .exact hqp
   .exact h'.1 s hs
theorem Vq{n:Nat}:∀ {m:MP},(la m).Nodup->yb n m->Asc (Ii m)
 |[],_,_=>by simp[Ii]
 |p::r,hn,hk=>by
  have hn':p.1 ∉ la r/\(la r).Nodup:=by simpa [la] using hn
  have hp:=Al r;refine bM (Vq hn'.2 (λs hs=>hk s (by simp[hs]))) (λs hs=>hk s (by simp[hp.mem_iff.1 hs])) (hk p (by simp)) (λhm=>hn'.1 ?_);obtain⟨s,hs,e⟩:=List.mem_map.1 hm;exact List.mem_map.2 ⟨s,hp.mem_iff.1 hs,e⟩
theorem zC:∀ {a b:MP},a.Perm b->Asc a->Asc b->a=b
 |[],b,hp,_,_=>(List.nil_perm.1 hp).symm
 |x::a,[],hp,_,_=>(List.perm_nil.1 hp)
 |x::a,y::b,hp,ha,hb=>by
  have ha':=List.pairwise_cons.1 ha;have hb':=List.pairwise_cons.1 hb
  have hxy:x=y:=by
   rcases List.mem_cons.1 (hp.mem_iff.1 (List.mem_cons_self ..)) with h|h
   .exact h
   ·rcases List.mem_cons.1 (hp.mem_iff.2 (List.mem_cons_self ..)) with h2|h2
    .exact h2.symm
    ·have h3:=Rf (hb'.1 x h) (ha'.1 y h2);rw[Me]at h3;cases h3
  subst hxy;rw[zC (List.perm_cons x |>.1 hp) ha'.2 hb'.2]
def mc(l:List (List Int×Int)):MP:=Ii ((Ma l).filter λp=>p.2 != 0)
theorem Gh{n:Nat}{l:List (List Int×Int)}(hk:yb n l):Asc (mc l):=by
 have hka:yb n (Ma l):=by
  have key:∀ (l:List (List Int×Int)) (m:MP),yb n l->(∀k∈la m,k.length=n)->∀k∈la (l.foldl stepM m),k.length=n:=by
   intro l
   induction l with
   |nil=>exact λm _ h=>h
   |cons q r ih=>
    intro m hl hm;refine ih _ (λp hp=>hl p (by simp[hp])) (λk hk=>?_);rw[Sq]at hk;split at hk
    .exact hm k hk
    ·rcases List.mem_append.1 hk with hk|hk
     .exact hm k hk
     .simp at hk;subst hk;exact hl q (by simp)
  intro p hp;exact key l [] hk (by simp[la]) p.1 (List.mem_map.2 ⟨p,hp,rfl⟩)
 refine Vq (n:=n) ?_ (λp hp=>hka p (List.mem_filter.1 hp).1);exact (zl l).sublist (List.Sublist.map _ List.filter_sublist)
theorem ze{l:List (List Int×Int)}{p:List Int×Int}:p∈mc l↔p.2=Le l p.1/\p.2≠0:=by
 unfold mc;rw[(Al _).mem_iff,List.mem_filter];constructor
 ·rintro⟨h1,h2⟩;exact⟨by rw[← xC,Tq (zl l) h1],by simpa using h2⟩
 ·rintro⟨h1,h2⟩;refine⟨?_,by simpa using h2⟩;by_cases hm:p.1∈la (Ma l)
  ·obtain⟨q,hq,e⟩:=List.mem_map.1 hm;have:=Tq (zl l) hq;rw[xC,e,← h1]at this;have:q=p:=Prod.ext e this.symm;rwa [this]at hq
  .exact absurd (by rw[h1,← xC,wC hm]) h2
end Go.Proofs.YthfkpijcajdnhaaGreat

namespace Go.Proofs.YthfkpijcajdnhaaGreat
open Go
def opsOf:Code->Array Oper
 |.region _ ops _=>ops
 |_=>#[]
def Bl:Code->Nat
 |.region i _ _=>i
 |_=>0
def opN(ops:Array Oper)(i:Nat):Oper:=(ops[i]?).getD default
def Sf(o:Oper)(j:Nat):Bool:=o.after.toList.any λe=>Nat.beq e.on j&&Region.binds .any e
theorem Ji{o:Oper}{L:Nat->Bool}(h:∀e∈o.after,Region.binds .any e=true->L e.on=true){j:Nat}(hj:Sf o j=true):L j=true:=by
 unfold Sf at hj;rw[List.any_eq_true]at hj;obtain⟨e,he,hb⟩:=hj;simp only[Bool.and_eq_true]at hb;have:=h e (by simpa using he) hb.2;rwa [Nat.eq_of_beq_eq_true hb.1]at this
theorem Ki{ops:Array Oper}{i:Nat}{o:Oper}(h:ops[i]? = some o):opN ops i=o:=by
 unfold opN;rw[h];rfl
section
variable {P:Program} {a:Act} {w:World} {o:Oper}
theorem vd{o:Oper}{s:Sem Value}{v:Value}{w':World}(h:execOp a.eval o=(do pure (.value (← s))))(hr:s.run P w=.ok v w'):(execOp a.eval o).run P w=.ok (.value v) w':=by
 rw[h];simp[hr]
theorem cM{o:Oper}{s:Sem Unit}{w':World}(h:execOp a.eval o=(do s;pure .skip))(hr:s.run P w=.ok () w'):(execOp a.eval o).run P w=.ok .skip w':=by
 rw[h];simp[hr]
theorem Xd{s:Nat}(hop:o.op=.move (.tmp s)):(execOp a.eval o).run P w=.ok (.value (a.tmps.getD s undef)) w:=by
 obtain⟨dst,op,ty,pos,aft,gd⟩:=o;simp only[]at hop;subst hop;simp[execOp,Act.eval]
theorem Cl{s:Nat}(hop:o.op=.assign (.tmp s)):(execOp a.eval o).run P w=.ok (.value (a.tmps.getD s undef)) w:=by
 obtain⟨dst,op,ty,pos,aft,gd⟩:=o;simp only[]at hop;subst hop;simp[execOp,Act.eval]
theorem AC{t:Nat}(hop:o.op=.makeMap t none):(execOp a.eval o).run P w=.ok (.value (.map (some w.heap.size))) (w.alloc (.map #[] 0)):=by
 obtain⟨dst,op,ty,pos,aft,gd⟩:=o;simp only[]at hop;subst hop;exact vd (s:=Instr.makeMap t none) rfl rfl
theorem Wq{t x k:Nat}(hop:o.op=.lookup t (.tmp x) (.tmp k) false){v:Value}(h:(Instr.lookup t (a.tmps.getD x undef) (a.tmps.getD k undef) false).run P w=.ok v w):(execOp a.eval o).run P w=.ok (.value v) w:=by
 obtain⟨dst,op,ty,pos,aft,gd⟩:=o;simp only[]at hop;subst hop;exact vd (s:=Instr.lookup t (a.tmps.getD x undef) (a.tmps.getD k undef) false) rfl h
theorem dM{t x k:Nat}(hop:o.op=.mapEntry t (.tmp x) (.tmp k)){v:Value}{w':World}(h:(Instr.mapEntry t (a.tmps.getD x undef) (a.tmps.getD k undef)).run P w=.ok v w'):(execOp a.eval o).run P w=.ok (.value v) w':=by
 obtain⟨dst,op,ty,pos,aft,gd⟩:=o;simp only[]at hop;subst hop;exact vd (s:=Instr.mapEntry t (a.tmps.getD x undef) (a.tmps.getD k undef)) rfl h
theorem eM{t x k v:Nat}(hop:o.op=.entryStore t (.tmp x) (.tmp k) (.tmp v)){w':World}(h:(Instr.entryStore t (a.tmps.getD x undef) (a.tmps.getD k undef) (a.tmps.getD v undef)).run P w=.ok () w'):(execOp a.eval o).run P w=.ok .skip w':=by
 obtain⟨dst,op,ty,pos,aft,gd⟩:=o;simp only[]at hop;subst hop;exact cM (s:=Instr.entryStore t (a.tmps.getD x undef) (a.tmps.getD k undef) (a.tmps.getD v undef)) rfl h
theorem fM{t x:Nat}(hop:o.op=.range t (.tmp x)){v:Value}{w':World}(h:(Instr.range t (a.tmps.getD x undef)).run P w=.ok v w'):(execOp a.eval o).run P w=.ok (.value v) w':=by
 obtain⟨dst,op,ty,pos,aft,gd⟩:=o;simp only[]at hop;subst hop;exact vd (s:=Instr.range t (a.tmps.getD x undef)) rfl h
theorem Xq{x:Nat}(hop:o.op=.next (.tmp x) false){v:Value}{w':World}(h:(Instr.next (a.tmps.getD x undef) false o.type).run P w=.ok v w'):(execOp a.eval o).run P w=.ok (.value v) w':=by
 obtain⟨dst,op,ty,pos,aft,gd⟩:=o;simp only[]at hop h;subst hop;exact vd (s:=Instr.next (a.tmps.getD x undef) false ty) rfl h
theorem gM{x:Nat}(hop:o.op=.entry (.tmp x)){v:Value}{w':World}(h:(Instr.entry (a.tmps.getD x undef)).run P w=.ok v w'):(execOp a.eval o).run P w=.ok (.value v) w':=by
 obtain⟨dst,op,ty,pos,aft,gd⟩:=o;simp only[]at hop;subst hop;exact vd (s:=Instr.entry (a.tmps.getD x undef)) rfl h
theorem xf{x i:Nat}(hop:o.op=.extract (.tmp x) i){vs:Array Value}{v:Value}(hx:a.tmps.getD x undef=.tuple vs)(h:vs[i]? = some v):(execOp a.eval o).run P w=.ok (.value v) w:=by
 obtain⟨dst,op,ty,pos,aft,gd⟩:=o;simp only[]at hop;subst hop;exact vd (s:=Instr.extract (a.tmps.getD x undef) i) rfl (by rw[hx];simp[Instr.extract,h])
theorem eY{t:Nat}{d:TD}(hd:Gb P t d){fs:List (Nat×Nat)}(hs:d.sh=.struct fs){i o n:Nat}(hi:fs[i]? = some (o,n))(b p:Nat):(Instr.fieldAt t (.pointer (some ⟨b,p,none⟩)) i).run P w=.ok (.pointer (some ⟨b,p+o,none⟩)) w:=by
 obtain⟨u,hu,hdu⟩:=hd.und;rw[hs]at hdu;obtain⟨fields,rfl,hf⟩:=hdu;obtain⟨f,hfi,hfo,hfn,hpos⟩:=CK hf hi;have hfi':fields[i]? = some f:=by rw[← Array.getElem?_toList];exact hfi
 have hsz:=rB (P:=P) hfn hpos w;have hne:¬ n=0:=by omega
 simp[Instr.fieldAt,run_underlying hu,hfi',Instr.sureAddr,fieldPlace,hsz,hne,addr_add,hfo]
theorem Hh{t x i:Nat}(hop:o.op=.fieldAddr t (.tmp x) i){b c:Nat}(hx:a.tmps.getD x undef=.pointer (some ⟨b,c,none⟩)){d:TD}(hd:Gb P t d){fs:List (Nat×Nat)}(hs:d.sh=.struct fs){k n:Nat}(hi:fs[i]? = some (k,n)) :
  (execOp a.eval o).run P w=.ok (.value (.pointer (some ⟨b,c+k,none⟩))) w:=by
 obtain⟨dst,op,ty,pos,aft,gd⟩:=o;simp only[]at hop;subst hop;exact vd (s:=Instr.fieldAt t (a.tmps.getD x undef) i) rfl (by rw[hx];exact eY hd hs hi b c)
theorem yf{t x:Nat}(hop:o.op=.load t (.tmp x)){b c:Nat}(hx:a.tmps.getD x undef=.pointer (some ⟨b,c,none⟩)){d:TD}(hd:Gb P t d)(ha:isAgg d=false){u:Value}(hu:w.cell? ⟨b,c,none⟩=some u) :
  (execOp a.eval o).run P w=.ok (.value u) w:=by
 obtain⟨dst,op,ty,pos,aft,gd⟩:=o;simp only[]at hop;subst hop;have hl:=il hd ha (w:=w) hu;exact vd (s:=Instr.loadAt t (a.tmps.getD x undef)) rfl (by rw[hx];exact hl)
theorem iM{t x y u:Nat}(hop:o.op=.binOp .add t (.tmp x) (.tmp y) u){m n:Int}(hx:a.tmps.getD x undef=.int .i64 m)(hy:a.tmps.getD y undef=.int .i64 n):(execOp a.eval o).run P w=.ok (.value (.int .i64 (ar .add .i64 m n))) w:=by
 obtain⟨dst,op,ty,pos,aft,gd⟩:=o;simp only[]at hop;subst hop;have hx':a.eval (.tmp x)=.int .i64 m:=hx;have hy':a.eval (.tmp y)=.int .i64 n:=hy;simp only[execOp,hx',hy'];simp[eqGuard,binOp,Op.intArith,ar]
theorem jM{t x:Nat}(hop:o.op=.makeInterface t (.tmp x)){e:Nat}(hu:P.underlying t=some (.slice e)):(execOp a.eval o).run P w=.ok (.value (.iface t (a.tmps.getD x undef))) w:=by
 obtain⟨dst,op,ty,pos,aft,gd⟩:=o;simp only[]at hop;subst hop;exact vd (s:=Instr.makeInterface t (a.tmps.getD x undef)) rfl (by simp[Instr.makeInterface,run_underlying hu])
theorem kM{f:Fn}{x:Nat}(hop:o.op=.makeFunc f #[] #[.tmp x]):(execOp a.eval o).run P w=.ok (.value (.func f #[] #[a.tmps.getD x undef])) w:=by
 obtain⟨dst,op,ty,pos,aft,gd⟩:=o;simp only[]at hop;subst hop;exact vd (s:=Instr.makeFunc f #[] #[a.tmps.getD x undef]) (by simp[execOp,Act.eval]) rfl
theorem lM{t:Nat}{ps:Array (Nat×Operand)}(hop:o.op=.build t ps){v:Value}(h:(Instr.build t (ps.map λp=>(p.1,a.eval p.2))).run P w=.ok v w):(execOp a.eval o).run P w=.ok (.value v) w:=by
 obtain⟨dst,op,ty,pos,aft,gd⟩:=o;simp only[]at hop;subst hop;exact vd (s:=Instr.build t (ps.map λp=>(p.1,a.eval p.2))) rfl h
theorem mM{T K E:Nat}(hu:P.underlying T=some (.map K E)){r:Nat}{m:MP}(hr:w.heap[r]? = some (ra m)):(Instr.range T (.map (some r))).run P w=.ok (.pointer (some ⟨w.heap.size,0,none⟩)) (w.alloc (ub r m [])):=by
 have hg:(getObj r).run P w=.ok (ra m) w:=by simp[getObj,Sem.run,hr,ra]
 unfold Instr.range;simp only[Sem.run_bind,run_underlying hu,Result.andThen_ok,hg,ra];rfl
theorem Ja{o:Oper}{v:Value}{w':World}{next:Act->World->Prop}{Q:Exit->Act->World->Prop}(h:(execOp a.eval o).run P w=.ok (.value v) w')(hn:next (a.put o.dst v) w'):o.wp P a w next Q:=by
 unfold Oper.wp;rw[h,Oper.upon_value];exact hn
theorem Yq{o:Oper}{w':World}{next:Act->World->Prop}{Q:Exit->Act->World->Prop}(h:(execOp a.eval o).run P w=.ok .skip w')(hn:next (a.put o.dst undef) w'):o.wp P a w next Q:=by
 unfold Oper.wp;rw[h,Oper.upon_skip];exact hn
end
end Go.Proofs.YthfkpijcajdnhaaGreat

namespace Go.Proofs.YthfkpijcajdnhaaGreat
open Go
section
variable {P:Program} {N:NP} {B:Nat} {IoB:List Nat} {W0:World} {F0:Fz} {obs:List (Nat×Obj)} {e:Env} {a:Act} {w:World} {Q:Exit->Act->World->Prop}
theorem ka{c c1 c2:Code}(hc:c=.seq c1 c2)(h:c1.wp P (Exit.then (c2.wp P Q) Q) a w):c.wp P Q a w:=by subst hc;exact wp_seq h
theorem tc{c c1:Code}{id:Nat}(hc:c=.block id c1)(h:c1.wp P (Exit.inBlock id Q) a w):c.wp P Q a w:=by subst hc;exact wp_block h
theorem Mc{c:Code}(hc:c=.region (Bl c) (opsOf c) false){l:List Nat}(hl:List.range (opsOf c).size=l)(h:wpOps P (opsOf c) Q l a w):c.wp P Q a w:=by
 rw[hc];exact wp_region (by rw[hl];exact h)
theorem uc{c c1 c2:Code}{o:Operand}(hc:c=.cond o c1 c2){t:Bool}(hv:a.eval o=.bool t)(h1:t=true->c1.wp P Q a w)(h2:t=false->c2.wp P Q a w):c.wp P Q a w:=by
 subst hc;exact wp_cond_split hv h1 h2
theorem Nc{c:Code}(hc:c=.skip)(h:Q .normal a w):c.wp P Q a w:=by subst hc;exact wp_skip h
theorem Oe{c:Code}{i:Nat}(hc:c=.exit i)(h:Q (.exit i) a w):c.wp P Q a w:=by subst hc;exact wp_exit h
theorem Lg{c:Code}(hc:c=.ret)(h:Q .ret a w):c.wp P Q a w:=by subst hc;exact wp_ret h
theorem MS.regC{tt:TT}{sp:SP}(G:Good P tt sp){c:Code}{keep:List Nat}{e':Env}{ps:List Prop}(hc:Go.Proofs.YthfkpijcajdnhaaGreat.regC tt sp N keep c e=some (e',ps))(ho:fa ps)(hs:MS N B IoB W0 F0 obs e a w)
  (hQ:∀a w,MS N B IoB W0 F0 obs e' a w->Q .normal a w):c.wp P Q a w:=by
 unfold Go.Proofs.YthfkpijcajdnhaaGreat.regC at hc;split at hc
 ·split at hc
  ·rename_i hok;exact hs.reg G hok hc ho hQ
  .cases hc
 .cases hc
theorem MS.weak{e':Env}(h:ma e e')(hs:MS N B IoB W0 F0 obs e a w):MS N B IoB W0 F0 obs e' a w:=⟨h _ _ _ _ _ _ _ hs.sim,hs.kept,hs.ob,hs.hB⟩
theorem MS.k(hs:MS N B IoB W0 F0 obs e a w){s:Nat}{v:Value}(h:(s,v)∈N.k):a.tmps.getD s undef=v:=hs.sim.tmps.kp _ h
theorem MS.o(hs:MS N B IoB W0 F0 obs e a w){r:Nat}{o:Obj}(h:(r,o)∈obs):w.heap[r]? = some o:=(hs.ob _ h).1
theorem MS.tmps(hs:MS N B [] W0 F0 obs e a w){D:List Nat}(hfl:xe e=true)(hd:∀d∈D,Ya (ba e d)=true/\qh d N.k=true)(hr:N.r=none){a':Act}(hdf:a'.defers=[])(hsz:a'.tmps.size=a.tmps.size)
  (heq:∀n,n ∉ D->a'.tmps.getD n undef=a.tmps.getD n undef):MS N B [] W0 F0 obs e a' w:=by
 obtain⟨F,ow,hx⟩:=hs.sim.rep;refine⟨⟨hdf,⟨hsz.trans hs.sim.tmps.size,(λs h=>by rw[hr]at h;cases h),λp hp=>?_⟩,hs.sim.base,hs.sim.f0,hs.sim.kept,F,ow,⟨hx.sub,hx.new,hx.live,hx.inj,λs i b h=>?_,λn=>?_⟩⟩,hs.kept,hs.ob,hs.hB⟩
 ·rw[heq p.1 (λh=>kB (hd p.1 h).2 p hp rfl)];exact hs.sim.tmps.kp p hp
 ·have:=hx.bd s i b h;exact⟨this.1,this.2.elim .inl (λh=>by simp at h)⟩
 ·have h1:=hx.sr n;by_cases hn:n∈D
  ·have h2:=(hd n hn).1;cases hg:ba e n with
   |dead=>trivial
   |_=>rw[hg]at h2;simp[Ya]at h2
  ·have hf:=Qf hfl n;rw[ld hf]at h1⊢;simp only[heq n hn];exact h1
def nM(tt:TT)(sp:SP)(dsts:List (Option Nat))(keep:List Nat)(l:List Oper)(e:Env):Option (Env×List Prop):=
 match runF tt sp dsts l e with
 |some (e2,q)=>some (mask (clean (settle keep keep e2)) keep,q)
 |none=>none
def Zq(N:NP)(ops:Array Oper):Nat->List Oper->Bool
 |_,[]=>true
 |i,o::r=>o.guard.isNone&&(Eg N [o]&&Zq N ops (i+1) r)
theorem MS.runF{tt:TT}{sp:SP}(G:Good P tt sp){ops:Array Oper}:∀ {l:List Oper} {i:Nat} {e e2:Env} {ps:List Prop} {a:Act} {w:World},(∀j o,l[j]? = some o->ops[i+j]? = some o)->Zq N ops i l=true ->
  Go.Proofs.YthfkpijcajdnhaaGreat.runF tt sp (ops.toList.map (·.dst)) l e=some (e2,ps)->fa ps->MS N B IoB W0 F0 obs e a w->(∀a w,MS N B IoB W0 F0 obs e2 a w->Q .normal a w)->wpOps P ops Q (List.range' i l.length) a w
 |[],i,e,e2,ps,a,w,_,_,hr,_,hs,hQ=>by
  simp only[Go.Proofs.YthfkpijcajdnhaaGreat.runF,Option.some.injEq,Prod.mk.injEq]at hr;obtain⟨rfl,rfl⟩:=hr;exact hQ a w hs
 |o::r,i,e,e2,ps,a,w,hl,hk,hr,ho,hs,hQ=>by
  simp only[Go.Proofs.YthfkpijcajdnhaaGreat.runF]at hr;split at hr
  ·rename_i e1 p h1;split at hr
   ·rename_i e2' q h2;simp only[Option.some.injEq,Prod.mk.injEq]at hr;obtain⟨rfl,rfl⟩:=hr;simp only[Zq,Bool.and_eq_true]at hk;have hall:=ho.all
    have hp:fa p:=by
     have:∀ {l:List Prop},(∀x∈l,x)->fa l:=by
      intro l
      induction l with
      |nil=>exact λ_=>trivial
      |cons x l ih=>exact λh=>⟨h x (by simp),ih (λy hy=>h y (by simp[hy]))⟩
     exact this (λx hx=>hall x (List.mem_append_left _ hx))
    have hq:fa q:=by
     have:∀ {l:List Prop},(∀x∈l,x)->fa l:=by
      intro l
      induction l with
      |nil=>exact λ_=>trivial
      |cons x l ih=>exact λh=>⟨h x (by simp),ih (λy hy=>h y (by simp[hy]))⟩
     exact this (λx hx=>hall x (List.mem_append_right _ hx))
    have hgd:o.guard=none:=by cases h:o.guard<;>simp_all
    rw[List.length_cons,List.range'_succ,wpOps_cons];refine wa (by simpa using hl 0 o rfl) hgd ?_;refine hs.stepF G hgd h1 hp (λd hd=>tl hk.2.1 0 o rfl d hd) (λa' w' hs'=>?_);exact MS.runF G (i:=i+1) (λj o' hj=>by rw[show i+1+j=i+(j+1) by omega];exact hl (j+1) o' (by simpa using hj)) hk.2.2 h2 hq hs' hQ
   .cases hr
  .cases hr
theorem MS.suf{tt:TT}{sp:SP}(G:Good P tt sp){ops:Array Oper}{l:List Oper}{i:Nat}{keep:List Nat}{e e':Env}{ps:List Prop}{a:Act}{w:World}(hl:∀j o,l[j]? = some o->ops[i+j]? = some o)(hk:Zq N ops i l=true)
  (hr:nM tt sp (ops.toList.map (·.dst)) keep l e=some (e',ps)) (ho:fa ps) (hs:MS N B IoB W0 F0 obs e a w) (hQ:∀a w,MS N B IoB W0 F0 obs e' a w->Q .normal a w):wpOps P ops Q (List.range' i l.length) a w:=by
 unfold nM at hr;split at hr
 ·rename_i e2 q h2;simp only[Option.some.injEq,Prod.mk.injEq]at hr;obtain⟨rfl,rfl⟩:=hr;exact MS.runF G hl hk h2 ho hs (λa w h=>hQ a w (h.of_sim (h.sim.settle.cleanMask keep)))
 .cases hr
theorem Cc(ops:Array Oper)(h:Q .normal a w):wpOps P ops Q [] a w:=h
end
end Go.Proofs.YthfkpijcajdnhaaGreat

namespace Go.Proofs.YthfkpijcajdnhaaGreat
open Go
def Mi(L:List Bool):List Edge->Bool
 |[]=>true
 |e::r=>(!Region.binds .any e||L.getD e.on false)&&Mi L r
def Yd(L:List Bool):List Oper->Nat->List Nat
 |[],_=>[]
 |o::r,i=>match !L.getD i true&&Mi L o.after.toList with
  |true=>i::Yd L r (i+1)
  |false=>Yd L r (i+1)
def Gl{α:Type}(f:Nat->List α):List Nat->List α
 |[]=>[]
 |i::r=>f i++Gl f r
def zf(i:Nat)(p:List Prop):List (Nat×List Prop)->List (Nat×List Prop)
 |[]=>[(i,p)]
 |(j,q)::r=>match Nat.ble i j with
  |true=>(i,p)::(j,q)::r
  |false=>(j,q)::zf i p r
def Pe:List (Nat×List Prop)->List Prop
 |[]=>[]
 |(_,p)::r=>p++Pe r
theorem kr{x:Prop}{i:Nat}{p:List Prop}:∀ {l:List (Nat×List Prop)},x∈p\/x∈Pe l->x∈Pe (zf i p l)
 |[],h=>by simp[zf,Pe]at h⊢;exact h
 |(j,q)::r,h=>by
  simp only[zf];split
  .simpa [Pe] using h
  ·simp only[Pe,List.mem_append]at h⊢;rcases h with h|h|h
   .exact .inr (kr (.inl h))
   .exact .inl h
   .exact .inr (kr (.inr h))
def Af(tt:TT)(sp:SP)(keep:List Nat)(ds:List (Option Nat))(all:List Oper):Nat->List Bool->List (Nat×List Prop)->Env->List (Option (Env×List Prop))
 |0,L,pre,e=>match Yd L all 0 with
  |[]=>[some (mask (clean (settle keep keep e)) keep,Pe pre)]
  |_=>[none]
 |fuel+1,L,pre,e=>match Yd L all 0 with
  |[]=>[some (mask (clean (settle keep keep e)) keep,Pe pre)]
  |i::r=>Gl (λi=>match all[i]? with
   |some o=>match stepF tt sp ds e o with
    |some (e1,p)=>Af tt sp keep ds all fuel (L.set i true) (zf i p pre) e1
    |none=>[none]
   |none=>[none]) (i::r)
theorem GC{L:List Bool}:∀ {l:List Edge},Mi L l=true↔∀e∈l,Region.binds .any e=true->L.getD e.on false=true
 |[]=>by simp[Mi]
 |e::r=>by
  rw[Mi,Bool.and_eq_true,GC];simp only[List.mem_cons,forall_eq_or_imp,Bool.or_eq_true,Bool.not_eq_true'];refine and_congr ⟨λh hb=>h.resolve_left (by rw[hb];simp),λh=>?_⟩ Iff.rfl;cases hb:Region.binds .any e with
  |true=>exact .inr (h hb)
  |false=>exact .inl rfl
theorem sM{L:List Bool}{j:Nat}:∀ {l:List Oper} {i:Nat},j∈Yd L l i↔∃k o,j=i+k/\l[k]? = some o/\L.getD j true=false/\∀e∈o.after.toList,Region.binds .any e=true->L.getD e.on false=true
 |[],i=>by simp[Yd]
 |o::r,i=>by
  have ih:=sM (L:=L) (j:=j) (l:=r) (i:=i+1)
  have hstep:(∃k o',j=i+k/\(o::r)[k]? = some o'/\L.getD j true=false/\∀e∈o'.after.toList,Region.binds .any e=true->L.getD e.on false=true) ↔
    (j=i/\L.getD j true=false/\∀e∈o.after.toList,Region.binds .any e=true->L.getD e.on false=true)\/j∈Yd L r (i+1):=by
   rw[ih];constructor
   ·rintro⟨k,o',h1,h2,h3⟩;cases k with
    |zero=>simp at h2;subst h2;exact .inl ⟨h1,h3⟩
    |succ k=>exact .inr ⟨k,o',by omega,by simpa using h2,h3⟩
   ·rintro (⟨h1,h3⟩|⟨k,o',h1,h2,h3⟩)
    .exact⟨0,o,h1,rfl,h3⟩
    .exact⟨k+1,o',by omega,by simpa using h2,h3⟩
  rw[hstep];simp only[Yd];split
  ·rename_i hb;rw[Bool.and_eq_true,Bool.not_eq_true',GC]at hb;rw[List.mem_cons];refine or_congr ⟨λh=>⟨h,by rw[h];exact hb⟩,λh=>h.1⟩ Iff.rfl
  ·rename_i hb;refine⟨.inr,λh=>h.resolve_left λ⟨h1,h2⟩=>?_⟩
   have:(!L.getD i true&&Mi L o.after.toList)=true:=by
    rw[Bool.and_eq_true,Bool.not_eq_true',GC,← h1];exact h2
   rw[hb]at this;cases this
theorem tM{α:Type}{f:Nat->List α}{x:α}:∀ {l:List Nat} {i:Nat},i∈l->x∈f i->x∈Gl f l
 |a::r,i,hi,hx=>by
  rw[Gl,List.mem_append];rcases List.mem_cons.1 hi with rfl|hi
  .exact .inl hx
  .exact .inr (tM hi hx)
section
variable {P:Program} {tt:TT} {sp:SP} {B:Nat} {IoB:List Nat} {F0:Fz} {N:NP} {W0:World}
theorem uM{keep:List Nat}{ds:List (Option Nat)}{all:List Oper}:∀ {fuel:Nat} {L:List Bool} {pre:List (Nat×List Prop)} {e:Env},∃r∈Af tt sp keep ds all fuel L pre e,∀e1 q,r=some (e1,q)->∀x∈Pe pre,x∈q
 |0,L,pre,e=>by
  simp only[Af];split
  .exact⟨_,List.mem_singleton_self _,λe1 q h x hx=>by cases h;exact hx⟩
  .exact⟨none,by simp,λe1 q h=>by cases h⟩
 |fuel+1,L,pre,e=>by
  simp only[Af];split
  .exact⟨_,List.mem_singleton_self _,λe1 q h x hx=>by cases h;exact hx⟩
  ·rename_i i r _
   have key:∃y∈(match all[i]? with
     |some o=>match stepF tt sp ds e o with
      |some (e1,p)=>Af tt sp keep ds all fuel (L.set i true) (zf i p pre) e1
      |none=>[none]
     |none=>[none]),∀e1 q,y=some (e1,q)->∀x∈Pe pre,x∈q:=by
    split
    ·split
     ·rename_i e1 p _;obtain⟨y,h1,h2⟩:=uM (keep:=keep) (ds:=ds) (all:=all) (fuel:=fuel) (L:=L.set i true) (pre:=zf i p pre) (e:=e1);exact⟨y,h1,λe2 q h x hx=>h2 e2 q h x (kr (.inr hx))⟩
     .exact⟨none,by simp,λe1 q h=>by cases h⟩
    .exact⟨none,by simp,λe1 q h=>by cases h⟩
   obtain⟨y,h1,h2⟩:=key;exact⟨y,by rw[Gl,List.mem_append];exact .inl h1,h2⟩
theorem rY(htt:ac P tt)(hsp:∀f s,spk sp f=some s->Con P f s){ops:Array Oper}(hdst:Eg N ops.toList=true){keep:List Nat}{e':Env}{ps:List Prop}(hps:∀p∈ps,p)
  {Q:Exit->Act->World->Prop} (hQ:∀a w,Sim N B IoB W0 F0 e' a w->Q .normal a w) :
  ∀ (fuel:Nat) (listed:Array Bool) (pre:List (Nat×List Prop)) (e:Env) (a:Act) (w:World),(∀r∈Af tt sp keep (ops.toList.map (·.dst)) ops.toList fuel listed.toList pre e,r=some (e',ps)) ->
    Sim N B IoB W0 F0 e a w->wpAny P .any ops Q fuel listed a w:=by
 have hmem:∀ (listed:Array Bool) j,j∈Yd listed.toList ops.toList 0↔j∈Region.ready .any ops listed:=by
  intro listed j;rw[sM,mem_ready]
  have hL:∀k b,listed.toList.getD k b=listed.getD k b:=λk b=>by
   rw[Array.getD_eq_getD_getElem?,List.getD_eq_getElem?_getD,Array.getElem?_toList]
  simp only[hL];constructor
  ·rintro⟨k,o,h1,h2,h3,h4⟩;rw[Nat.zero_add]at h1;subst h1;exact⟨h3,o,by rw[← Array.getElem?_toList];exact h2,λe he=>h4 e (by simpa using he)⟩
  ·rintro⟨h1,o,h2,h3⟩;exact⟨j,o,by omega,by rw[Array.getElem?_toList];exact h2,h1,λe he=>h3 e (by simpa using he)⟩
 have hend:∀ {listed:Array Bool} {e:Env} {pre:List (Nat×List Prop)} {a:Act} {w:World},some (mask (clean (settle keep keep e)) keep,Pe pre)=some (e',ps)->Sim N B IoB W0 F0 e a w->Q .normal a w:=by
  intro listed e pre a w h hs;simp only[Option.some.injEq,Prod.mk.injEq]at h;have:=hs.settle.cleanMask (e:=settle keep keep e) keep;rw[h.1]at this;exact hQ a w this
 have hnil:∀ {listed:Array Bool},Region.ready .any ops listed=[]->Yd listed.toList ops.toList 0=[]:=by
  intro listed h;cases hr:Yd listed.toList ops.toList 0 with
  |nil=>rfl
  |cons j r=>
   have:j∈Yd listed.toList ops.toList 0:=by rw[hr];simp
   rw[hmem,h]at this;cases this
 intro fuel
 induction fuel with
 |zero=>
  intro listed pre e a w h hs;simp only[Af]at h;cases hr:Yd listed.toList ops.toList 0 with
  |cons j r=>
   rw[hr]at h;have:=h none (by simp);cases this
  |nil=>
   rw[hr]at h;refine⟨?_,hend (listed:=listed) (h _ (List.mem_singleton_self _)) hs⟩;cases hr':Region.ready .any ops listed with
   |nil=>rfl
   |cons j r=>
    have:j∈Region.ready .any ops listed:=by rw[hr'];simp
    rw[← hmem,hr]at this;cases this
 |succ fuel ih=>
  intro listed pre e a w h hs;simp only[Af]at h;refine⟨λhr=>?_,λi hi=>?_⟩
  ·rw[hnil hr]at h;exact hend (listed:=listed) (h _ (List.mem_singleton_self _)) hs
  ·have hi':=(hmem listed i).2 hi;cases hr:Yd listed.toList ops.toList 0 with
   |nil=>rw[hr]at hi';cases hi'
   |cons j r=>
    rw[hr]at h hi';simp only[]at h
    have h2:=λx hx=>h x (tM (f:=λi=>match ops.toList[i]? with
     |some o=>match stepF tt sp (ops.toList.map (·.dst)) e o with
      |some (e1,p)=>Af tt sp keep (ops.toList.map (·.dst)) ops.toList fuel (listed.toList.set i true) (zf i p pre) e1
      |none=>[none]
     |none=>[none]) hi' hx)
    obtain⟨_,o,ho,_⟩:=mem_ready.1 hi;have ho':ops.toList[i]? = some o:=by rw[Array.getElem?_toList];exact ho
    simp only[ho']at h2;cases hst:stepF tt sp (ops.toList.map (·.dst)) e o with
    |none=>
     rw[hst]at h2;have:=h2 none (by simp);cases this
    |some q=>
     obtain⟨e1,p⟩:=q;rw[hst]at h2;simp only[]at h2
     have hp:∀x∈p,x:=by
      obtain⟨y,hy,hz⟩:=uM (tt:=tt) (sp:=sp) (keep:=keep) (ds:=ops.toList.map (·.dst)) (all:=ops.toList) (fuel:=fuel) (L:=listed.toList.set i true) (pre:=zf i p pre) (e:=e1);exact λx hx=>hps x (hz e' ps (h2 y hy) x (kr (.inl hx)))
     have h3:=zq htt hsp hs hst hp (λd hd=>tl hdst i o ho' d hd) (Q:=Q) (next:=wpAny P .any ops Q fuel (listed.setIfInBounds i true))
      (λa' w' hs'=>ih (listed.setIfInBounds i true) (zf i p pre) e1 a' w' (λx hx=>h2 x (by rw[Array.toList_setIfInBounds]at hx;exact hx)) hs')
     unfold wpOp;rw[ho];simp only[];by_cases hw:Region.wanted o (yielded ops a.tmps)=true
     ·rw[if_pos hw]at h3⊢;exact .inl h3
     ·rw[if_neg hw]at h3⊢;exact h3
theorem any_ok(G:Good P tt sp){fr:Fr}{C:Code}{F:Fnn}{R A X Y Z:Type}{S:da R A X Y Z}(keep:List Nat)(k:Nat){ps:List Prop}{q:A}(T:Tr R A X Y Z)(hT:T=.w ps (.l (.n q)))(ho:S.o=T.val)(hb:S.ob=T.ob)
  (hC:Hb C S.path=.region (Bl (Hb C S.path)) (opsOf (Hb C S.path)) true) (hd:Eg N (opsOf (Hb C S.path)).toList=true)
  (h:Af tt sp keep ((opsOf (Hb C S.path)).toList.map (·.dst)) (opsOf (Hb C S.path)).toList (opsOf (Hb C S.path)).size (List.replicate (opsOf (Hb C S.path)).size false) [] (clean S.env)=List.replicate k (some (S.pn q,ps))) :
  pe P tt N fr C F S:=by
 intro hob a w hs;subst hT;rw[hb]at hob;rw[hC];refine wp_region_any G.hm (rY (keep:=keep) G.htt G.hsp hd (fa.all hob.1) (λa w hs=>⟨_,hs,q,ho,λ_ _ _ _ _ _ _ hs=>hs⟩) _ _ [] _ a _ (λr hr=>?_) (hs.clean.drew _));rw[Array.toList_replicate,h]at hr;exact List.eq_of_mem_replicate hr
end
end Go.Proofs.YthfkpijcajdnhaaGreat

namespace Go.Proofs.YthfkpijcajdnhaaGreat
open Go
def Ty.nol:Ty->Bool
 |.lrow=>false
 |.litem=>false
 |.sess=>false
 |_=>true
def Ty.sl:Ty->Bool
 |.lrow=>true
 |.litem=>true
 |_=>false
def noL:C->Bool
 |.lst t _=>t.nol
 |_=>true
def HC:K×C->Bool
 |(.acc _,.lst t _)=>t.nol
 |(.acc _,_)=>false
 |(.own _,_)=>false
 |(_,c)=>noL c
def okL:AV->Bool
 |.dead=>true
 |.v (.acc _) (.lst t _)=>t.nol
 |.v (.acc _) _=>false
 |.v (.own _) (.lst t _)=>t.nol
 |.v (.own _) _=>false
 |.v _ c=>noL c
 |.agg _ cs=>Gg noL cs
 |.box cs=>Gg HC cs
 |_=>false
def Hl(s:Nat):Env->Bool
 |[]=>true
 |(n,a)::r=>(Nat.beq n s||okL a)&&Hl s r
theorem Il{s:Nat}:∀ {e:Env},Hl s e=true->∀n,n≠s->okL (ba e n)=true
 |[],_,_,_=>rfl
 |(m,a)::r,h,n,hn=>by
  simp only[Hl,Bool.and_eq_true,Bool.or_eq_true]at h;simp only[ba];cases hb:Nat.beq m n with
  |true=>
   have:=Nat.eq_of_beq_eq_true hb;subst this;rcases h.1 with h1|h1
   .exact absurd (Nat.eq_of_beq_eq_true h1) hn
   .exact h1
  |false=>exact Il h.2 n hn
theorem lr{a:AV}(h:okL a=true):Vb a=true:=by
 cases a<;>first|rfl|(simp[okL]at h)
theorem vM{t:Ty}(ht:t.nol=true){x:t.T}{j:Nat}{c:C}(h:(cells t x)[j]? = some c):noL c=true:=by
 cases t<;>simp[Ty.nol]at ht
 all_goals
  (match j,h with
   |0,h=>simp[cells]at h;subst h;rfl
   |1,h=>first|(simp[cells]at h;done)|(simp[cells]at h;subst h;rfl)
   |2,h=>first|(simp[cells]at h;done)|(simp[cells]at h;subst h;rfl)
   |3,h=>first|(simp[cells]at h;done)|(simp[cells]at h;subst h;rfl)
   |4,h=>first|(simp[cells]at h;done)|(simp[cells]at h;subst h;rfl)
   |j+5,h=>simp[cells]at h)
def mr:Value->Bool
 |.slice _ _ _=>true
 |_=>false
theorem sY{F:Fz}{lo:Nat}{w:World}{t:Ty}(ht:t.nol=true){x:t.T}{c:C}{v:Value}(h:(cells t x)[0]? = some c)(hr:RC F lo w c v):mr v=false:=by
 cases t<;>simp[Ty.nol]at ht<;>simp[cells]at h<;>subst h<;>cases hr<;>rfl
theorem tY{F:Fz}{lo:Nat}{w:World}{t:Ty}(ht:t.sl=true){x:t.T}{j:Nat}{c:C}{v:Value}(h:(cells t x)[j]? = some c)(hr:RC F lo w c v):mr v=true:=by
 cases t<;>simp[Ty.sl]at ht
 all_goals
  (match j,h with
   |0,h=>simp[cells]at h;subst h;cases hr<;>rfl
   |j+1,h=>simp[cells]at h)
theorem uY{t:Ty}(ht:t.sl=true){x:t.T}{j:Nat}{c:C}(h:(cells t x)[j]? = some c):noL c=true:=by
 cases t<;>simp[Ty.sl]at ht
 all_goals
  (match j,h with
   |0,h=>simp[cells]at h;subst h;rfl
   |j+1,h=>simp[cells]at h)
theorem RC.drop{F:Fz}{w:World}{b:Nat}(hb:∀o u,F b o->w.cell? ⟨b,o,none⟩=some u->mr u=true){lo:Nat}{c:C}{v:Value}(h:RC F lo w c v):noL c=true->RC (λb' o=>F b' o/\b'≠b) lo w c v:=by
 induction h with
 |int k n=>exact λ_=>.int k n
 |bool b=>exact λ_=>.bool b
 |str s=>exact λ_=>.str s
 |nl t=>exact λ_=>.nl t
 |nil t=>exact λ_=>.nil t
 |lst t xs b2 o cap vs hb2 hcap hf hc hr ih=>
  intro hn;have hn:t.nol=true:=hn;refine .lst t xs b2 o cap vs hb2 hcap (λi j hi hj=>⟨hf i j hi hj,λe=>?_⟩) hc (λi j x c hx hcc=>ih i j x c hx hcc (vM hn hcc));subst e;have hp:=ph t;have h1:=hb _ _ (hf i 0 hi hp) (hc i 0 hi hp);have hcl:(cells t xs[i])[0]? = some ((cells t xs[i])[0]'(by rw[me];exact hp)):=List.getElem?_eq_getElem _;rw[sY hn hcl (hr i 0 _ _ (List.getElem?_eq_getElem hi) hcl)]at h1;cases h1
theorem ja.thawL{B:Nat}{IoB:List Nat}{F0 F:Fz}{e:Env}{tm:Nat->Value}{w:World}{ow:Nat->Option Nat->Option Nat}(hs:ja B IoB F0 e tm w F ow)(hf0:∀b o,F0 b o->b<B/\b ∉ IoB){s:Nat}{f:Bool}{t:Ty}{xs:List t.T}
  (hg:ba e s=.v (.acc f) (.lst t xs)) (ht:t.sl=true) (hok:Hl s e=true):∃F',ja B IoB F0 (Fa e s (.v (.own f) (.lst t xs))) tm w F' ow:=by
 have hsr:=hs.sr s;rw[hg]at hsr;obtain⟨hrc,hd⟩:=hsr
 have hflat:∀n,Vb (ba (Fa e s (.v (.own f) (.lst t xs))) n)=true:=λn=>by
  rw[za];split
  .rfl
  .rename_i hn;exact lr (Il hok n hn)
 rcases hd with⟨t0,e1,e2⟩|⟨t0,xs0,b,cap,cs,e1,e2,e3,e4,e5,e6⟩
 ·have e1:C.lst t xs=.lst t0 []:=e1;refine⟨F,hs.flat λn=>⟨hflat n,?_⟩⟩;rw[za];split
  ·rename_i hn;rw[hn,e1];exact .inl ⟨t0,rfl,e2⟩
  ·rename_i hn;have:=hs.sr n;rw[ld (lr (Il hok n hn))]at this;exact this
 ·have e1:C.lst t xs=.lst t0 xs0:=e1;cases e1;let F':Fz:=λb' o=>F b' o/\b'≠b;rw[e2]at hrc;cases hrc with
  |lst _ _ _ o cap' vs hb hcap hf hc hr=>
   have hBb:Mn B IoB b:=(hs.bd s none b e3).2
   have hsl:∀o u,F b o->w.cell? ⟨b,o,none⟩=some u->mr u=true:=by
    intro o u hFo hu
    have ho:o<xs.length*t.size:=by
     by_cases h:o<xs.length*t.size
     .exact h
     .exact absurd hFo (e6 o (by omega))
    have hpos:=ph t;have hi:o / t.size<xs.length:=by rw[Nat.div_lt_iff_lt_mul hpos];exact ho
    have hj:o % t.size<t.size:=Nat.mod_lt _ hpos;have h1:=hc (o / t.size) (o % t.size) hi hj;rw[show 0+(o / t.size*t.size+o % t.size)=o by rw[Nat.zero_add,Nat.mul_comm];exact Nat.div_add_mod _ _]at h1;rw[h1]at hu;cases hu;have hcl:(cells t xs[o / t.size])[o % t.size]? = some ((cells t xs[o / t.size])[o % t.size]'(by rw[me];exact hj)):=List.getElem?_eq_getElem _;exact tY ht hcl (hr _ _ _ _ (List.getElem?_eq_getElem hi) hcl)
   have okc:∀ {lo:Nat} {c:C} {v:Value},noL c=true->RC F lo w c v->RC F' lo w c v:=λhc h=>RC.drop hsl h hc
   have accR:∀ {lo:Nat} {ob:Option Nat} {t2:Ty} {ys:List t2.T} {v:Value},t2.nol=true->Ga F lo w ob (.lst t2 ys) v->Ga F' lo w ob (.lst t2 ys) v:=by
    rintro lo ob t2 ys v h64 ⟨h1,h2⟩;refine⟨okc (c:=.lst t2 ys) h64 h1,?_⟩;rcases h2 with h2|⟨t3,zs,b2,cap2,cs2,q1,q2,q3,q4,q5,q6⟩
    .exact .inl h2
    .exact .inr ⟨t3,zs,b2,cap2,cs2,q1,q2,q3,q4,q5,λo ho hF=>q6 o ho hF.1⟩
   refine⟨F',?_⟩
   have hmain:ja B IoB F0 (Fa e s .dead) tm w F' ow:=by
    refine⟨λb' o h=>⟨hs.sub _ _ h,λe=>by subst e;exact hBb.elim (λhB=>by have:=(hf0 _ _ h).1;omega) (hf0 _ _ h).2⟩,λb' o h=>hs.new _ _ h.1,λb' o h=>hs.live _ _ h.1,hs.inj,hs.bd,λn=>?_⟩;rw[za];split
    .trivial
    ·rename_i hn;have ha:=Il hok n hn;have h:=hs.sr n;have hfl:=lr ha;rw[ld hfl]at h⊢;cases hav:ba e n with
     |dead=>trivial
     |v k c=>
      rw[hav]at h ha;cases k with
      |sh=>exact okc ha h
      |fr=>exact okc ha h
      |acc f2=>
       cases c with
       |lst t2 ys=>exact accR ha h
       |_=>simp[okL]at ha
      |own f2=>
       cases c with
       |lst t2 ys=>
        rcases h with h|⟨t3,zs,b2,cap2,cs2,vs2,q1,q2,q3,q4,q5,q5',q6,q7,q8,q9⟩
        .exact .inl h
        ·refine .inr ⟨t3,zs,b2,cap2,cs2,vs2,q1,q2,q3,q4,q5,q5',q6,λo hF=>q7 o hF.1,q8,λi j x c hx hcc=>?_⟩;cases q1;exact okc (vM ha hcc) (q9 i j x c hx hcc)
       |_=>simp[okL]at ha
     |agg f2 cs2=>
      rw[hav]at h ha;obtain⟨us,q1,q2⟩:=h;refine⟨us,q1,RCs.mk q2.length (λj c v hc hv=>?_)⟩;obtain⟨v2,q3,q4⟩:=q2.get hc;rw[hv]at q3;cases q3;exact okc (ul ha hc) q4
     |box cs2=>
      rw[hav]at h ha;obtain⟨b2,us,q1,q2,q3,q4,q5,q6⟩:=h;refine⟨b2,us,q1,q2,q3,λo hF=>q4 o hF.1,q5,λj kc u hk hu=>?_⟩;have h3:=q6 j kc u hk hu;have h4:=ul ha hk;obtain⟨k,c⟩:=kc;cases k with
      |sh=>exact okc h4 h3
      |fr=>exact okc h4 h3
      |acc f2=>
       cases c with
       |lst t2 ys=>exact accR h4 h3
       |_=>simp[HC]at h4
      |own f2=>simp[HC]at h4
     |_=>rw[hav]at ha;simp[okL]at ha
   refine⟨hmain.sub,hmain.new,hmain.live,hmain.inj,hmain.bd,λn=>?_⟩;by_cases hn:n=s
   ·rw[hn,za,if_pos rfl];refine .inr ⟨t,xs,b,cap,cs,vs,rfl,e2,e3,e4,e5,hcap,hb,λo h=>h.2 rfl,λi j hi hj=>?_,λi j x c hx hcc=>?_⟩
    ·have h1:=hc i j hi hj;rw[Nat.zero_add,e4.cell]at h1;exact h1
    .exact okc (uY ht hcc) (hr i j x c hx hcc)
   ·rw[za,if_neg hn];have h:=hmain.sr n;rw[za,if_neg hn]at h;have hfl:=lr (Il hok n hn);rw[ld hfl]at h⊢;exact h
def wM(e:Env)(s:Nat):Option Env:=
 match ba e s with
 |.v (.acc f) (.lst t xs)=>match t.sl&&Hl s e with
  |true=>some (Fa e s (.v (.own f) (.lst t xs)))
  |false=>none
 |_=>none
theorem vY(s:Nat){e e':Env}(h:wM e s=some e'):ma e e':=by
 intro N B IoB W0 F0 a w hs;unfold wM at h;split at h
 ·rename_i f t xs hg;split at h
  ·rename_i hb;simp only[Bool.and_eq_true]at hb;simp only[Option.some.injEq]at h;subst h;obtain⟨F,ow,hx⟩:=hs.rep;obtain⟨F',hx'⟩:=hx.thawL hs.f0 hg hb.1 hb.2;exact⟨hs.defers,hs.tmps,hs.base,hs.f0,hs.kept,F',ow,hx'⟩
  .cases h
 .cases h
section
variable {P:Program} {N:NP} {B:Nat} {IoB:List Nat} {W0:World} {F0:Fz} {obs:List (Nat×Obj)} {e:Env} {a:Act} {w:World}
theorem MS.ren(hs:MS N B [] W0 F0 obs e a w)(hfl:xe e=true){s d:Nat}(hd:N.ok d=true)(hne:s≠d) :
  MS ⟨N.n,N.r,(d,a.tmps.getD s undef)::N.k⟩ B [] W0 F0 obs (Fa (Fa e s .dead) d (ba e s)) (a.put (some d) (a.tmps.getD s undef)) w:=by
 obtain⟨F,ow,hx⟩:=hs.sim.rep;have hlt:d<a.tmps.size:=by rw[hs.sim.tmps.size];exact NP.ok_lt hd
 have htm:(λn=>(a.put (some d) (a.tmps.getD s undef)).tmps.getD n undef)=λn=>if n=d then a.tmps.getD s undef else a.tmps.getD n undef:=funext (La a d _ hlt)
 refine⟨⟨hs.sim.defers,hs.sim.tmps.putK hd _,hs.sim.base,hs.sim.f0,Kept.refl _ _ _,F,λn=>if n=d then ow s else if n=s then λ_=>none else ow n,?_⟩,hs.kept,hs.ob,hs.hB⟩;rw[htm];refine⟨hx.sub,hx.new,hx.live,λn i n' i' b h h'=>?_,λn i b h=>?_,λn=>?_⟩
 ·by_cases h1:n=d
  ·by_cases h2:n'=d
   ·simp only[h1,h2,if_true]at h h';exact⟨h1.trans h2.symm,(hx.inj _ _ _ _ _ h h').2⟩
   ·by_cases h3:n'=s
    .simp[h3,hne]at h'
    ·simp only[h1,h2,h3,if_true,if_false]at h h';exact absurd (hx.inj _ _ _ _ _ h h').1.symm h3
  ·by_cases h3:n=s
   .simp[h3,hne]at h
   ·by_cases h2:n'=d
    ·simp only[h1,h2,h3,if_true,if_false]at h h';exact absurd (hx.inj _ _ _ _ _ h h').1 h3
    ·by_cases h4:n'=s
     .simp[h4,hne]at h'
     ·simp only[h1,h2,h3,h4,if_false]at h h';exact hx.inj _ _ _ _ _ h h'
 ·by_cases h1:n=d
  ·simp only[h1,if_true]at h;exact hx.bd _ _ _ h
  ·by_cases h3:n=s
   .simp[h3,hne]at h
   ·simp only[h1,h3,if_false]at h;exact hx.bd _ _ _ h
 ·have hf:=Qf hfl
  have hg:ba (Fa (Fa e s .dead) d (ba e s)) n=if n=d then ba e s else if n=s then .dead else ba e n:=by
   rw[za];split
   .rfl
   .rw[za]
  rw[hg];by_cases h1:n=d
  ·have h:=hx.sr s;simp only[h1,if_true];rw[ld (hf s)]at h⊢;simpa using h
  ·by_cases h3:n=s
   ·simp only[h3,if_true];rw[if_neg hne];trivial
   ·simp only[h1,h3,if_false];have h:=hx.sr n;rw[ld (hf n)]at h⊢;simpa [h1,h3] using h
theorem MS.say(hs:MS N B IoB W0 F0 obs e a w)(hfl:xe e=true){s d:Nat}{f:Bool}{c c':C}(hg:ba e s=.v (.acc f) c)(_hd:Ya (ba e d)=true)
  (h:∀F,RC F 0 w c (a.tmps.getD s undef)->RC F 0 w c' (a.tmps.getD d undef)):MS N B IoB W0 F0 obs (Fa e d (.v .sh c')) a w:=by
 obtain⟨F,ow,hx⟩:=hs.sim.rep;refine⟨⟨hs.sim.defers,hs.sim.tmps,hs.sim.base,hs.sim.f0,hs.sim.kept,F,ow,hx.flat λn=>?_⟩,hs.kept,hs.ob,hs.hB⟩;rw[za];by_cases hn:n=d
 ·rw[if_pos hn];refine⟨rfl,?_⟩;have h1:=hx.sr s;rw[hg]at h1;have h1:Ga F (lof B f) w (ow s none) c (a.tmps.getD s undef):=h1;rw[hn];exact h F (RC.lo0 h1.1)
 ·rw[if_neg hn];have h1:=hx.sr n;rw[ld (Qf hfl n)]at h1;exact⟨Qf hfl n,h1⟩
theorem MS.freeze(hs:MS N B IoB W0 F0 obs e a w)(s:Nat):MS N B IoB W0 F0 obs (xh e s) a w:=by
 obtain⟨F,ow,hx⟩:=hs.sim.rep;obtain⟨F',ow',hx'⟩:=hx.freeze hs.sim.base s;exact⟨⟨hs.sim.defers,hs.sim.tmps,hs.sim.base,hs.sim.f0,hs.sim.kept,F',ow',hx'⟩,hs.kept,hs.ob,hs.hB⟩
theorem MS.oput(hs:MS N B IoB W0 F0 obs e a w){d s:Nat}(hd:N.ok d=true)(hne:s≠d){f:Bool}{t:Ty}{xs:List t.T}{b cap:Nat}(hg:ba e s=.v (.own f) (.lst t xs))(hv:a.tmps.getD s undef=.slice (some ⟨b,0,none⟩) xs.length cap){i:Nat}(hi:i<xs.length) :
  MS N B IoB W0 F0 obs (put e d (.oaddr s i 0)) (a.put (some d) (.pointer (some ⟨b,i*t.size,none⟩))) w:=by
 obtain⟨F,ow,hx⟩:=hs.sim.rep;have hlt:d<a.tmps.size:=by rw[hs.sim.tmps.size];exact NP.ok_lt hd
 refine⟨⟨hs.sim.defers,hs.sim.tmps.put hd _,hs.sim.base,hs.sim.f0,Kept.refl _ _ _,F,λs=>if s=d then (λ_=>none) else ow s,?_⟩,hs.kept,hs.ob,hs.hB⟩;rw[show (λn=>(a.put (some d) (.pointer (some ⟨b,i*t.size,none⟩))).tmps.getD n undef)=λn=>if n=d then .pointer (some ⟨b,i*t.size,none⟩) else a.tmps.getD n undef from funext (La a d _ hlt)];refine hx.put hs.sim.base (Ia.refl F w) hx.live (λi b h=>by simp at h) (λi i' b h=>by simp at h) (λg' h1 _=>?_);refine⟨hne,t,xs,b,cap,f,by rw[h1 s hne (by rw[hg];rfl)];exact hg,by simp only[if_neg hne];exact hv,by omega,by simpa using hi,?_⟩;simp
theorem MS.ownv(hs:MS N B IoB W0 F0 obs e a w){s:Nat}{f:Bool}{t:Ty}{x:t.T}{xs:List t.T}(hg:ba e s=.v (.own f) (.lst t (x::xs))):∃b cap,a.tmps.getD s undef=.slice (some ⟨b,0,none⟩) (xs.length+1) cap/\xs.length+1<=cap:=by
 obtain⟨F,ow,hx⟩:=hs.sim.rep;have h:=hx.sr s;rw[hg]at h;rcases h with⟨t0,h,_⟩|⟨t0,zs,b,cap,cs,vs,e1,e2,e3,e4,e5,e6,_⟩
 .cases h
 ·cases e1;exact⟨b,cap,e2,e6⟩
theorem wY{o:Oper}{t x:Nat}{i:Int}{k:IntKind}(hop:o.op=.indexAddr t (.tmp x) (.const (.int k i))){b f len cap:Nat}(hx:a.tmps.getD x undef=.slice (some ⟨b,f,none⟩) len cap)(h0:0<=i)(hn:i<len)
  {e sz:Nat} (he:P.underlying t=some (.slice e)) (hz:∀w,(sizeOf e).run P w=.ok sz w):(execOp a.eval o).run P w=.ok (.value (.pointer (some ⟨b,f+i.toNat*sz,none⟩))) w:=by
 obtain⟨dst,op,ty,pos,aft,gd⟩:=o;simp only[]at hop;subst hop;refine vd (s:=Instr.indexAt t (a.tmps.getD x undef) (.int k i)) rfl ?_;rw[hx];exact jl he hz h0 hn
theorem xY{o:Oper}{t x:Nat}{i:Int}{k:IntKind}(hop:o.op=.slice t (.tmp x) (some (.const (.int k i))) none none){b len cap:Nat}(hx:a.tmps.getD x undef=.slice (some ⟨b,0,none⟩) len cap)(h0:0<=i)(hn:i<=len)(_hlt:len<=cap)(hlt2:i<cap)
  {e sz:Nat} (he:P.underlying t=some (.slice e)) (hz:∀w,(sizeOf e).run P w=.ok sz w):(execOp a.eval o).run P w=.ok (.value (.slice (some ⟨b,i.toNat*sz,none⟩) (len - i.toNat) (cap - i.toNat))) w:=by
 obtain⟨dst,op,ty,pos,aft,gd⟩:=o;simp only[]at hop;subst hop;have hel:P.elem t=e:=by unfold Program.elem;rw[he]
 have he':P.underlying t=some (.slice (P.elem t)):=by rw[hel];exact he
 refine vd (s:=Instr.sliceAt t (a.tmps.getD x undef) (some (.int k i)) none none) (by simp[execOp,Act.eval]) ?_;rw[hx,run_sliceAt_slice w t _ _ _ _ he'];have hz':(sizeOf (P.elem t)).run P w=.ok sz w:=by rw[hel];exact hz w
 have hne:¬ cap=i.toNat:=by omega
 have hin:i.toNat<=len:=by omega
 have h:=run_slice_l w t (some ⟨b,0,none⟩) len cap he' k i h0 hn;rw[h,hz'];simp[Result.andThen,sliced,hne,addr_add]
end
end Go.Proofs.YthfkpijcajdnhaaGreat

namespace Go.Proofs.YthfkpijcajdnhaaGreat
open Go
abbrev OkF(P:Program)(tt:TT)(fn:Func)(F:Fnn)(R:Type)(fr:Fr){A X Y Z:Type}(S:da R A X Y Z):Prop:=pe P tt ⟨fn.ntmps,F.rd,[]⟩ fr (Jd fn) F S
abbrev AV.B(l:List Int):AV:=.box (l.map λi=>(.fr,.i i))
abbrev AV.R(b:LB)(p:Int):AV:=.box [(.sh,.lst .byte b),(.fr,.i p)]
abbrev rvF(F:Fnn):F.rt.T->RV:=λq=>(some (F.rt.av q),.dead)
abbrev rvR(F:Fnn)(b:LB):F.rt.T×Int->RV:=λq=>(some (F.rt.av q.1),.R b q.2)
section
variable {P:Program} {tt:TT} {N:NP} {sp:SP} {fr:Fr} {C:Code} {F:Fnn} {R:Type}
theorem ga{A X Y Z:Type}[Dft A][Dft X][Dft Y][Dft Z](G:Good P tt sp)(subs:Ih R)(hs:Li P tt N fr C F subs)(kp:List (Nat×List Nat)){S:da R A X Y Z}(t:Tr R A X Y Z)
  (ho:S.o=t.val:=by exact rfl) (hob:S.ob=t.ob:=by exact rfl) (h:runT tt sp N F kp [] [] subs (Hb C S.path) S.path S.env (kn0 S.pn) (kx0 S.px S.py S.pz)=t.toE S.rv S.pn S.px S.py S.pz:=by kernel_rfl):pe P tt N fr C F S:=FC G subs hs kp [] [] t ho hob h
theorem oa{A X Y Z:Type}[Dft A][Dft X][Dft Y][Dft Z](G:Good P tt sp)(kp:List (Nat×List Nat)){S:da R A X Y Z}(t:Tr R A X Y Z)
  (ho:S.o=t.val:=by exact rfl) (hob:S.ob=t.ob:=by exact rfl) (h:runT tt sp N F kp [] [] [] (Hb C S.path) S.path S.env (kn0 S.pn) (kx0 S.px S.py S.pz)=t.toE S.rv S.pn S.px S.py S.pz:=by kernel_rfl):pe P tt N fr C F S:=FC G [] trivial kp [] [] t ho hob h
theorem Na{σ X Y Z:Type}[Inhabited R](Sr:σ->da R σ X Y Z)(s0:σ)(hb:∀s,pe P tt N fr C F (Sr s))(hpn:∀s,(Sr s).pn=λs'=>(Sr s').env:=by exact λ_=>rfl)
  (hp:∀s,(Sr s).path=0::(Sr s0).path.tail/\(Sr s).rv=(Sr s0).rv/\(Sr s).px=(Sr s0).px/\(Sr s).py=(Sr s0).py/\(Sr s).pz=(Sr s0).pz:=by exact λ_=>⟨rfl,rfl,rfl,rfl,rfl⟩)
  (hc:jr (Hb C (Sr s0).path.tail)=true:=by kernel_rfl) :
  pe P tt N fr C F (lpS (Sr s0) (lpV (λs=>ca (Sr s).o) s0) (LpT (λs=>ca (Sr s).o) (λs=>(Sr s).ob) s0)):=oY Sr s0 hpn hp hc hb
end
section
variable {P:Program} {tt:TT} {sp:SP}
theorem Ba{pts:List PT}{F:Fnn}{o:nb pts->Oc Empty F.rt.T Empty Empty Empty}{ob:nb pts->Prop}{f:Nat}{fn:Func}(G:Good P tt sp)
  (h:∀ (x:nb pts) (fr:Fr),OkF P tt fn F F.rt.T fr (da.mk (o x) (ob x) [] (Qb pts x 0) (λq=>(some (F.rt.av q),.dead)) nE nE nE nE)) (hF:(P.funcs[f]?,fn.name == "runtime.NumGoroutine",fn.body,fn.results,Nat.ble pts.length fn.ntmps,Sa pts 0)=(some fn,false,some (Jd fn),F.rs.toArray,true,F.rd):=by kernel_rfl) (hn:F.rd=none:=by exact rfl):Con P f ⟨pts,F.rt,false,λx=>(ocR (o x),0),ob⟩:=by
 obtain⟨rs,rt,rd,fz⟩:=F;cases hn;simp only[Prod.mk.injEq]at hF;obtain⟨h1,h2,h3,h4,h5,h6⟩:=hF;exact pY G h1 h2 h3 h4 h5 (λ_=>h6) h6 (λx=>da.mk (o x) (ob x) [] (Qb pts x 0) (λq=>(some (rt.av q),.dead)) nE nE nE nE) (λ_=>⟨rfl,rfl,rfl,rfl,rfl⟩) h
theorem Vf{pts:List PT}{F:Fnn}{k:Nat}{o:nb pts->Oc Empty (F.rt.T×Int) Empty Empty Empty}{ob:nb pts->Prop}{f:Nat}{fn:Func}(G:Good P tt sp)(bs:nb pts->List Int)
  (h:∀ (x:nb pts) (fr:Fr),OkF P tt fn F (F.rt.T×Int) fr (da.mk (o x) (ob x) [] (Qb pts x 0) (λq=>(some (F.rt.av q.1),.box [(.sh,.lst .byte (bs x)),(.fr,.int .i64 q.2)])) nE nE nE nE)) (hF:(P.funcs[f]?,fn.name == "runtime.NumGoroutine",fn.body,fn.results,Nat.ble pts.length fn.ntmps,Sa pts 0)=(some fn,false,some (Jd fn),F.rs.toArray,true,F.rd):=by kernel_rfl) (hn:F.rd=some k:=by exact rfl) (hr:Ch F.rt=false:=by exact rfl)
  (hb:∀x,rdB pts x=some (bs x):=by exact λ_=>rfl):Con P f ⟨pts,F.rt,true,λx=>ocR (o x),ob⟩:=by
 obtain⟨rs,rt,rd,fz⟩:=F;cases hn;simp only[Prod.mk.injEq]at hF;obtain⟨h1,h2,h3,h4,h5,h6⟩:=hF;exact qY G h1 h2 h3 h4 h5 (λh=>by rw[show Ch rt=false from hr]at h;cases h) h6 bs hb (λx=>da.mk (o x) (ob x) [] (Qb pts x 0) (λq=>(some (rt.av q.1),.box [(.sh,.lst .byte (bs x)),(.fr,.int .i64 q.2)])) nE nE nE nE) (λ_=>⟨rfl,rfl,rfl,rfl,rfl⟩) h
end
end Go.Proofs.YthfkpijcajdnhaaGreat

namespace Go.Proofs.YthfkpijcajdnhaaGreat
open Go
theorem yY(s:Nat){e e':Env}(h:zh e s=some e'):ma e e':=by
 intro N B IoB W0 F0 a w hs;unfold zh at h;split at h
 ·rename_i f t xs hg;split at h
  ·rename_i hb;simp only[Bool.and_eq_true]at hb;simp only[Option.some.injEq]at h;subst h;obtain⟨F,ow,hx⟩:=hs.rep;obtain⟨F',hx'⟩:=hx.thaw hs.f0 hg hb.1 hb.2;exact⟨hs.defers,hs.tmps,hs.base,hs.f0,hs.kept,F',ow,hx'⟩
  .cases h
 .cases h
section
variable {N:NP} {B:Nat} {IoB:List Nat} {W0:World} {F0:Fz} {obs:List (Nat×Obj)} {e:Env} {a:Act} {w:World}
theorem MS.arg(hs:MS N B IoB W0 F0 obs e a w)(hfl:xe e=true){s:Nat}{v:Value}(hk:(s,v)∈N.k){c:C}(h:RC F0 0 W0 c v):MS N B IoB W0 F0 obs (Fa e s (.v .sh c)) a w:=by
 obtain⟨F,ow,hx⟩:=hs.sim.rep;refine⟨⟨hs.sim.defers,hs.sim.tmps,hs.sim.base,hs.sim.f0,hs.sim.kept,F,ow,hx.flat λn=>?_⟩,hs.kept,hs.ob,hs.hB⟩;rw[za];by_cases hn:n=s
 ·rw[if_pos hn];refine⟨rfl,?_⟩;rw[hn,hs.k hk];exact h.mono hx.sub (Nat.le_refl _) (λb o hF=>cell_of_heap (hs.kept.block b (hs.sim.f0 b o hF).1 (hs.sim.f0 b o hF).2))
 ·rw[if_neg hn];have h1:=hx.sr n;rw[ld (Qf hfl n)]at h1;exact⟨Qf hfl n,h1⟩
end
end Go.Proofs.YthfkpijcajdnhaaGreat

namespace Go.Proofs.YthfkpijcajdnhaaGreat
open Go
def kI(x:Item):List Int:=[x.Key,x.Val,0]
def mkI(p:List Int×Int):Item:=match p.1 with
 |[k,v,_]=>⟨k,v,p.2⟩
 |_=>⟨0,0,p.2⟩
def chI(xs:List Item):List (List Int×Int):=xs.map λx=>(kI x,x.Count)
def gathI(xs:List Item):List Item:=(mc (chI xs)).map mkI
def db(m:MP)(S:List Nat):List Item:=((S.map λi=>m.getD i ([0,0,0],0)).filter λp=>p.2 != 0).map mkI
noncomputable def nr(a0:List Item):List Item:=gathI a0
def Kl(a0:List Item):Prop:=lim (aa .item a0) 1
noncomputable def fD:Spec:=⟨[.lst .item],.one .fr (.lst .item),false,λx=>(nr x.1,0),λx=>Kl x.1⟩
end Go.Proofs.YthfkpijcajdnhaaGreat

namespace Go.Proofs.YthfkpijcajdnhaaGreat
open Go Go.Proofs Go.Shelf Go.RowKit Go.Lib Go.Sort
def zY:Go.Shelf.Ren:=⟨fun|6=>101|10=>116|11=>117|12=>118|13=>119|14=>120|24=>134|25=>135|26=>136|27=>137|28=>138|29=>139|30=>140|31=>141|32=>142|33=>143|34=>144|35=>145|36=>146|37=>147|38=>148|39=>149|n=>n,fun|20=>20|26=>103|35=>115|0=>0|37=>117|3=>3|41=>121|44=>124|49=>129|51=>131|4=>4|54=>134|53=>133|58=>138|5=>5|9=>9|60=>140|64=>144|66=>146|67=>147|17=>17|32=>112|33=>113|82=>162|12=>12|75=>155|76=>156|77=>157|78=>158|79=>159|80=>160|n=>n,fun|n=>n⟩
theorem sl6:Go.Proofs.LaysGg.n6 Tryz.prog zY:={
 mixed:=by kernel_rfl,
 f6:=Tryz.func101.trans (congrArg some (by kernel_rfl)),
 f10:=Tryz.func116.trans (congrArg some (by kernel_rfl)),
 f11:=Tryz.func117.trans (congrArg some (by kernel_rfl)),
 f12:=Tryz.func118.trans (congrArg some (by kernel_rfl)),
 f13:=Tryz.func119.trans (congrArg some (by kernel_rfl)),
 f14:=Tryz.func120.trans (congrArg some (by kernel_rfl)),
 f24:=Tryz.func134.trans (congrArg some (by kernel_rfl)),
 f25:=Tryz.func135.trans (congrArg some (by kernel_rfl)),
 f26:=Tryz.func136.trans (congrArg some (by kernel_rfl)),
 f27:=Tryz.func137.trans (congrArg some (by kernel_rfl)),
 f28:=Tryz.func138.trans (congrArg some (by kernel_rfl)),
 f29:=Tryz.func139.trans (congrArg some (by kernel_rfl)),
 f30:=Tryz.func140.trans (congrArg some (by kernel_rfl)),
 f31:=Tryz.func141.trans (congrArg some (by kernel_rfl)),
 f32:=Tryz.func142.trans (congrArg some (by kernel_rfl)),
 f33:=Tryz.func143.trans (congrArg some (by kernel_rfl)),
 f34:=Tryz.func144.trans (congrArg some (by kernel_rfl)),
 f35:=Tryz.func145.trans (congrArg some (by kernel_rfl)),
 f36:=Tryz.func146.trans (congrArg some (by kernel_rfl)),
 f37:=Tryz.func147.trans (congrArg some (by kernel_rfl)),
 f38:=Tryz.func148.trans (congrArg some (by kernel_rfl)),
 f39:=Tryz.func149.trans (congrArg some (by kernel_rfl)),
 t0:=Tryz.underlying0,
 a0:=Tryz.isAgg0,
 z0:=Tryz.sizeOf0,
 v0:=Tryz.zeroValue0,
 i0:=by kernel_rfl,
 t3:=Tryz.underlying3,
 a3:=Tryz.isAgg3,
 z3:=Tryz.sizeOf3,
 v3:=Tryz.zeroValue3,
 i3:=by kernel_rfl,
 t4:=Tryz.underlying4,
 a4:=Tryz.isAgg4,
 z4:=Tryz.sizeOf4,
 v4:=Tryz.zeroValue4,
 i4:=by kernel_rfl,
 t5:=Tryz.underlying5,
 a5:=Tryz.isAgg5,
 z5:=Tryz.sizeOf5,
 v5:=Tryz.zeroValue5,
 i5:=by kernel_rfl,
 t9:=Tryz.underlying9,
 a9:=Tryz.isAgg9,
 z9:=Tryz.sizeOf9,
 v9:=Tryz.zeroValue9,
 i9:=by kernel_rfl,
 t12:=Tryz.underlying12,
 a12:=Tryz.isAgg12,
 z12:=Tryz.sizeOf12,
 v12:=Tryz.zeroValue12,
 i12:=by kernel_rfl,
 t17:=Tryz.underlying17,
 a17:=Tryz.isAgg17,
 z17:=Tryz.sizeOf17,
 v17:=Tryz.zeroValue17,
 i17:=by kernel_rfl,
 t20:=Tryz.underlying20,
 a20:=Tryz.isAgg20,
 z20:=Tryz.sizeOf20,
 v20:=Tryz.zeroValue20,
 i20:=by kernel_rfl,
 t26:=Tryz.underlying103,
 a26:=Tryz.isAgg103,
 z26:=Tryz.sizeOf103,
 v26:=Tryz.zeroValue103,
 i26:=by kernel_rfl,
 t32:=Tryz.underlying112,
 a32:=Tryz.isAgg112,
 z32:=Tryz.sizeOf112,
 v32:=Tryz.zeroValue112,
 i32:=by kernel_rfl,
 t33:=Tryz.underlying113,
 a33:=Tryz.isAgg113,
 z33:=Tryz.sizeOf113,
 v33:=Tryz.zeroValue113,
 i33:=by kernel_rfl,
 t35:=Tryz.underlying115,
 a35:=Tryz.isAgg115,
 z35:=Tryz.sizeOf115,
 v35:=Tryz.zeroValue115,
 i35:=by kernel_rfl,
 t37:=Tryz.underlying117,
 a37:=Tryz.isAgg117,
 z37:=Tryz.sizeOf117,
 v37:=Tryz.zeroValue117,
 i37:=by kernel_rfl,
 t41:=Tryz.underlying121,
 a41:=Tryz.isAgg121,
 z41:=Tryz.sizeOf121,
 v41:=Tryz.zeroValue121,
 i41:=by kernel_rfl,
 t44:=Tryz.underlying124,
 a44:=Tryz.isAgg124,
 z44:=Tryz.sizeOf124,
 v44:=Tryz.zeroValue124,
 i44:=by kernel_rfl,
 t49:=Tryz.underlying129,
 a49:=Tryz.isAgg129,
 z49:=Tryz.sizeOf129,
 v49:=Tryz.zeroValue129,
 i49:=by kernel_rfl,
 t51:=Tryz.underlying131,
 a51:=Tryz.isAgg131,
 z51:=Tryz.sizeOf131,
 v51:=Tryz.zeroValue131,
 i51:=by kernel_rfl,
 t53:=Tryz.underlying133,
 a53:=Tryz.isAgg133,
 z53:=Tryz.sizeOf133,
 v53:=Tryz.zeroValue133,
 i53:=by kernel_rfl,
 t54:=Tryz.underlying134,
 a54:=Tryz.isAgg134,
 z54:=Tryz.sizeOf134,
 v54:=Tryz.zeroValue134,
 i54:=by kernel_rfl,
 t58:=Tryz.underlying138,
 a58:=Tryz.isAgg138,
 z58:=Tryz.sizeOf138,
 v58:=Tryz.zeroValue138,
 i58:=by kernel_rfl,
 t60:=Tryz.underlying140,
 a60:=Tryz.isAgg140,
 z60:=Tryz.sizeOf140,
 v60:=Tryz.zeroValue140,
 i60:=by kernel_rfl,
 t64:=Tryz.underlying144,
 a64:=Tryz.isAgg144,
 z64:=Tryz.sizeOf144,
 v64:=Tryz.zeroValue144,
 i64:=by kernel_rfl,
 t66:=Tryz.underlying146,
 a66:=Tryz.isAgg146,
 z66:=Tryz.sizeOf146,
 v66:=Tryz.zeroValue146,
 i66:=by kernel_rfl,
 t67:=Tryz.underlying147,
 a67:=Tryz.isAgg147,
 z67:=Tryz.sizeOf147,
 v67:=Tryz.zeroValue147,
 i67:=by kernel_rfl,
 t75:=Tryz.underlying155,
 a75:=Tryz.isAgg155,
 z75:=Tryz.sizeOf155,
 v75:=Tryz.zeroValue155,
 i75:=by kernel_rfl,
 t76:=Tryz.underlying156,
 a76:=Tryz.isAgg156,
 z76:=Tryz.sizeOf156,
 v76:=Tryz.zeroValue156,
 i76:=by kernel_rfl,
 t77:=Tryz.underlying157,
 a77:=Tryz.isAgg157,
 z77:=Tryz.sizeOf157,
 v77:=Tryz.zeroValue157,
 i77:=by kernel_rfl,
 t78:=Tryz.underlying158,
 a78:=Tryz.isAgg158,
 z78:=Tryz.sizeOf158,
 v78:=Tryz.zeroValue158,
 i78:=by kernel_rfl,
 t79:=Tryz.underlying159,
 a79:=Tryz.isAgg159,
 z79:=Tryz.sizeOf159,
 v79:=Tryz.zeroValue159,
 i79:=by kernel_rfl,
 t80:=Tryz.underlying160,
 a80:=Tryz.isAgg160,
 z80:=Tryz.sizeOf160,
 v80:=Tryz.zeroValue160,
 i80:=by kernel_rfl,
 t82:=Tryz.underlying162,
 a82:=Tryz.isAgg162,
 z82:=Tryz.sizeOf162,
 v82:=Tryz.zeroValue162,
 i82:=by kernel_rfl }
def ltI(x y:Item):Bool:=decide (x.Key<y.Key)||(decide (x.Key=y.Key)&&decide (x.Val<y.Val))
def encI(x:Item):List Value:=[.int .i64 x.Key,.int .i64 x.Val,.int .i64 x.Count]
theorem IC:SWO ltI:=by
 constructor
 .intro x;simp[ltI]
 ·intro x y z h1 h2;simp only[ltI,Bool.or_eq_true,Bool.and_eq_true,decide_eq_true_eq]at h1 h2⊢;omega
 ·intro x y z h1 h2;simp only[ltI,Bool.or_eq_false_iff,Bool.and_eq_false_iff,decide_eq_false_iff_not]at h1 h2⊢;omega
set_option maxHeartbeats 4000000 in
theorem JC(blk off c Bs size:Nat)(W:World)(G:Nat->Item)(hs:W.cell? ⟨Bs,0,none⟩=some (.slice (some ⟨blk,off,none⟩) size c))
  (hk:∀t,t<size->W.cell? ⟨blk,off+t*3,none⟩=some (.int .i64 (G t).Key)) (hv:∀t,t<size->W.cell? ⟨blk,off+t*3+1,none⟩=some (.int .i64 (G t).Val)) (i j:Nat) (hi:i<size) (hj:j<size) (_hsz:size<4611686018427387904) :
  Calls Tryz.prog 103 #[.int .i64 i,.int .i64 j,.pointer (some ⟨Bs,0,none⟩)] W λe w'=>e=.returned (.bool (ltI (G i) (G j)))/\∃q,w'=W.drewN q:=by
 have ki:=hk i hi;have kj:=hk j hj;have vi:=hv i hi;have vj:=hv j hj;by_cases h1:(G i).Key<(G j).Key
 ·have e1:decide ((G i).Key<(G j).Key)=true:=decide_eq_true h1;have hl:ltI (G i) (G j)=true:=by simp[ltI,h1]
  rw[hl]
  go_enter Tryz.func103,Tryz.ntmps103
  go_wp2
  go_quiet (fail)
  go_wp2
  go_ret
  exact⟨rfl,nq,rfl⟩
 ·have e1:decide ((G i).Key<(G j).Key)=false:=decide_eq_false h1;by_cases h2:(G i).Key=(G j).Key
  ·have e2:((G i).Key == (G j).Key)=true:=by simp[h2]
   have hl:ltI (G i) (G j)=decide ((G i).Val<(G j).Val):=by simp[ltI,h2]
   rw[hl]
   go_enter Tryz.func103,Tryz.ntmps103
   go_wp2
   go_quiet (fail)
   go_wp2
   go_ret
   exact⟨rfl,nq,rfl⟩
  ·have e2:((G i).Key == (G j).Key)=false:=by simp[h2]
   have hl:ltI (G i) (G j)=false:=by simp[ltI,h1,h2]
   rw[hl]
   go_enter Tryz.func103,Tryz.ntmps103
   go_wp2
   go_quiet (fail)
   go_wp2
   go_ret
   exact⟨rfl,nq,rfl⟩
noncomputable def svT:TypeInfo:=(Tryz.prog.info? 39).get (by kernel_rfl)
noncomputable def svE:TypeInfo:=(Tryz.prog.info? 42).get (by kernel_rfl)
theorem LC(n:Nat)(h2:2<=n):Lib.swapperK n svE 25=9:=by
 have a:svE.hasPointers=false:=by kernel_rfl
 have b:svE.bytes=24:=by kernel_rfl
 have c:(n == 0)=false:=by simp;omega
 have d:(n == 1)=false:=by simp;omega
 simp[Lib.swapperK,a,b,c,d]
theorem MC(blk off c Bs:Nat)(d:Array Item)(hsz:d.size<4611686018427387904)(w:World)(hH:HoldsK encI 3 w blk off d)(hblk:blk<w.heap.size)
  (hBs:w.cell? ⟨Bs,0,none⟩=some (.slice (some ⟨blk,off,none⟩) d.size c)) (hB1:Bs<w.heap.size) (hB2:Bs≠blk) :
  Calls Tryz.prog 101 #[.iface 39 (.slice (some ⟨blk,off,none⟩) d.size c),.func (.func 103) #[] #[.pointer (some ⟨Bs,0,none⟩)]] w λe w'=>
   e=.returned (.tuple #[])/\∃ (d':Array Item) (n:Nat) (os:Array Obj),d'.toList.Perm d.toList/\(∀i j,i<j->j<d'.size->ltI d'[j]! d'[i]! = false)/\w'=grow (putRowK encI 3 (Sort.ahead w n) blk off d') os:=by
 by_cases h2:2<=d.size
 ·have hless:LessReadsK Tryz.prog 103 #[.pointer (some ⟨Bs,0,none⟩)] encI 3 ltI blk off d.size w:=by
   intro m os dk hs i j hi hj
   have e:sortWorldK encI 3 w blk off m dk os=putRowK encI 3 (grow (Sort.ahead w m) os) blk off dk:=by
    unfold sortWorldK;rw[putRowK_grow _ _ (Sort.ahead w m) _ blk off _ hblk]
   have hHg:HoldsK encI 3 (grow (Sort.ahead w m) os) blk off d:=holdsK_grow _ _ _ _ blk off d hblk (holdsK_ahead _ _ _ _ _ _ _ hH);refine JC blk off c Bs d.size _ (λt=>dk[t]!) ?_ (λt ht=>?_) (λt ht=>?_) i j hi hj (by omega)
   .rw[e,cell?_putRowK_other _ _ _ blk off dk _ (by exact hB2),cell?_grow _ _ _ (by exact hB1)];exact hBs
   .rw[e];exact ((holdsK_putRowK _ _ _ blk off d dk hHg hs).cell (i:=t) (c:=0) (by omega) (by omega)).1
   .rw[e];exact ((holdsK_putRowK _ _ _ blk off d dk hHg hs).cell (i:=t) (c:=1) (by omega) (by omega)).1
  refine (Any.sort_Slice_cells_sorted sl6 39 42 svT svE (by kernel_rfl) (by kernel_rfl) (by kernel_rfl) (by kernel_rfl) 25 (λ_=>by kernel_rfl) encI 3 (λ_=>rfl) (by kernel_rfl) (λ_=>by kernel_rfl)
   (λx v hv=>by simp[encI]at hv;rcases hv with rfl|rfl|rfl<;>rfl) ltI IC 103 _
   (enters_of Tryz.func103 (by kernel_rfl) rfl) blk off c d h2 hsz 133 (by rw[LC _ h2];kernel_rfl) false
   (λargs W=>run_callFunc_extern Tryz.func133 (by kernel_rfl) (by kernel_rfl) (by kernel_rfl) (e:=Extern.ReflectliteSwapper.swap false) (by kernel_rfl) args W) w hless hH hblk).mono ?_
  rintro e w' ⟨rfl,d',n,os,hp,hs,rfl⟩;refine⟨rfl,d',n,os,?_,λi j hij hj=>hs i j (Nat.zero_le _) hij (by rw[← hp.1];exact hj),rfl⟩;have h3:=hp.2.2;have h4:d'.extract 0 d.size=d':=by rw[← hp.1];simp
  rw[h4]at h3;simpa using h3
 ·have hK:∃k,Tryz.prog.funcs.findIdx? (·.name == "internal/reflectlite"++".Swapper$"++toString (Lib.swapperK d.size svE 25))=some k:=by
   rcases Nat.lt_or_ge d.size 1 with h|h
   ·have hd:d.size=0:=by omega
    exact⟨125,by rw[hd,show Lib.swapperK 0 svE 25=1 by kernel_rfl];kernel_rfl⟩
   ·have hd:d.size=1:=by omega
    exact⟨126,by rw[hd,show Lib.swapperK 1 svE 25=2 by kernel_rfl];kernel_rfl⟩
  obtain⟨k,hk⟩:=hK;refine (Any.sort_Slice_tiny sl6 39 42 svT svE (by kernel_rfl) (by kernel_rfl) (by kernel_rfl) (by kernel_rfl) 25 (λ_=>by kernel_rfl) (some ⟨blk,off,none⟩) d.size c (by omega) k hk (.func 103) #[] _ w).mono ?_;rintro e w' ⟨rfl,os,rfl⟩;refine⟨rfl,d,0,os,.refl _,λi j hij hj=>by omega,?_⟩;rw[show Sort.ahead w 0=w from rfl,putRowK_self encI 3 w blk off d hH]
end Go.Proofs.YthfkpijcajdnhaaGreat

namespace Go.Proofs.YthfkpijcajdnhaaGreat
open Go
def ttg:TT:=[(3,⟨.scalar,1,[.int .i64 0],some .int,false⟩),(4,⟨.scalar,1,[.bool false],some .bool,false⟩),(39,⟨.slice 42,1,[.nl .item],none,false⟩),
 (42,⟨.struct [(0,1),(1,1),(2,1)],3,[.int .i64 0,.int .i64 0,.int .i64 0],some .item,true⟩)]
theorem Zd:ac Tryz.prog ttg:=xl (by kernel_rfl)
theorem gg:Good Tryz.prog ttg []:=⟨Zd,(λ_ _ h=>by cases h),by kernel_rfl⟩
theorem tdE:Gb Tryz.prog 42 ⟨.struct [(0,1),(1,1),(2,1)],3,[.int .i64 0,.int .i64 0,.int .i64 0],some .item,true⟩:=Zd.td _ _ (by kernel_rfl)
theorem td3:Gb Tryz.prog 3 ⟨.scalar,1,[.int .i64 0],some .int,false⟩:=Zd.td _ _ (by kernel_rfl)
noncomputable def fsG:Array Field:=match Tryz.prog.underlying 42 with
 |some (.struct fs)=>fs
 |_=>#[]
noncomputable def sv3:TypeInfo:=(Tryz.prog.info? 3).get (by kernel_rfl)
theorem Wf:sC Tryz.prog 104 42 3 3:=by
 refine⟨by kernel_rfl,⟨fsG,by kernel_rfl⟩,Zd.eq _ ⟨.struct [(0,1),(1,1),(2,1)],3,[.int .i64 0,.int .i64 0,.int .i64 0],some .item,true⟩ (by kernel_rfl) rfl,
  tC (fs:=fsG) (i:=svE) (by kernel_rfl) (by kernel_rfl) (by kernel_rfl) (by kernel_rfl),λw=>?_⟩
 have hi : Tryz.prog.info? 3=some sv3:=by kernel_rfl
 have hz:sv3.zero=some (.int .i64 0):=by kernel_rfl
 simp[zeroValue,typeInfo,hi,hz]
noncomputable def C0:Code:=Jd Tryz.f79
noncomputable def o1(i:Nat):Oper:=opN (opsOf (nav C0 [1,0])) i
noncomputable def o5(i:Nat):Oper:=opN (opsOf (nav C0 [1,1,0,1,0,0,1,1,0,0,1])) i
noncomputable def o8(i:Nat):Oper:=opN (opsOf (nav C0 [1,1,1,1,0,0])) i
noncomputable def o9(i:Nat):Oper:=opN (opsOf (nav C0 [1,1,1,1,0,1,0,0,0])) i
noncomputable def o10(i:Nat):Oper:=opN (opsOf (nav C0 [1,1,1,1,0,1,0,0,1,1,0,0])) i
noncomputable def o14(i:Nat):Oper:=opN (opsOf (nav C0 [1,1,1,1,1,0])) i
theorem chk:(opsOf (nav C0 [1,0])).size=2/\(opsOf (nav C0 [1,1,0,1,0,0,1,1,0,0,1])).size=13/\(opsOf (nav C0 [1,1,1,1,0,0])).size=2/\(opsOf (nav C0 [1,1,1,1,0,1,0,0,0])).size=2 /\
 (opsOf (nav C0 [1,1,1,1,0,1,0,0,1,1,0,0])).size=6/\(opsOf (nav C0 [1,1,1,1,1,0])).size=4:=⟨by kernel_rfl,by kernel_rfl,by kernel_rfl,by kernel_rfl,by kernel_rfl,by kernel_rfl⟩
end Go.Proofs.YthfkpijcajdnhaaGreat

namespace Go.Proofs.YthfkpijcajdnhaaGreat
open Go
theorem PC(w:World)(k v:Int):(Instr.build 42 #[(0,.int .i64 k),(1,.int .i64 v)]).run Tryz.prog w=.ok (Aa [k,v,0]) w:=by
 obtain⟨us,h1,h2⟩:=xB (F:=λ_ _=>False) (B:=0) (w:=w) tdE rfl (ps:=[(0,⟨true,false,[.int .i64 k]⟩),(1,⟨true,false,[.int .i64 v]⟩)]) (vs:=#[(0,.int .i64 k),(1,.int .i64 v)])
  (f:=true) (cs:=[.int .i64 k,.int .i64 v,.int .i64 0]) rfl (λj i p u hp hu=>by
    match j,hp,hu with
    |0,hp,hu=>simp at hp hu;obtain⟨rfl,rfl⟩:=hp;subst hu;exact RC.int _ _
    |1,hp,hu=>simp at hp hu;obtain⟨rfl,rfl⟩:=hp;subst hu;exact RC.int _ _
    |j+2,hp,hu=>simp at hp) rfl
 rw[h1];cases h2 with
 |cons h2 h3=>cases h2;cases h3 with
  |cons h2 h3=>cases h2;cases h3 with
   |cons h2 h3=>cases h2;cases h3;rfl
def V5(r b5:Nat)(k v c:Int)(m:MP):Nat->Value
 |0=>.map (some r)
 |1=>.pointer (some ⟨b5,0,none⟩)
 |2=>.int .i64 k
 |3=>.pointer (some ⟨b5,1,none⟩)
 |4=>.int .i64 v
 |5=>Aa [k,v,0]
 |6=>.int .i64 (Ra m [k,v,0])
 |7=>.pointer (some ⟨b5,2,none⟩)
 |8=>.int .i64 c
 |9=>.int .i64 (ar .add .i64 (Ra m [k,v,0]) c)
 |10=>.tuple #[.int .i64 (Ra m [k,v,0]),goInt (stp m [k,v,0])]
 |_=>goInt (stp m [k,v,0])
def mL(m:MP)(q:List Int×Int)(L:Nat->Bool):MP:=if L 12 then stepM m q else if L 10 then lc m q.1 else m
structure J5(a0:Act)(w1:World)(r b5:Nat)(k v c:Int)(m:MP)(L:Nat->Bool)(a:Act)(w:World):Prop where
 df:a.defers=[]
 sz:a.tmps.size=a0.tmps.size
 vs:∀i,i<12->L i=true->a.tmps.getD (16+i) undef=V5 r b5 k v c m i
 ot:∀n,n<16\/27<n->a.tmps.getD n undef=a0.tmps.getD n undef
 pk:Pk w1 r w
 ob:w.heap[r]? = some (ra (mL m ([k,v,0],c) L))
theorem yb.ins{n:Nat}{m:MP}(h:yb n m){ks:List Int}(hk:ks.length=n):yb n (lc m ks):=by
 unfold lc;split
 .exact h
 ·intro p hp;rcases List.mem_append.1 hp with hp|hp
  .exact h p hp
  .simp at hp;subst hp;exact hk
theorem xM(m:MP)(ks:List Int):Ra (lc m ks) ks=Ra m ks:=YL m ks ks
theorem yM(m:MP)(ks:List Int):stp m ks<(lc m ks).length:=by
 obtain⟨v0,h⟩:=aM m ks;exact (List.getElem?_eq_some_iff.1 h).1
theorem Pk.trans{w w' w'':World}{r:Nat}(h:Pk w r w')(k:Pk w' r w''):Pk w r w'':=⟨k.os.trans h.os,k.tape.trans h.tape,k.output.trans h.output,k.size.trans h.size,λi hi=>(k.block i hi).trans (h.block i hi)⟩
theorem J5.put{a0:Act}{w1:World}{r b5:Nat}{k v c:Int}{m:MP}{L:Nat->Bool}{a:Act}{w w':World}(h:J5 a0 w1 r b5 k v c m L a w)(h28:28<=a0.tmps.size){i:Nat}(hi:i<12)(hp:Pk w r w')
  (ho:w'.heap[r]? = some (ra (mL m ([k,v,0],c) λj=>if j=i then true else L j))):J5 a0 w1 r b5 k v c m (λj=>if j=i then true else L j) (a.put (some (16+i)) (V5 r b5 k v c m i)) w':=by
 have hs:16+i<a.tmps.size:=by rw[h.sz];omega
 refine⟨h.df,by rw[Vd];exact h.sz,λj hj hL=>?_,λn hn=>?_,h.pk.trans hp,ho⟩
 ·rw[La a _ _ hs];by_cases e:j=i
  .rw[if_pos (by omega),e]
  ·rw[if_neg (by omega)];exact h.vs j hj (by simpa [e] using hL)
 ·rw[La a _ _ hs,if_neg (by omega)];exact h.ot n hn
theorem QC{m:MP}{q:List Int×Int}{L:Nat->Bool}{i:Nat}(h1:i≠10)(h2:i≠12):mL m q (λj=>if j=i then true else L j)=mL m q L:=by
 unfold mL;have e1:¬ (12=i):=λe=>h2 e.symm;have e2:¬ (10=i):=λe=>h1 e.symm;simp[e1,e2]
theorem op5:(∀i,i<12->(o5 i).dst=some (16+i)/\(o5 i).guard=none)/\(o5 12).dst=none/\(o5 12).guard=none /\
  (o5 0).op=.move (.tmp 3)/\(o5 1).op=.fieldAddr 42 (.tmp 5) 0/\(o5 2).op=.load 3 (.tmp 17)/\(o5 3).op=.fieldAddr 42 (.tmp 5) 1/\(o5 4).op=.load 3 (.tmp 19)/\(o5 5).op=.build 42 #[(0,.tmp 18),(1,.tmp 20)] /\
  (o5 6).op=.lookup 104 (.tmp 16) (.tmp 21) false/\(o5 7).op=.fieldAddr 42 (.tmp 5) 2/\(o5 8).op=.load 3 (.tmp 23)/\(o5 9).op=.binOp .add 3 (.tmp 22) (.tmp 24) 3/\(o5 10).op=.mapEntry 104 (.tmp 16) (.tmp 21) /\
  (o5 11).op=.extract (.tmp 26) 1/\(o5 12).op=.entryStore 104 (.tmp 16) (.tmp 27) (.tmp 25):=by
 refine⟨λi hi=>?_,by kernel_rfl,by kernel_rfl,by kernel_rfl,by kernel_rfl,by kernel_rfl,by kernel_rfl,by kernel_rfl,by kernel_rfl,by kernel_rfl,by kernel_rfl,by kernel_rfl,by kernel_rfl,by kernel_rfl,by kernel_rfl,by kernel_rfl⟩;rcases (show i=0\/i=1\/i=2\/i=3\/i=4\/i=5\/i=6\/i=7\/i=8\/i=9\/i=10\/i=11 by omega) with rfl|rfl|rfl|rfl|rfl|rfl|rfl|rfl|rfl|rfl|rfl|rfl<;>exact⟨by kernel_rfl,by kernel_rfl⟩
set_option maxHeartbeats 1600000 in
set_option maxRecDepth 20000 in
theorem SC{Q:Exit->Act->World->Prop}{B:Nat}{W0:World}{F0:Fz}{r:Nat}{m:MP}{e:Env}{k v c:Int}{a:Act}{w:World}{N:NP}(hs:MS N B [] W0 F0 [(r,ra m)] e a w)(hfl:xe e=true)
  (hN:N.n=50/\N.r=none/\N.k=[(3,.map (some r))]) (hg:ba e 5=.box [(.fr,.int .i64 k),(.fr,.int .i64 v),(.fr,.int .i64 c)]) (hd:∀d,16<=d->d<=27->Ya (ba e d)=true) (hm:yb 3 m)
  (hQ:∀a w,MS N B [] W0 F0 [(r,ra (stepM m ([k,v,0],c)))] e a w->Q .normal a w):(nav C0 [1,1,0,1,0,0,1,1,0,0,1]).wp Tryz.prog Q a w:=by
 obtain⟨hN1,hN2,hN3⟩:=hN;have hcode:nav C0 [1,1,0,1,0,0,1,1,0,0,1]=.region (Bl (nav C0 [1,1,0,1,0,0,1,1,0,0,1])) (opsOf (nav C0 [1,1,0,1,0,0,1,1,0,0,1])) true:=by kernel_rfl
 have hsz:(opsOf (nav C0 [1,1,0,1,0,0,1,1,0,0,1])).size=13:=chk.2.1;obtain⟨F,ow,hx⟩:=hs.sim.rep;obtain⟨b5,us,hp5,_,hblk,_,hlen,hbx⟩:=hx.box hg;have hp5:a.tmps.getD 5 undef=.pointer (some ⟨b5,0,none⟩):=hp5;have hr:=hs.o (List.mem_singleton.2 rfl);have hbr:b5≠r:=hblk.ne hr rfl;have h3:a.tmps.getD 3 undef=.map (some r):=hs.k (by rw[hN3];simp);have h28:28<=a.tmps.size:=by rw[hs.sim.tmps.size,hN1];omega
 have hus:us=[.int .i64 k,.int .i64 v,.int .i64 c]:=by
  match us,hlen with
  |[u0,u1,u2],_=>
   have q0:RC F B w (.int .i64 k) u0:=hbx 0 _ u0 rfl rfl;have q1:RC F B w (.int .i64 v) u1:=hbx 1 _ u1 rfl rfl;have q2:RC F B w (.int .i64 c) u2:=hbx 2 _ u2 rfl rfl;cases q0;cases q1;cases q2;rfl
 subst hus;obtain⟨hdg,hd12,hg12,p0,p1,p2,p3,p4,p5,p6,p7,p8,p9,p10,p11,p12⟩:=op5;have hks:([k,v,0]:List Int).length=3:=rfl;rw[hcode];refine wp_region_any gg.hm ?_;refine pC (J:=J5 a { w with drawn:=w.drawn+1 } r b5 k v c m) (by kernel_rfl) ?_ ?_ (opsOf (nav C0 [1,1,0,1,0,0,1,1,0,0,1])).size _ a _ (by simp) (by simp) ?_ ?_
 ·intro L a' w' i o hio hLi hE hcl hJ next hn;have hi13:i<13:=by have:=(Array.getElem?_eq_some_iff.1 hio).1;omega
  have ho:o=o5 i:=(Ki hio).symm;have hE':∀j,Sf (o5 i) j=true->L j=true:=λj hj=>Ji (by rw[← ho];exact hE) hj
  have hC:∀i j,i<13->L i=true->Sf (o5 i) j=true->L j=true:=λi j hi hL hj=>by
   have hlt:i<(opsOf (nav C0 [1,1,0,1,0,0,1,1,0,0,1])).size:=by omega
   exact Ji (λe he hb=>hcl i (o5 i) (by have:=Array.getElem?_eq_getElem hlt;rw[this];exact congrArg some (Ki this).symm) hL e he hb) hj
  have hblk':Blk w' b5 [.int .i64 k,.int .i64 v,.int .i64 c]:=by
   refine Blk.same (w:=w) hblk ?_;rw[hJ.pk.block b5 hbr]
  have t3:a'.tmps.getD 3 undef=.map (some r):=by rw[hJ.ot 3 (.inl (by omega))];exact h3
  have t5:a'.tmps.getD 5 undef=.pointer (some ⟨b5,0,none⟩):=by rw[hJ.ot 5 (.inl (by omega))];exact hp5
  have pure:∀ (hi:i<12),i≠10->(execOp a'.eval (o5 i)).run Tryz.prog w'=.ok (.value (V5 r b5 k v c m i)) w'->wpOp Tryz.prog (opsOf (nav C0 [1,1,0,1,0,0,1,1,0,0,1])) Q i next a' w':=by
   intro hi h10 hrun;refine wa hio (by rw[ho];exact (hdg i hi).2) ?_;rw[ho];refine Ja hrun ?_;rw[(hdg i hi).1];exact hn _ _ (hJ.put h28 hi ⟨rfl,rfl,rfl,rfl,λ_ _=>rfl⟩ (by rw[QC h10 (by omega)];exact hJ.ob))
  have hm12:L 12=false->w'.heap[r]? = some (ra (if L 10 then lc m [k,v,0] else m)):=λh=>by
   have:=hJ.ob;unfold mL at this;rw[h]at this;simpa using this
  rcases (show i=0\/i=1\/i=2\/i=3\/i=4\/i=5\/i=6\/i=7\/i=8\/i=9\/i=10\/i=11\/i=12 by omega) with rfl|rfl|rfl|rfl|rfl|rfl|rfl|rfl|rfl|rfl|rfl|rfl|rfl
  .exact pure (by omega) (by omega) (by rw[Xd p0,t3];rfl)
  .exact pure (by omega) (by omega) (Hh p1 t5 tdE rfl rfl)
  .exact pure (by omega) (by omega) (yf p2 (hJ.vs 1 (by omega) (hE' 1 (by kernel_rfl))) td3 rfl (by rw[hblk'.cell];rfl))
  .exact pure (by omega) (by omega) (Hh p3 t5 tdE rfl rfl)
  .exact pure (by omega) (by omega) (yf p4 (hJ.vs 3 (by omega) (hE' 3 (by kernel_rfl))) td3 rfl (by rw[hblk'.cell];rfl))
  ·refine pure (by omega) (by omega) (lM p5 ?_);have e1:a'.tmps.getD 18 undef=.int .i64 k:=hJ.vs 2 (by omega) (hE' 2 (by kernel_rfl));have e2:a'.tmps.getD 20 undef=.int .i64 v:=hJ.vs 4 (by omega) (hE' 4 (by kernel_rfl))
   have:(#[(0,Operand.tmp 18),(1,Operand.tmp 20)].map λp=>(p.1,a'.eval p.2))=#[(0,Value.int .i64 k),(1,Value.int .i64 v)]:=by
    simp only[List.map_toArray,List.map_cons,List.map_nil];rw[show a'.eval (.tmp 18)=.int .i64 k from e1,show a'.eval (.tmp 20)=.int .i64 v from e2]
   rw[this];exact PC w' k v
  ·refine pure (by omega) (by omega) (Wq p6 ?_);rw[hJ.vs 0 (by omega) (hE' 0 (by kernel_rfl)),hJ.vs 5 (by omega) (hE' 5 (by kernel_rfl))]
   have h12:L 12=false:=by
    cases h:L 12 with
    |false=>rfl
    |true=>
     have h9:=hC 12 9 (by omega) h (by kernel_rfl);have h6:=hC 9 6 (by omega) h9 (by kernel_rfl);rw[h6]at hLi;cases hLi
   have hob:=hm12 h12;cases h10:L 10 with
   |false=>
    rw[h10]at hob;exact Rq Wf hob hm hks
   |true=>
    rw[h10]at hob;have hob:w'.heap[r]? = some (ra (lc m [k,v,0])):=hob;have:=Rq Wf hob (hm.ins hks) hks;rw[xM]at this;exact this
  .exact pure (by omega) (by omega) (Hh p7 t5 tdE rfl rfl)
  .exact pure (by omega) (by omega) (yf p8 (hJ.vs 7 (by omega) (hE' 7 (by kernel_rfl))) td3 rfl (by rw[hblk'.cell];rfl))
  .exact pure (by omega) (by omega) (iM p9 (hJ.vs 6 (by omega) (hE' 6 (by kernel_rfl))) (hJ.vs 8 (by omega) (hE' 8 (by kernel_rfl))))
  ·have h12:L 12=false:=by
    cases h:L 12 with
    |false=>rfl
    |true=>
     have h11:=hC 12 11 (by omega) h (by kernel_rfl);have h10:=hC 11 10 (by omega) h11 (by kernel_rfl);rw[h10]at hLi;cases hLi
   have hob:=hm12 h12;rw[hLi]at hob;have hob:w'.heap[r]? = some (ra m):=hob;have hrun:=QL Wf hob hm hks;refine wa hio (by rw[ho];exact (hdg 10 (by omega)).2) ?_;rw[ho];refine Ja (dM p10 (by rw[hJ.vs 0 (by omega) (hE' 0 (by kernel_rfl)),hJ.vs 5 (by omega) (hE' 5 (by kernel_rfl))];exact hrun)) ?_;rw[(hdg 10 (by omega)).1];refine hn _ _ (hJ.put h28 (by omega) (Jg _ _ _) ?_);rw[Kg hob];unfold mL;simp[h12]
  ·have e10:a'.tmps.getD 26 undef=.tuple #[.int .i64 (Ra m [k,v,0]),goInt (stp m [k,v,0])]:=hJ.vs 10 (by omega) (hE' 10 (by kernel_rfl));have hrun:(execOp a'.eval (o5 11)).run Tryz.prog w'=.ok (.value (goInt (stp m [k,v,0]))) w':=xf (vs:=#[.int .i64 (Ra m [k,v,0]),goInt (stp m [k,v,0])]) p11 e10 (by simp);exact pure (by omega) (by omega) hrun
  ·have h10:L 10=true:=hC 11 10 (by omega) (hE' 11 (by kernel_rfl)) (by kernel_rfl);have hob:=hm12 hLi;rw[h10]at hob;have hob:w'.heap[r]? = some (ra (lc m [k,v,0])):=hob;have hrun:=RL Wf hob (yM m [k,v,0]) (ar .add .i64 (Ra m [k,v,0]) c);refine wa hio (by rw[ho];exact hg12) ?_;rw[ho];refine Yq (eM p12 (by rw[hJ.vs 0 (by omega) (hE' 0 (by kernel_rfl)),hJ.vs 11 (by omega) (hE' 11 (by kernel_rfl)),hJ.vs 9 (by omega) (hE' 9 (by kernel_rfl))];exact hrun)) ?_;rw[hd12];refine hn _ _ ⟨hJ.df,hJ.sz,λj hj hL=>hJ.vs j hj (by simpa [show j≠12 by omega] using hL),hJ.ot,hJ.pk.trans (Jg _ _ _),?_⟩;rw[Kg hob];rfl
 ·intro L a' w' hall hJ;refine hQ a' w' ?_
  have hob:w'.heap[r]? = some (ra (stepM m ([k,v,0],c))):=by
   have:=hJ.ob;unfold mL at this;rw[hall 12 (by omega)]at this;simpa using this
  have h1:=(hs.drew (w.drawn+1)).set (obs':=[(r,ra (stepM m ([k,v,0],c)))]) (List.mem_singleton.2 rfl) hJ.pk (λp hp=>by
   rw[List.mem_singleton.1 hp];exact .inr ⟨rfl,hob,rfl⟩)
  refine h1.tmps (D:=[16,17,18,19,20,21,22,23,24,25,26,27]) hfl (λd hdm=>⟨hd d ?_ ?_,?_⟩) hN2 hJ.df hJ.sz (λn hn=>hJ.ot n ?_)
  .simp at hdm;omega
  .simp at hdm;omega
  ·rw[hN3];have h3d:3≠d:=by simp at hdm;omega
   simp[qh,jf h3d]
  .simp at hn;omega
 ·intro i o ho hL;simp only[Array.getD_eq_getD_getElem?]at hL;by_cases hi:i<(opsOf (nav C0 [1,1,0,1,0,0,1,1,0,0,1])).size
  .simp[hi]at hL
  .simp[hi]at hL
 ·refine⟨hs.sim.defers,rfl,λi hi hL=>?_,λn _=>rfl,⟨rfl,rfl,rfl,rfl,λ_ _=>rfl⟩,?_⟩
  ·simp only[Array.getD_eq_getD_getElem?]at hL;simp[hsz,show i<13 by omega]at hL
  ·show w.heap[r]? = _;rw[hr];unfold mL;simp[Array.getD_eq_getD_getElem?,hsz]
end Go.Proofs.YthfkpijcajdnhaaGreat

namespace Go.Proofs.YthfkpijcajdnhaaGreat
open Go
abbrev N1(r:Nat):NP:=⟨50,none,[(3,.map (some r))]⟩
def EL(xs:List Item)(i:Int):Env:=[(10,.v .sh (.lst .item xs)),(11,.v .fr (.int .i64 (aa .item xs))),(12,.v .fr (.int .i64 i))]
theorem wrap_small{x:Int}(h0:0<=x)(h1:x<9223372036854775808):IntKind.i64.wrap x=x:=by
 have hm:x % (2 ^ 64:Int)=x:=Int.emod_eq_of_lt h0 (by omega)
 have h2:¬ x >= (2 ^ (64 - 1):Int):=by
  have:(2 ^ (64 - 1):Int)=9223372036854775808:=by decide
  omega
 show (if (true&&decide (x % (2 ^ 64:Int) >= (2 ^ (64 - 1):Int)))=true then _ else x % (2 ^ 64:Int))=x;rw[hm,if_neg (by simpa using h2)]
theorem Mg{x:Int}(h0:0<=x)(h1:x<=1099511627776):ar .add .i64 x 1=x+1:=wrap_small (by omega) (by omega)
theorem Kh(xs:List Item):yb 3 (Ma (chI xs))/\∀p∈Ma (chI xs),∃k v,p.1=[k,v,0]:=by
 have key:∀ (l:List (List Int×Int)) (m:MP),(∀p∈l,∃k v,p.1=[k,v,0])->(∀ks∈la m,∃k v,ks=[k,v,(0:Int)])->∀ks∈la (l.foldl stepM m),∃k v,ks=[k,v,(0:Int)]:=by
  intro l
  induction l with
  |nil=>exact λm _ h=>h
  |cons q r ih=>
   intro m hl hm;refine ih _ (λp hp=>hl p (by simp[hp])) (λks hk=>?_);rw[Sq]at hk;split at hk
   .exact hm ks hk
   ·rcases List.mem_append.1 hk with hk|hk
    .exact hm ks hk
    .simp at hk;subst hk;exact hl q (by simp)
 have h2:∀p∈Ma (chI xs),∃k v,p.1=[k,v,0]:=λp hp=>key (chI xs) [] (λq hq=>by
  obtain⟨x,_,rfl⟩:=List.mem_map.1 hq;exact⟨x.Key,x.Val,rfl⟩) (by simp[la]) p.1 (List.mem_map.2 ⟨p,hp,rfl⟩)
 exact⟨λp hp=>by obtain⟨k,v,h⟩:=h2 p hp;rw[h];rfl,h2⟩
theorem TC{xs:List Item}{i:Nat}(hi:i<xs.length):Ma (chI (xs.take (i+1)))=stepM (Ma (chI (xs.take i))) (kI (rd .item xs i),(rd .item xs i).Count):=by
 have:xs.take (i+1)=xs.take i++[rd .item xs i]:=by
  rw[List.take_succ_eq_append_getElem hi]
  congr 2
  unfold rd;rw[List.getD_eq_getElem?_getD,show (i:Int).toNat=i from rfl,List.getElem?_eq_getElem hi];rfl
 rw[this];unfold Ma chI;rw[List.map_append,List.foldl_append];rfl
theorem zM:∀ (m:MP) (i:Nat) (v:Int),(Xc m i v).length=m.length
 |[],_,_=>rfl
 |_::_,0,_=>rfl
 |p::r,i+1,v=>by simp[Xc,zM r i v]
theorem AY(m:MP)(q:List Int×Int):(stepM m q).length<=m.length+1:=by
 unfold stepM lc;rw[zM];split<;>simp
theorem AM(l:List (List Int×Int)):(Ma l).length<=l.length:=by
 unfold Ma
 suffices ∀ (l:List (List Int×Int)) (m:MP),(l.foldl stepM m).length<=m.length+l.length by simpa using this l []
 intro l
 induction l with
 |nil=>exact λm=>Nat.le_refl _
 |cons q r ih=>
  intro m;have h1:=ih (stepM m q);have h2:=AY m q;simp only[List.foldl_cons,List.length_cons];omega
set_option maxRecDepth 20000 in
theorem UC{xs:List Item}(hlim:lim (aa .item xs) 1){Q:Exit->Act->World->Prop}{B:Nat}{W0:World}{F0:Fz}{r:Nat}{a:Act}{w:World}(hs:MS (N1 r) B [] W0 F0 [(r,ra [])] (EL xs 0) a w)
  (hQ:∀a w,MS (N1 r) B [] W0 F0 [(r,ra (Ma (chI xs)))] [] a w->Q .normal a w):(nav C0 [1,1,0,1]).wp Tryz.prog Q a w:=by
 have hlen:(xs.length:Int)<=1099511627775:=by have:aa .item xs+1<=1099511627776:=hlim;unfold aa at this;omega
 refine tc (c1:=nav C0 [1,1,0,1,0]) (id:=0) (by kernel_rfl) ?_;rw[show nav C0 [1,1,0,1,0]=.loop (nav C0 [1,1,0,1,0,0]) by kernel_rfl];refine oe (σ:=Nat) (λi a w=>i<=xs.length/\MS (N1 r) B [] W0 F0 [(r,ra (Ma (chI (xs.take i))))] (EL xs i) a w) (λi=>xs.length - i) ?_ 0 ⟨Nat.zero_le _,hs⟩;rintro i a w ⟨hi,hs⟩;refine ka (c1:=nav C0 [1,1,0,1,0,0,0]) (c2:=nav C0 [1,1,0,1,0,0,1]) (by kernel_rfl) ?_;refine MS.regC gg (keep:=[10,11,12,13]) (e':=[(10,.v .sh (.lst .item xs)),(11,.v .fr (.int .i64 (aa .item xs))),(12,.v .fr (.int .i64 i)),(13,.v .fr (.bool (cmp .lss i (aa .item xs))))]) (ps:=[]) (by kernel_rfl) trivial hs (λa w hs=>?_);refine ka (c1:=nav C0 [1,1,0,1,0,0,1,0]) (c2:=nav C0 [1,1,0,1,0,0,1,1]) (by kernel_rfl) ?_;refine uc (o:=.tmp 13) (c1:=nav C0 [1,1,0,1,0,0,1,0,0]) (c2:=nav C0 [1,1,0,1,0,0,1,0,1]) (by kernel_rfl) (hs.bool (k:=.fr) rfl) (λht=>Nc (by kernel_rfl) ?_) (λhf=>Oe (i:=0) (by kernel_rfl) ?_)
 ·have hlt:i<xs.length:=by
   have:decide ((i:Int)<aa .item xs)=true:=ht;have:=of_decide_eq_true this;unfold aa at this;omega
  show (nav C0 [1,1,0,1,0,0,1,1]).wp _ _ a w;refine ka (c1:=nav C0 [1,1,0,1,0,0,1,1,0]) (c2:=nav C0 [1,1,0,1,0,0,1,1,1]) (by kernel_rfl) ?_;refine tc (c1:=nav C0 [1,1,0,1,0,0,1,1,0,0]) (id:=1) (by kernel_rfl) ?_;refine ka (c1:=nav C0 [1,1,0,1,0,0,1,1,0,0,0]) (c2:=nav C0 [1,1,0,1,0,0,1,1,0,0,1]) (by kernel_rfl) ?_
  refine MS.regC gg (keep:=[5,10,11,12]) (e':=[(5,.box [(.fr,.int .i64 (rd .item xs i).Key),(.fr,.int .i64 (rd .item xs i).Val),(.fr,.int .i64 (rd .item xs i).Count)]),(10,.v .sh (.lst .item xs)),(11,.v .fr (.int .i64 (aa .item xs))),(12,.v .fr (.int .i64 i))])
   (ps:=[inb i (aa .item xs)]) (by kernel_rfl) ⟨⟨by omega,by unfold aa;omega⟩,trivial⟩ hs (λa w hs=>?_)
  refine SC hs (by kernel_rfl) ⟨rfl,rfl,rfl⟩ rfl (λd h1 h2=>?_) (Kh _).1 (λa w hs=>?_)
  .rcases (show d=16\/d=17\/d=18\/d=19\/d=20\/d=21\/d=22\/d=23\/d=24\/d=25\/d=26\/d=27 by omega) with rfl|rfl|rfl|rfl|rfl|rfl|rfl|rfl|rfl|rfl|rfl|rfl<;>rfl
  ·show (nav C0 [1,1,0,1,0,0,1,1,1]).wp _ _ a w;refine MS.regC gg (keep:=[10,11,12]) (e':=EL xs (ar .add .i64 i 1)) (ps:=[]) (by kernel_rfl) trivial hs (λa w hs=>?_);refine⟨i+1,by omega,by omega,?_⟩;rw[TC hlt];rw[Mg (by omega) (by omega)]at hs;exact hs
 ·have hge:xs.length<=i:=by
   have:decide ((i:Int)<aa .item xs)=false:=hf;have:=of_decide_eq_false this;unfold aa at this;omega
  show Exit.inBlock 0 Q (.exit 0) a w;simp only[Exit.inBlock,if_true];refine hQ a w ?_;rw[List.take_of_length_le hge]at hs;exact hs.weak (ma.cast (pat:=[]) (by kernel_rfl) (by kernel_rfl))
end Go.Proofs.YthfkpijcajdnhaaGreat

namespace Go.Proofs.YthfkpijcajdnhaaGreat
open Go
abbrev N2(it:Nat):NP:=⟨50,none,[(31,.pointer (some ⟨it,0,none⟩))]⟩
def E2(out:List Item):Env:=[(6,.box [(.acc true,.lst .item out)])]
theorem Lh:∀ {n:Nat} {S:List Nat},S.Nodup->(∀i∈S,i<n)->S.length<=n
 |0,[],_,_=>Nat.le_refl _
 |0,i::r,_,h=>absurd (h i (by simp)) (by omega)
 |n+1,S,hn,h=>by
  have h1:(S.filter λi=>i != n).length<=n:=Lh (hn.sublist List.filter_sublist) (λi hi=>by
   have h2:=List.mem_filter.1 hi;have h3:=h i h2.1;have h4:i≠n:=by simpa using h2.2
   omega)
  have h2:∀ {S:List Nat},S.Nodup->S.length<=(S.filter λi=>i != n).length+1:=by
   intro S
   induction S with
   |nil=>intro _;simp
   |cons i r ih=>
    intro hn;have hn':=List.nodup_cons.1 hn;by_cases e:i=n
    ·subst e
     have:(r.filter λj=>j != i)=r:=List.filter_eq_self.2 (λj hj=>by
      have:j≠i:=λe=>hn'.1 (e▸hj);simpa using this)
     simp[this]
    ·have:=ih hn'.2;simp[e];omega
  have:=h2 hn;omega
theorem VC(m:MP)(S:List Nat){i:Nat}{p:List Int×Int}(hp:m[i]? = some p):db m (S++[i])=db m S++(if p.2=0 then [] else [mkI p]):=by
 unfold db;rw[List.map_append,List.filter_append,List.map_append]
 congr 1
 have:m.getD i ([0,0,0],0)=p:=by rw[List.getD_eq_getElem?_getD,hp];rfl
 simp only[List.map_cons,List.map_nil,this];by_cases h:p.2=0<;>simp[h]
theorem Jl(m:MP)(S:List Nat):(db m S).length<=S.length:=by
 unfold db;rw[List.length_map];exact Nat.le_trans (List.length_filter_le _ _) (by simp)
theorem op9:(o9 0).op=.next (.tmp 31) false/\(o9 0).dst=some 32/\(o9 0).guard=none/\(o9 1).op=.extract (.tmp 32) 0/\(o9 1).dst=some 33/\(o9 1).guard=none /\
  (o10 0).op=.entry (.tmp 31)/\(o10 0).dst=some 34/\(o10 0).guard=none/\(o10 1).op=.extract (.tmp 34) 0/\(o10 1).dst=some 35/\(o10 1).guard=none/\(o10 2).op=.extract (.tmp 34) 1/\(o10 2).dst=some 36/\(o10 2).guard=none:=by
 refine⟨by kernel_rfl,by kernel_rfl,by kernel_rfl,by kernel_rfl,by kernel_rfl,by kernel_rfl,by kernel_rfl,by kernel_rfl,by kernel_rfl,by kernel_rfl,by kernel_rfl,by kernel_rfl,by kernel_rfl,by kernel_rfl,by kernel_rfl⟩
theorem at9:(opsOf (nav C0 [1,1,1,1,0,1,0,0,0]))[0]? = some (o9 0)/\(opsOf (nav C0 [1,1,1,1,0,1,0,0,0]))[1]? = some (o9 1)/\List.range (opsOf (nav C0 [1,1,1,1,0,1,0,0,0])).size=[0,1]:=⟨by kernel_rfl,by kernel_rfl,by kernel_rfl⟩
theorem Ld:(opsOf (nav C0 [1,1,1,1,0,1,0,0,1,1,0,0]))[0]? = some (o10 0)/\(opsOf (nav C0 [1,1,1,1,0,1,0,0,1,1,0,0]))[1]? = some (o10 1)/\(opsOf (nav C0 [1,1,1,1,0,1,0,0,1,1,0,0]))[2]? = some (o10 2) /\
 (opsOf (nav C0 [1,1,1,1,0,1,0,0,1,1,0,0]))[3]? = some (o10 3)/\(opsOf (nav C0 [1,1,1,1,0,1,0,0,1,1,0,0]))[4]? = some (o10 4)/\(opsOf (nav C0 [1,1,1,1,0,1,0,0,1,1,0,0]))[5]? = some (o10 5) /\
 List.range (opsOf (nav C0 [1,1,1,1,0,1,0,0,1,1,0,0])).size=[0,1,2,3,4,5]:=⟨by kernel_rfl,by kernel_rfl,by kernel_rfl,by kernel_rfl,by kernel_rfl,by kernel_rfl,by kernel_rfl⟩
set_option maxRecDepth 20000 in
set_option maxHeartbeats 1600000 in
theorem WC{m:MP}(hm:∀p∈m,∃k v,p.1=[k,v,0])(hlen:m.length<=1099511627775){Q:Exit->Act->World->Prop}{B:Nat}{W0:World}{F0:Fz}{r it:Nat}(hne:r≠it){a:Act}{w:World}
  (hs:MS (N2 it) B [] W0 F0 [(it,ub r m []),(r,ra m)] (E2 []) a w)
  (hQ:∀S a w,S.Nodup->(∀i∈S,i<m.length)->(∀i,i<m.length->i∈S)->MS (N2 it) B [] W0 F0 [] (E2 (db m S)) a w->Q .normal a w):(nav C0 [1,1,1,1,0,1]).wp Tryz.prog Q a w:=by
 refine tc (c1:=nav C0 [1,1,1,1,0,1,0]) (id:=2) (by kernel_rfl) ?_;rw[show nav C0 [1,1,1,1,0,1,0]=.loop (nav C0 [1,1,1,1,0,1,0,0]) by kernel_rfl];refine oe (σ:=List Nat) (λS a w=>S.Nodup/\(∀i∈S,i<m.length)/\MS (N2 it) B [] W0 F0 [(it,ub r m S),(r,ra m)] (E2 (db m S)) a w) (λS=>m.length - S.length) ?_ [] ⟨by simp,by simp,hs⟩;rintro S a w ⟨hnd,hlt,hs⟩;obtain⟨p90,d90,g90,p91,d91,g91,p100,d100,g100,p101,d101,g101,p102,d102,g102⟩:=op9;have hit:=hs.o (r:=it) (o:=ub r m S) (by simp);have hr:=hs.o (r:=r) (o:=ra m) (by simp);have h31:a.tmps.getD 31 undef=.pointer (some ⟨it,0,none⟩):=hs.k (by simp);refine ka (c1:=nav C0 [1,1,1,1,0,1,0,0,0]) (c2:=nav C0 [1,1,1,1,0,1,0,0,1]) (by kernel_rfl) ?_;refine Mc (by kernel_rfl) at9.2.2 ?_;rw[wpOps_cons];refine wa at9.1 g90 ?_;rcases SL (P:=Tryz.prog) hr hit (o9 0).type with⟨hall,hrun⟩|⟨i,p,n,hiS,hp,hrun⟩
 ·refine Ja (Xq p90 (by rw[h31];exact hrun)) ?_;rw[d90,wpOps_cons];have h1:=hs.val (d:=32) (by kernel_rfl) (v:=.tuple #[.bool false]) (av:=.dead) rfl (λ_ _=>trivial);refine wa at9.2.1 g91 ?_;refine Ja (xf (vs:=#[.bool false]) p91 (h1.k (by simp)) (v:=.bool false) (by simp)) ?_;rw[d91];have h2:=h1.val (d:=33) (by kernel_rfl) (v:=.bool false) (av:=.v .fr (.bool false)) rfl (λ_ _=>RC.bool _);refine Cc _ ?_;show (nav C0 [1,1,1,1,0,1,0,0,1]).wp _ _ _ _;refine ka (c1:=nav C0 [1,1,1,1,0,1,0,0,1,0]) (c2:=nav C0 [1,1,1,1,0,1,0,0,1,1]) (by kernel_rfl) ?_;refine uc (o:=.tmp 33) (c1:=nav C0 [1,1,1,1,0,1,0,0,1,0,0]) (c2:=nav C0 [1,1,1,1,0,1,0,0,1,0,1]) (by kernel_rfl) (h2.bool (k:=.fr) (b:=false) rfl) (λht=>by cases ht) (λhf=>Oe (i:=2) (by kernel_rfl) ?_);show Exit.inBlock 2 Q (.exit 2) _ _;simp only[Exit.inBlock,if_true];refine hQ S _ _ hnd hlt hall ?_;exact (h2.weak (e':=E2 (db m S)) (ma.cast (pat:=[(6,.same)]) (by kernel_rfl) (by kernel_rfl))).forget rfl rfl (λp hp=>by simp at hp⊢;simp[hp]) (λp hp=>by simp at hp)
 ·obtain⟨k,v,hkv⟩:=hm p (List.mem_of_getElem? hp);obtain⟨pk,pv⟩:=p;simp only at hkv hrun;subst hkv;have hil:i<m.length:=(List.getElem?_eq_some_iff.1 hp).1;refine Ja (Xq p90 (by rw[h31];exact hrun)) ?_;rw[d90,wpOps_cons]
  have h0:=(hs.drew n).set (r:=it) (o0:=ub r m S) (by simp) (w':=Sc { w with drawn:=n } it (ub r m (S++[i]))) (Jg _ _ _) (obs':=[(it,ub r m (S++[i])),(r,ra m)]) (λq hq=>by
   simp only[List.mem_cons,List.not_mem_nil,or_false]at hq;rcases hq with rfl|rfl
   .exact .inr ⟨rfl,Kg hit,rfl⟩
   .exact .inl ⟨by simp,hne⟩)
  have h1:=h0.val (d:=32) (by kernel_rfl) (v:=.tuple #[.bool true,Aa [k,v,0],.int .i64 pv]) (av:=.dead) rfl (λ_ _=>trivial);refine wa at9.2.1 g91 ?_;refine Ja (xf (vs:=#[.bool true,Aa [k,v,0],.int .i64 pv]) p91 (h1.k (by simp)) (v:=.bool true) (by simp)) ?_;rw[d91];have h2:=h1.val (d:=33) (by kernel_rfl) (v:=.bool true) (av:=.v .fr (.bool true)) rfl (λ_ _=>RC.bool _);refine Cc _ ?_;show (nav C0 [1,1,1,1,0,1,0,0,1]).wp _ _ _ _;refine ka (c1:=nav C0 [1,1,1,1,0,1,0,0,1,0]) (c2:=nav C0 [1,1,1,1,0,1,0,0,1,1]) (by kernel_rfl) ?_;refine uc (o:=.tmp 33) (c1:=nav C0 [1,1,1,1,0,1,0,0,1,0,0]) (c2:=nav C0 [1,1,1,1,0,1,0,0,1,0,1]) (by kernel_rfl) (h2.bool (k:=.fr) (b:=true) rfl) (λht=>Nc (by kernel_rfl) ?_) (λhf=>by cases hf);show (nav C0 [1,1,1,1,0,1,0,0,1,1]).wp _ _ _ _;have h3:MS (N2 it) B [] W0 F0 [(it,ub r m (S++[i])),(r,ra m)] (E2 (db m S)) _ _:=(h2.weak (e':=E2 (db m S)) (ma.cast (pat:=[(6,.same)]) (by kernel_rfl) (by kernel_rfl))).forget rfl rfl (λp hp=>by simp at hp⊢;simp[hp]) (λp hp=>hp);clear h0 h1 h2;generalize (a.put (some 32) _).put (some 33) _=a3 at h3⊢;generalize Sc { w with drawn:=n } it (ub r m (S++[i]))=w3 at h3⊢;refine tc (c1:=nav C0 [1,1,1,1,0,1,0,0,1,1,0]) (id:=3) (by kernel_rfl) ?_;refine ka (c1:=nav C0 [1,1,1,1,0,1,0,0,1,1,0,0]) (c2:=nav C0 [1,1,1,1,0,1,0,0,1,1,0,1]) (by kernel_rfl) ?_;refine Mc (by kernel_rfl) Ld.2.2.2.2.2.2 ?_;rw[wpOps_cons];refine wa Ld.1 g100 ?_;have hit3:=h3.o (r:=it) (o:=ub r m (S++[i])) (by simp);have hr3:=h3.o (r:=r) (o:=ra m) (by simp);have h313:a3.tmps.getD 31 undef=.pointer (some ⟨it,0,none⟩):=h3.k (by simp);refine Ja (gM p100 (by rw[h313];exact UL hr3 hit3 hp ⟨S,rfl⟩)) ?_;rw[d100,wpOps_cons];have h4:=h3.val (d:=34) (by kernel_rfl) (v:=.tuple #[Aa [k,v,0],.int .i64 pv]) (av:=.dead) rfl (λ_ _=>trivial);refine wa Ld.2.1 g101 ?_;refine Ja (xf (vs:=#[Aa [k,v,0],.int .i64 pv]) p101 (h4.k (by simp)) (v:=Aa [k,v,0]) (by simp)) ?_;rw[d101,wpOps_cons];have h5:=h4.val (d:=35) (by kernel_rfl) (v:=Aa [k,v,0]) (av:=.agg true [.int .i64 k,.int .i64 v,.int .i64 0]) rfl (λ_ _=>⟨[.int .i64 k,.int .i64 v,.int .i64 0],rfl,.cons (.int _ _) (.cons (.int _ _) (.cons (.int _ _) .nil))⟩);refine wa Ld.2.2.1 g102 ?_;refine Ja (xf (vs:=#[Aa [k,v,0],.int .i64 pv]) p102 (h5.k (by simp)) (v:=.int .i64 pv) (by simp)) ?_;rw[d102];have h6:=h5.val (d:=36) (by kernel_rfl) (v:=.int .i64 pv) (av:=.v .fr (.int .i64 pv)) rfl (λ_ _=>RC.int _ _)
  have h7:MS (N2 it) B [] W0 F0 [(it,ub r m (S++[i])),(r,ra m)] [(6,.box [(.acc true,.lst .item (db m S))]),(35,.agg true [.int .i64 k,.int .i64 v,.int .i64 0]),(36,.v .fr (.int .i64 pv))] _ _:=(h6.weak (ma.cast (pat:=[(6,.same),(35,.same),(36,.same)]) (by kernel_rfl) (by kernel_rfl))).forget rfl rfl (λp hp=>by simp at hp⊢;simp[hp]) (λp hp=>hp)
  clear h4 h5 h6;generalize ((a3.put (some 34) _).put (some 35) _).put (some 36) _=a7 at h7⊢
  refine MS.suf (l:=[o10 3,o10 4,o10 5]) (i:=3) gg (keep:=[6,7,8]) (e':=[(6,.box [(.acc true,.lst .item (db m S))]),(7,.box [(.fr,.int .i64 k),(.fr,.int .i64 v),(.fr,.int .i64 0)]),(8,.v .fr (.int .i64 pv))]) (ps:=[])
   (λj o hj=>by
     match j,hj with
     |0,hj=>simp at hj;subst hj;exact Ld.2.2.2.1
     |1,hj=>simp at hj;subst hj;exact Ld.2.2.2.2.1
     |2,hj=>simp at hj;subst hj;exact Ld.2.2.2.2.2.1
     |j+3,hj=>simp at hj) (by kernel_rfl) (by kernel_rfl) trivial h7 (λa w hs=>?_)
  show (nav C0 [1,1,1,1,0,1,0,0,1,1,0,1]).wp _ _ _ _;refine ka (c1:=nav C0 [1,1,1,1,0,1,0,0,1,1,0,1,0]) (c2:=nav C0 [1,1,1,1,0,1,0,0,1,1,0,1,1]) (by kernel_rfl) ?_;refine MS.regC gg (keep:=[6,7,8,38]) (e':=[(6,.box [(.acc true,.lst .item (db m S))]),(7,.box [(.fr,.int .i64 k),(.fr,.int .i64 v),(.fr,.int .i64 0)]),(8,.v .fr (.int .i64 pv)),(38,.v .fr (.bool (cmp .neq pv 0)))]) (ps:=[]) (by kernel_rfl) trivial hs (λa w hs=>?_);have hnd':(S++[i]).Nodup:=List.nodup_append.2 ⟨hnd,by simp,λx hx y hy e=>by simp at hy;subst hy;subst e;exact hiS hx⟩
  have hlt':∀j∈S++[i],j<m.length:=λj hj=>by
   rcases List.mem_append.1 hj with hj|hj
   .exact hlt j hj
   .simp at hj;subst hj;exact hil
  have hmes:m.length - (S++[i]).length<m.length - S.length:=by
   have:=Lh hnd' hlt';simp at this⊢;omega
  have hout:=VC m S hp;refine uc (o:=.tmp 38) (c1:=nav C0 [1,1,1,1,0,1,0,0,1,1,0,1,1,0]) (c2:=nav C0 [1,1,1,1,0,1,0,0,1,1,0,1,1,1]) (by kernel_rfl) (hs.bool (k:=.fr) rfl) (λht=>?_) (λhf=>Nc (by kernel_rfl) ?_)
  ·have hz:pv≠0:=by
    have:(pv != 0)=true:=ht;simpa using this
   refine ka (c1:=nav C0 [1,1,1,1,0,1,0,0,1,1,0,1,1,0,0]) (c2:=nav C0 [1,1,1,1,0,1,0,0,1,1,0,1,1,0,1]) (by kernel_rfl) ?_;refine MS.regC gg (keep:=[6,7]) (e':=[(6,.box [(.acc true,.lst .item (db m S))]),(7,.box [(.fr,.int .i64 k),(.fr,.int .i64 v),(.fr,.int .i64 pv)])]) (ps:=[]) (by kernel_rfl) trivial hs (λa w hs=>?_);refine MS.regC gg (keep:=[6]) (e':=E2 (db m S++[⟨k,v,pv⟩])) (ps:=[lim (aa .item (db m S)) (aa .item [⟨k,v,pv⟩])]) (by kernel_rfl) ⟨?_,trivial⟩ hs (λa w hs=>?_)
   ·have h1:=Jl m S;have h2:=Lh hnd hlt;show ((db m S).length:Int)+1<=1099511627776;omega
   ·refine⟨S++[i],hmes,hnd',hlt',?_⟩;rw[hout,if_neg hz];exact hs
  ·have hz:pv=0:=by
    have:(pv != 0)=false:=hf;simpa using this
   refine⟨S++[i],hmes,hnd',hlt',?_⟩;rw[hout,if_pos hz,List.append_nil];exact hs.weak (ma.cast (pat:=[(6,.same)]) (by kernel_rfl) (by kernel_rfl))
end Go.Proofs.YthfkpijcajdnhaaGreat

namespace Go.Proofs.YthfkpijcajdnhaaGreat
open Go Go.Sort Go.RowKit Go.Lib
theorem RC.int_inv{F:Fz}{lo:Nat}{w:World}{k:IntKind}{n:Int}{v:Value}(h:RC F lo w (.int k n) v):v=.int k n:=by cases h;rfl
theorem XC{N:NP}{B:Nat}{W0:World}{F0:Fz}{obs:List (Nat×Obj)}{e:Env}{a:Act}{w:World}{s:Nat}{out:List Item}(hs:MS N B [] W0 F0 obs e a w)(hg:ba e s=.box [(.acc true,.lst .item out)]) :
  ∃ Bs sl,a.tmps.getD s undef=.pointer (some ⟨Bs,0,none⟩)/\Blk w Bs [sl]/\B<=Bs/\((out=[]/\sl=.slice none 0 0)\/∃blk cap cs,sl=.slice (some ⟨blk,0,none⟩) out.length cap/\Blk w blk cs/\cs.length=cap*3/\out.length<=cap/\B<=blk/\blk≠Bs /\
    ∀i x,out[i]? = some x->∀j,j<3->cs[i*3+j]? = (encI x)[j]?):=by
 obtain⟨F,ow,hx⟩:=hs.sim.rep;obtain⟨Bs,us,htm,how,hblk,_,hlen,hbx⟩:=hx.box hg
 match us,hlen with
 |[sl],_=>
  have hBs:B<=Bs:=(hx.bd _ _ _ how).2.elim id (λh=>by simp at h);have hb0:Ga F (lof B true) w (ow s (some 0)) (.lst .item out) sl:=hbx 0 _ sl rfl rfl;obtain⟨hrc,hd⟩:=hb0;refine⟨Bs,sl,htm,hblk,hBs,?_⟩;rcases hd with⟨t,e1,e2⟩|⟨t,xs,blk,cap,cs,e1,e2,e3,e4,e5,e6⟩
  ·left;have e1:C.lst .item out=.lst t []:=e1;cases e1;exact⟨rfl,e2⟩
  ·right;have e1:C.lst .item out=.lst t xs:=e1;cases e1;have hbl:B<=blk:=(hx.bd _ _ _ e3).2.elim id (λh=>by simp at h)
   have hne:blk≠Bs:=λe=>by
    subst e;have:=(hx.inj _ _ _ _ _ how e3).2;cases this
   subst e2;cases hrc with
   |lst _ _ b o cap vs hb hcap hf hc hr=>
    refine⟨blk,cap,cs,rfl,e4,e5,hcap,hbl,hne,λi x hi j hj=>?_⟩;have hil:=(List.getElem?_eq_some_iff.1 hi).1;have h1:=hc i j hil hj;rw[Nat.zero_add,e4.cell]at h1;have h1:cs[i*3+j]? = some (vs i j):=h1;rw[h1];have hcl:(cells .item x)[j]? = some ((cells .item x)[j]'(by simp[cells];exact hj)):=List.getElem?_eq_getElem _;have h2:=hr i j x _ hi hcl;rcases (show j=0\/j=1\/j=2 by omega) with rfl|rfl|rfl
    ·have h2:RC F (lof B true) w (.int .i64 x.Key) (vs i 0):=h2;rw[RC.int_inv h2];rfl
    ·have h2:RC F (lof B true) w (.int .i64 x.Val) (vs i 1):=h2;rw[RC.int_inv h2];rfl
    ·have h2:RC F (lof B true) w (.int .i64 x.Count) (vs i 2):=h2;rw[RC.int_inv h2];rfl
theorem holds_of{w:World}{blk cap:Nat}{cs:List Value}{out:List Item}(hb:Blk w blk cs)(hlen:cs.length=cap*3)(hcs:∀i x,out[i]? = some x->∀j,j<3->cs[i*3+j]? = (encI x)[j]?):HoldsK encI 3 w blk 0 out.toArray:=by
 have _:=hlen;intro t ht;rw[size_flatK]at ht
 have hi:t / 3<out.length:=by
  have:out.toArray.size=out.length:=by simp
  omega
 have hj:t % 3<3:=Nat.mod_lt _ (by omega);refine⟨?_,hb.frozen _⟩;rw[Nat.zero_add,hb.cell,get_flatK _ _ _ _ ht];have h1:=hcs (t / 3) out[t / 3] (List.getElem?_eq_getElem hi) (t % 3) hj;rw[show t / 3*3+t % 3=t by omega]at h1;rw[h1];have h2:out.toArray[t / 3]! = out[t / 3]:=by simp[hi]
 rw[h2];have hl:(encI out[t / 3]).length=3:=rfl;rw[List.getElem?_eq_getElem (by omega),getElem!_pos (encI out[t / 3]) (t % 3) (by omega)];rfl
theorem ae{w:World}{os:Array Obj}{k:Nat}(h:k<w.heap.size):(grow w os).heap[k]? = w.heap[k]?:=by
 show (w.heap++os)[k]? = _;rw[Array.getElem?_append_left h]
theorem YC{w:World}{n blk:Nat}{d:Array Item}{k:Nat}(h:k≠blk):(putRowK encI 3 (Sort.ahead w n) blk 0 d).heap[k]? = w.heap[k]?:=by
 show (w.heap.modify blk _)[k]? = _;rw[Array.getElem?_modify,if_neg (λe=>h e.symm)]
theorem ZC{w:World}{n blk:Nat}{d:Array Item}:(putRowK encI 3 (Sort.ahead w n) blk 0 d).heap.size=w.heap.size:=by
 show (w.heap.modify blk _).size=_;simp
theorem aD{N:NP}{B:Nat}{W0:World}{F0:Fz}{obs:List (Nat×Obj)}{e:Env}{a a':Act}{w:World}{s:Nat}{out ys:List Item}(hs:MS N B [] W0 F0 obs e a w)(hL:Live F0 W0){Bs blk cap:Nat}{cs:List Value}
  (hB:Blk w Bs [.slice (some ⟨blk,0,none⟩) out.length cap]) (hBs:B<=Bs) (hb:Blk w blk cs) (hlen:cs.length=cap*3) (hcap:out.length<=cap) (hbl:B<=blk) (hne:blk≠Bs) (hH:HoldsK encI 3 w blk 0 out.toArray)
  (hy:ys.length=out.length) {n:Nat} {os:Array Obj} (hdf:a'.defers=[]) (hsz:a'.tmps.size=N.n) (htm:a'.tmps.getD s undef=.pointer (some ⟨Bs,0,none⟩)) :
  MS ⟨N.n,none,[]⟩ B [] W0 F0 [] [(s,.box [(.acc true,.lst .item ys)])] a' (grow (putRowK encI 3 (Sort.ahead w n) blk 0 ys.toArray) os):=by
 generalize hw:grow (putRowK encI 3 (Sort.ahead w n) blk 0 ys.toArray) os=w';have hpsz:(putRowK encI 3 (Sort.ahead w n) blk 0 ys.toArray).heap.size=w.heap.size:=ZC;have hold:∀k,k<w.heap.size->k≠blk->w'.heap[k]? = w.heap[k]?:=λk hk h=>by rw[← hw,ae (by rw[hpsz];exact hk),YC h]
 have hsize:w.heap.size<=w'.heap.size:=by rw[← hw];show w.heap.size<=(_++os).size;rw[Array.size_append,hpsz];omega
 have hy':ys.toArray.size=out.toArray.size:=by simp[hy]
 have hHy:HoldsK encI 3 (putRowK encI 3 (Sort.ahead w n) blk 0 ys.toArray) blk 0 ys.toArray:=holdsK_putRowK _ _ _ blk 0 out.toArray ys.toArray (holdsK_ahead _ _ _ _ _ _ _ hH) hy'
 have hcell:∀i x,ys[i]? = some x->∀j,j<3->w'.cell? ⟨blk,i*3+j,none⟩=(encI x)[j]?:=by
  intro i x hi j hj;have hil:=(List.getElem?_eq_some_iff.1 hi).1;have h1:=(hHy.cell (i:=i) (c:=j) (by simpa using hil) hj).1;rw[Nat.zero_add]at h1
  have h2:w'.cell? ⟨blk,i*3+j,none⟩=(putRowK encI 3 (Sort.ahead w n) blk 0 ys.toArray).cell? ⟨blk,i*3+j,none⟩:=by
   rw[← hw];exact cell_of_heap (ae (by rw[hpsz];exact hb.lt))
  rw[h2,h1]
  have h3:ys.toArray[i]! = x:=by
   rw[List.getElem?_eq_getElem hil]at hi;simp only[Option.some.injEq]at hi;simp[hil,hi]
  rw[h3];have hl:(encI x).length=3:=rfl;rw[List.getElem?_eq_getElem (by omega),getElem!_pos (encI x) j (by omega)]
 have hblk':∃cs',Blk w' blk cs'/\cs'.length=cap*3:=by
  obtain⟨t,ht⟩:=hb;refine⟨(putCells id 0 (flatK encI 3 ys.toArray) cs.toArray).toList,⟨t,?_⟩,by simp[putCells,hlen]⟩;rw[← hw,ae (by rw[hpsz];exact (Array.getElem?_eq_some_iff.1 ht).1)];show (w.heap.modify blk _)[blk]? = _;rw[Array.getElem?_modify,if_pos rfl,ht];simp[onCells]
 obtain⟨cs',hblk',hcs'⟩:=hblk';have hBs':Blk w' Bs [.slice (some ⟨blk,0,none⟩) out.length cap]:=hB.same (hold Bs hB.lt (Ne.symm hne))
 have hlow:∀k,k<B->w'.heap[k]? = W0.heap[k]?:=λk hk=>by
  rw[hold k (Nat.lt_of_lt_of_le hk hs.sim.base) (by omega)];exact hs.kept.block k hk (by simp)
 have hkept:Kept B [] W0 w':=by
  refine⟨?_,?_,?_,Nat.le_trans hs.kept.size hsize,λk hk _=>hlow k hk,λk o hk hc=>?_⟩
  .rw[← hw];exact hs.kept.os
  .rw[← hw];exact hs.kept.tape
  .rw[← hw];exact hs.kept.output
  .rw[hlow k (by rw[hs.hB];exact (Array.getElem?_eq_some_iff.1 hk).1)];exact hk
 have hF0:∀b o,F0 b o->b<B:=λb o h=>by rw[hs.hB];exact hL.lt h
 let F':Fz:=λb o=>F0 b o\/(b=blk/\o<out.length*3)
 refine⟨⟨hdf,⟨hsz,(λs h=>by cases h),(λp h=>by cases h)⟩,Nat.le_trans hs.sim.base hsize,λb o h=>⟨hF0 b o h,by simp⟩,Kept.refl _ _ _,F',
  λn i=>if n=s then (match i with|none=>some Bs|some 0=>some blk|some _=>none) else none,?_⟩,hkept,(λp h=>by cases h),hs.hB⟩
 refine⟨λb o h=>.inl h,λb o h=>h.imp_right (λh=>by omega),λb o h=>?_,λs1 i1 s2 i2 b h1 h2=>?_,λs1 i1 b h1=>?_,λn=>?_⟩
 ·rcases h with h|⟨rfl,h⟩
  .rw[cell_of_heap (hlow b (hF0 b o h))];exact hL b o h
  ·have hi:o / 3<ys.length:=by omega
   have:=hcell (o / 3) ys[o / 3] (List.getElem?_eq_getElem hi) (o % 3) (Nat.mod_lt _ (by omega));rw[show o / 3*3+o % 3=o by omega]at this;rw[this,List.getElem?_eq_getElem (by show _<3;omega)];rfl
 ·by_cases e1:s1=s<;>by_cases e2:s2=s<;>simp only[e1,e2,if_true,if_false]at h1 h2
  ·refine⟨by rw[e1,e2],?_⟩
   match i1,i2,h1,h2 with
   |none,none,_,_=>rfl
   |none,some 0,h1,h2=>simp at h1 h2;omega
   |some 0,none,h1,h2=>simp at h1 h2;omega
   |some 0,some 0,_,_=>rfl
   |some (_+1),_,h1,_=>simp at h1
   |none,some (_+1),_,h2=>simp at h2
   |some 0,some (_+1),_,h2=>simp at h2
  .simp at h2
  .simp at h1
  .simp at h1
 ·by_cases e1:s1=s
  ·simp only[e1,if_true]at h1
   match i1,h1 with
   |none,h1=>simp at h1;subst h1;exact⟨hBs'.lt,.inl hBs⟩
   |some 0,h1=>simp at h1;subst h1;exact⟨hblk'.lt,.inl hbl⟩
   |some (_+1),h1=>simp at h1
  .simp[e1]at h1
 ·simp only[ba];cases hn:Nat.beq s n with
  |false=>trivial
  |true=>
   have:=Nat.eq_of_beq_eq_true hn;subst this;refine⟨Bs,[.slice (some ⟨blk,0,none⟩) out.length cap],htm,by simp,hBs',λo h=>?_,rfl,λj kc u hk hu=>?_⟩
   ·rcases h with h|⟨h,_⟩
    .have:=hF0 _ _ h;omega
    .exact hne h.symm
   ·match j,hk,hu with
    |0,hk,hu=>
     simp only[List.getElem?_cons_zero,Option.some.injEq]at hk hu;subst hk;subst hu;simp only[if_true];rw[← hy]
     refine⟨.lst .item ys blk 0 cap (λi j=>(encI (ys.getD i ⟨0,0,0⟩)).getD j undef) hbl (by omega) (λi j hi hj=>.inr ⟨rfl,by rw[Nat.zero_add,← hy];exact qf hi hj⟩) (λi j hi hj=>?_) (λi j x c hx hc=>?_),
      .inr ⟨.item,ys,blk,cap,cs',rfl,rfl,rfl,hblk',hcs',λo ho h=>?_⟩⟩
     ·have hj:j<3:=hj;have h1:=hcell i ys[i] (List.getElem?_eq_getElem hi) j hj;show w'.cell? ⟨blk,0+(i*3+j),none⟩=_;rw[Nat.zero_add,h1];have hl:(encI ys[i]).length=3:=rfl;rw[List.getElem?_eq_getElem (by omega)];simp[List.getD_eq_getElem?_getD,List.getElem?_eq_getElem hi,List.getElem?_eq_getElem (show j<(encI ys[i]).length by omega)]
     ·have hv:ys.getD i ⟨0,0,0⟩=x:=by rw[List.getD_eq_getElem?_getD,hx];rfl
      rw[hv]
      have hj:j<3:=by
       have:=(List.getElem?_eq_some_iff.1 hc).1;simpa [cells] using this
      rcases (show j=0\/j=1\/j=2 by omega) with rfl|rfl|rfl<;>(simp[cells]at hc;subst hc;exact RC.int _ _)
     ·rcases h with h|⟨_,h⟩
      .have:=hF0 _ _ h;omega
      ·have ho:ys.length*3<=o:=ho;omega
    |j+1,hk,hu=>simp at hk
theorem bD{xs:List Item}{S:List Nat}(hnd:S.Nodup)(hlt:∀i∈S,i<(Ma (chI xs)).length)(hall:∀i,i<(Ma (chI xs)).length->i∈S){ys:List Item}(hp:ys.Perm (db (Ma (chI xs)) S))
  (hso:∀i j,i<j->j<ys.length->ltI (ys.getD j ⟨0,0,0⟩) (ys.getD i ⟨0,0,0⟩)=false):ys=gathI xs:=by
 have hm:=Kh xs;generalize hM:Ma (chI xs)=m at hlt hall hp hm;have hnm:(la m).Nodup:=by rw[← hM];exact zl _
 have hS:S.Perm (List.range m.length):=(List.perm_ext_iff_of_nodup hnd List.nodup_range).2 λi=>⟨λh=>List.mem_range.2 (hlt i h),λh=>hall i (List.mem_range.1 h)⟩
 have hmap:(List.range m.length).map (λi=>m.getD i (([0,0,0]:List Int),(0:Int)))=m:=by
  apply List.ext_getElem?;intro i;rw[List.getElem?_map];by_cases h:i<m.length
  ·rw[List.getElem?_range h];simp[List.getD_eq_getElem?_getD,List.getElem?_eq_getElem h]
  ·rw[List.getElem?_eq_none (by simpa using h),List.getElem?_eq_none (by omega)];rfl
 have hp2:ys.Perm ((m.filter λp=>p.2 != 0).map mkI):=by
  refine hp.trans ?_;unfold db;have:=((hS.map λi=>m.getD i (([0,0,0]:List Int),(0:Int))).filter λp=>p.2 != 0).map mkI;rw[hmap]at this;exact this
 have hback:∀p∈m,(kI (mkI p),(mkI p).Count)=p:=λp hp=>by
  obtain⟨k,v,h⟩:=hm.2 p hp;obtain⟨ks,c⟩:=p;simp only at h;subst h;rfl
 have hp3:(ys.map λx=>(kI x,x.Count)).Perm (m.filter λp=>p.2 != 0):=by
  have h1:=hp2.map λx=>(kI x,x.Count)
  have h2:((m.filter λp=>p.2 != 0).map mkI).map (λx=>(kI x,x.Count))=m.filter λp=>p.2 != 0:=by
   rw[List.map_map]
   conv=>rhs;rw[← List.map_id (m.filter λp=>p.2 != 0)]
   exact List.map_congr_left (λp hp=>hback p (List.mem_filter.1 hp).1)
  rw[h2]at h1;exact h1
 have hnd3:(la (ys.map λx=>(kI x,x.Count))).Nodup:=by
  have h1:(la (m.filter λp=>p.2 != 0)).Nodup:=hnm.sublist (List.Sublist.map _ List.filter_sublist);exact (hp3.map (λp:List Int×Int=>p.1)).nodup_iff.2 h1
 have hasc:Asc (ys.map λx=>(kI x,x.Count)):=by
  refine List.pairwise_iff_getElem.2 ?_;intro i j hi hj hij;simp only[List.length_map]at hi hj;simp only[List.getElem_map];have h1:=hso i j hij hj;rw[List.getD_eq_getElem?_getD,List.getD_eq_getElem?_getD,List.getElem?_eq_getElem hi,List.getElem?_eq_getElem hj]at h1;simp only[Option.getD_some]at h1
  have hne:kI ys[i]≠kI ys[j]:=by
   intro e;have h2:(la (ys.map λx=>(kI x,x.Count)))[i]'(by simp[la];exact hi)=(la (ys.map λx=>(kI x,x.Count)))[j]'(by simp[la];exact hj):=by simpa [la] using e
   exact absurd h2 (List.pairwise_iff_getElem.1 hnd3 i j (by simp[la];exact hi) (by simp[la];exact hj) hij)
  simp only[ltI,Bool.or_eq_false_iff,Bool.and_eq_false_iff,decide_eq_false_iff_not]at h1;have hne':¬ (ys[i].Key=ys[j].Key/\ys[i].Val=ys[j].Val):=λ⟨a,b⟩=>hne (by simp[kI,a,b]);simp only[kI,ltK,Bool.or_eq_true,Bool.and_eq_true,decide_eq_true_eq];omega
 have hg:(ys.map λx=>(kI x,x.Count))=mc (chI xs):=by
  unfold mc;rw[hM];have hpp:=hp3.trans (Al (m.filter λp=>p.2 != 0)).symm;refine zC hpp hasc (Vq (n:=3) (hnm.sublist (List.Sublist.map _ List.filter_sublist)) (λp hp=>hm.1 p (List.mem_filter.1 hp).1))
 unfold gathI;rw[← hg,List.map_map]
 conv=>lhs;rw[← List.map_id ys]
 exact List.map_congr_left (λx _=>by cases x;rfl)
end Go.Proofs.YthfkpijcajdnhaaGreat

namespace Go.Proofs.YthfkpijcajdnhaaGreat
open Go Go.Sort Go.RowKit Go.Lib
theorem cD:(o14 0).op=.load 39 (.tmp 6)/\(o14 0).dst=some 45/\(o14 0).guard=none/\(o14 1).op=.makeInterface 39 (.tmp 45)/\(o14 1).dst=some 46/\(o14 1).guard=none /\
  (o14 2).op=.makeFunc (.func 103) #[] #[.tmp 6]/\(o14 2).dst=some 47/\(o14 2).guard=none/\(o14 3).op=.call ⟨.value (.func 101),#[.tmp 46,.tmp 47],#[20, 103]⟩/\(o14 3).dst=some 48/\(o14 3).guard=none:=by
 refine⟨by kernel_rfl,by kernel_rfl,by kernel_rfl,by kernel_rfl,by kernel_rfl,by kernel_rfl,by kernel_rfl,by kernel_rfl,by kernel_rfl,by kernel_rfl,by kernel_rfl,by kernel_rfl⟩
theorem Qe:(opsOf (nav C0 [1,1,1,1,1,0]))[0]? = some (o14 0)/\(opsOf (nav C0 [1,1,1,1,1,0]))[1]? = some (o14 1)/\(opsOf (nav C0 [1,1,1,1,1,0]))[2]? = some (o14 2)/\(opsOf (nav C0 [1,1,1,1,1,0]))[3]? = some (o14 3) /\
 List.range (opsOf (nav C0 [1,1,1,1,1,0])).size=[0,1,2,3]:=⟨by kernel_rfl,by kernel_rfl,by kernel_rfl,by kernel_rfl,by kernel_rfl⟩
noncomputable def fnS:Func:=(Tryz.prog.funcs[101]?).getD default
theorem Ni : Tryz.prog.funcs[101]? = some fnS/\(fnS.name == "runtime.NumGoroutine")=false/\fnS.body.isNone=false:=⟨by kernel_rfl,by kernel_rfl,by kernel_rfl⟩
theorem tdT:Gb Tryz.prog 39 ⟨.slice 42,1,[.nl .item],none,false⟩:=Zd.td _ _ (by kernel_rfl)
theorem BM{P:Program}{a:Act}{w:World}{o:Oper}{f x y t u:Nat}{fn:Func}(hop:o.op=.call ⟨.value (.func f),#[.tmp x,.tmp y],#[t,u]⟩)(hfn:P.funcs[f]? = some fn)(hname:(fn.name == "runtime.NumGoroutine")=false)(hbody:fn.body.isNone=false) :
  (execOp a.eval o).run P w=.ok (.enter f #[a.tmps.getD x undef,a.tmps.getD y undef]) w:=by
 obtain⟨dst,op,ty,pos,aft,gd⟩:=o;simp only[]at hop;subst hop;have hname':¬ fn.name="runtime.NumGoroutine":=by simpa using hname
 have hbody':¬ fn.body=none:=by intro e;rw[e]at hbody;simp at hbody
 simp[execOp,resolve,Act.eval,Deferred.ofValue,invoke,callFunc,hfn,hname',hbody']
theorem dD{a:Act}{w:World}{o:Oper}(hop:o.op=.load 39 (.tmp 6)){Bs:Nat}{sl:Value}(hx:a.tmps.getD 6 undef=.pointer (some ⟨Bs,0,none⟩))(hb:Blk w Bs [sl]):(execOp a.eval o).run Tryz.prog w=.ok (.value sl) w:=yf hop hx tdT rfl (by rw[hb.cell];rfl)
set_option maxRecDepth 20000 in
theorem eD{out:List Item}(hlen:out.length<=1099511627776){Q:Exit->Act->World->Prop}{B:Nat}{W0:World}{F0:Fz}(hL:Live F0 W0){a:Act}{w:World}(hs:MS ⟨50,none,[]⟩ B [] W0 F0 [] (E2 out) a w)
  (hQ:∀ys a w,ys.Perm out->(∀i j,i<j->j<ys.length->ltI (ys.getD j ⟨0,0,0⟩) (ys.getD i ⟨0,0,0⟩)=false)->MS ⟨50,none,[]⟩ B [] W0 F0 [] (E2 ys) a w->Q .normal a w):(nav C0 [1,1,1,1,1,0]).wp Tryz.prog Q a w:=by
 obtain⟨p0,d0,g0,p1,d1,g1,p2,d2,g2,p3,d3,g3⟩:=cD;obtain⟨Bs,sl,h6,hB,hBs,hcase⟩:=XC (s:=6) hs rfl;have hsz:a.tmps.size=50:=hs.sim.tmps.size;refine Mc (by kernel_rfl) Qe.2.2.2.2 ?_;rw[wpOps_cons];refine wa Qe.1 g0 ?_;refine Ja (dD p0 h6 hB) ?_;rw[d0,wpOps_cons];refine wa Qe.2.1 g1 ?_;refine Ja (jM p1 (e:=42) (by kernel_rfl)) ?_;rw[d1,wpOps_cons];refine wa Qe.2.2.1 g2 ?_;refine Ja (kM p2) ?_;rw[d2,wpOps_cons];refine wa Qe.2.2.2.1 g3 ?_;have e45:(a.put (some 45) sl).tmps.getD 45 undef=sl:=by rw[La a 45 sl (by omega),if_pos rfl]
 rw[e45];generalize ha1:a.put (some 45) sl=a1;have s1:a1.tmps.size=50:=by rw[← ha1,Vd,hsz]
 have t1:a1.tmps.getD 6 undef=.pointer (some ⟨Bs,0,none⟩):=by rw[← ha1,La a 45 sl (by omega),if_neg (by omega)];exact h6
 have df1:a1.defers=[]:=by rw[← ha1];exact hs.sim.defers
 generalize ha2:a1.put (some 46) (.iface 39 sl)=a2;have s2:a2.tmps.size=50:=by rw[← ha2,Vd,s1]
 have t2:a2.tmps.getD 6 undef=.pointer (some ⟨Bs,0,none⟩):=by rw[← ha2,La a1 46 _ (by omega),if_neg (by omega)];exact t1
 have v2:a2.tmps.getD 46 undef=.iface 39 sl:=by rw[← ha2,La a1 46 _ (by omega),if_pos rfl]
 have df2:a2.defers=[]:=by rw[← ha2];exact df1
 rw[t2];generalize ha3:a2.put (some 47) (.func (.func 103) #[] #[.pointer (some ⟨Bs,0,none⟩)])=a3;have s3:a3.tmps.size=50:=by rw[← ha3,Vd,s2]
 have t3:a3.tmps.getD 6 undef=.pointer (some ⟨Bs,0,none⟩):=by rw[← ha3,La a2 47 _ (by omega),if_neg (by omega)];exact t2
 have v3:a3.tmps.getD 46 undef=.iface 39 sl:=by rw[← ha3,La a2 47 _ (by omega),if_neg (by omega)];exact v2
 have u3:a3.tmps.getD 47 undef=.func (.func 103) #[] #[.pointer (some ⟨Bs,0,none⟩)]:=by rw[← ha3,La a2 47 _ (by omega),if_pos rfl]
 have df3:a3.defers=[]:=by rw[← ha3];exact df2
 unfold Oper.wp;rw[BM p3 Ni.1 Ni.2.1 Ni.2.2,Oper.upon_enter,v3,u3];have s4:∀v,(a3.put (some 48) v).tmps.size=50:=λv=>by rw[Vd,s3]
 have t4:∀v,(a3.put (some 48) v).tmps.getD 6 undef=.pointer (some ⟨Bs,0,none⟩):=λv=>by rw[La a3 48 _ (by omega),if_neg (by omega)];exact t3
 rcases hcase with⟨rfl,rfl⟩|⟨blk,cap,cs,rfl,hb,hcl,hcap,hbl,hne,hcs⟩
 ·have hK : Tryz.prog.funcs.findIdx? (·.name == "internal/reflectlite"++".Swapper$"++toString (Lib.swapperK 0 svE 25))=some 125:=by
   rw[show Lib.swapperK 0 svE 25=1 by kernel_rfl];kernel_rfl
  refine (Any.sort_Slice_tiny sl6 39 42 svT svE (by kernel_rfl) (by kernel_rfl) (by kernel_rfl) (by kernel_rfl) 25 (λ_=>by kernel_rfl) none 0 0 (by omega) 125 hK (.func 103) #[] _ w).mono ?_;rintro e w' ⟨rfl,os,rfl⟩;show wpOps _ _ _ _ _ _;rw[d3];refine Cc _ (hQ [] _ _ (.refl _) (λi j _ h=>by simp at h) ?_);have hg:Ia (λ_ _=>False) w (λ_ _=>False) (grow w os):=⟨rfl,rfl,rfl,by show w.heap.size<=(w.heap++os).size;simp,λk hk=>ae hk,λ_ _ h=>h,λ_ _ h=>.inl h⟩;obtain⟨F,ow,hx⟩:=hs.sim.rep
  have hx':ja B [] F0 (E2 []) (λn=>a.tmps.getD n undef) (grow w os) F ow:=hx.grow hs.sim.base ⟨hg.os,hg.tape,hg.output,hg.size,hg.block,λ_ _ h=>h,λ_ _ h=>.inl h⟩ (λb o h=>by
   rw[cell_of_heap (ae ((show Live F w from hx.live).lt h))];exact hx.live b o h)
  have hsim:Sim ⟨50,none,[]⟩ B [] w F0 (E2 []) a (grow w os):=⟨hs.sim.defers,hs.sim.tmps,hs.sim.base,hs.sim.f0,⟨rfl,rfl,rfl,hg.size,λk hk _=>ae (Nat.lt_of_lt_of_le hk hs.sim.base),λk o hk _=>by
   rw[ae (Array.getElem?_eq_some_iff.1 hk).1];exact hk⟩,F,ow,hx'⟩
  have hms:=hs.of_sim hsim;refine hms.tmps (D:=[45,46,47,48]) (by kernel_rfl) (λd hd=>?_) rfl (by rw[show (a3.put (some 48) _).defers=a3.defers from rfl];exact df3) (by rw[s4,hsz]) (λn hn=>?_)
  ·simp at hd;rcases hd with rfl|rfl|rfl|rfl<;>exact⟨rfl,rfl⟩
  ·simp at hn;rw[La a3 48 _ (by omega),if_neg (by omega),← ha3,La a2 47 _ (by omega),if_neg (by omega),← ha2,La a1 46 _ (by omega),if_neg (by omega),← ha1,La a 45 _ (by omega),if_neg (by omega)]
 ·have hH:=holds_of hb hcl hcs;have hd:out.toArray.size=out.length:=by simp
  have hsort:=MC blk 0 cap Bs out.toArray (by rw[hd];omega) w hH hb.lt (by rw[hd,hB.cell];rfl) hB.lt (Ne.symm hne);rw[hd]at hsort;refine hsort.mono ?_;rintro e w' ⟨rfl,d',n,os,hp,hso,rfl⟩;show wpOps _ _ _ _ _ _;rw[d3];have hp:d'.toList.Perm out:=by simpa using hp
  have hback:=aD (a':=a3.put (some 48) (.tuple #[])) (s:=6) (ys:=d'.toList) (n:=n) (os:=os) hs hL hB hBs hb hcl hcap hbl hne hH hp.length_eq df3 (s4 _) (t4 _);rw[Array.toArray_toList]at hback;refine Cc _ (hQ d'.toList _ _ hp (λi j hij hj=>?_) hback);have hj':j<d'.size:=by simpa using hj
  have:=hso i j hij hj';rw[getElem!_pos d' j hj',getElem!_pos d' i (by omega)]at this;rw[List.getD_eq_getElem?_getD,List.getD_eq_getElem?_getD,List.getElem?_eq_getElem hj,List.getElem?_eq_getElem (show i<d'.toList.length by simp;omega)];simpa using this
end Go.Proofs.YthfkpijcajdnhaaGreat

namespace Go.Proofs.YthfkpijcajdnhaaGreat
open Go
theorem op1:(o1 0).op=.makeMap 104 none/\(o1 0).dst=some 9/\(o1 0).guard=none/\(o1 1).op=.assign (.tmp 9)/\(o1 1).dst=some 3/\(o1 1).guard=none /\
  (o8 0).op=.move (.tmp 3)/\(o8 0).dst=some 30/\(o8 0).guard=none/\(o8 1).op=.range 104 (.tmp 30)/\(o8 1).dst=some 31/\(o8 1).guard=none:=by
 refine⟨by kernel_rfl,by kernel_rfl,by kernel_rfl,by kernel_rfl,by kernel_rfl,by kernel_rfl,by kernel_rfl,by kernel_rfl,by kernel_rfl,by kernel_rfl,by kernel_rfl,by kernel_rfl⟩
theorem at1:(opsOf (nav C0 [1,0]))[0]? = some (o1 0)/\(opsOf (nav C0 [1,0]))[1]? = some (o1 1)/\List.range (opsOf (nav C0 [1,0])).size=[0,1] /\
 (opsOf (nav C0 [1,1,1,1,0,0]))[0]? = some (o8 0)/\(opsOf (nav C0 [1,1,1,1,0,0]))[1]? = some (o8 1)/\List.range (opsOf (nav C0 [1,1,1,1,0,0])).size=[0,1]:=⟨by kernel_rfl,by kernel_rfl,by kernel_rfl,by kernel_rfl,by kernel_rfl,by kernel_rfl⟩
set_option maxRecDepth 20000 in
set_option maxHeartbeats 800000 in
theorem CM:Con Tryz.prog 79 fD:=by
 refine Gi Zd (fn:=Tryz.f79) (c:=C0) (by kernel_rfl) (by kernel_rfl) (by kernel_rfl) (rs:=[.tmp 2]) (by kernel_rfl) (by kernel_rfl) (λ_=>rfl) ?_;intro x hx fr hfB hfL hIO a w hs;obtain⟨B,IoB,W0,F0⟩:=fr;have hIO:IoB=[]:=hIO rfl;subst hIO;obtain⟨xs,u⟩:=x;have hlim:lim (aa .item xs) 1:=hx;obtain⟨p0,d0,g0,p1,d1,g1,p80,d80,g80,p81,d81,g81⟩:=op1;have hms:MS ⟨50,none,[]⟩ B [] W0 F0 [] [(0,.v .sh (.lst .item xs))] a w:=(MS.of hs hfB).forget (by kernel_rfl) rfl (λp h=>by cases h) (λp h=>by cases h);refine ka (c1:=nav C0 [0]) (c2:=nav C0 [1]) (by kernel_rfl) ?_;refine MS.regC gg (keep:=[0]) (e':=[(0,.v .sh (.lst .item xs))]) (ps:=[]) (by kernel_rfl) trivial hms (λa w hs=>?_);refine ka (c1:=nav C0 [1,0]) (c2:=nav C0 [1,1]) (by kernel_rfl) ?_;refine Mc (by kernel_rfl) at1.2.2.1 ?_;rw[wpOps_cons];refine wa at1.1 g0 ?_;refine Ja (AC p0) ?_;rw[d0,wpOps_cons];have h1:=hs.alloc (d:=9) (by kernel_rfl) (v:=.map (some w.heap.size)) (o:=.map #[] 0) rfl;refine wa at1.2.1 g1 ?_;refine Ja (Cl p1) ?_;rw[d1,h1.k (s:=9) (v:=.map (some w.heap.size)) (by simp)];have h2:=h1.val (d:=3) (by kernel_rfl) (v:=.map (some w.heap.size)) (av:=.dead) rfl (λ_ _=>trivial);have h3:MS (N1 w.heap.size) B [] W0 F0 [(w.heap.size,ra [])] [(0,.v .sh (.lst .item xs))] _ _:=(h2.weak (ma.cast (pat:=[(0,.same)]) (by kernel_rfl) (by kernel_rfl))).forget rfl rfl (λp hp=>by simp at hp⊢;simp[hp]) (λp hp=>hp);generalize w.heap.size=r at h3;clear h1 h2;refine Cc _ ?_;show (nav C0 [1,1]).wp _ _ _ _;generalize w.alloc (.map #[] 0)=w1 at h3⊢;generalize (a.put (some 9) _).put (some 3) _=a1 at h3⊢;refine ka (c1:=nav C0 [1,1,0]) (c2:=nav C0 [1,1,1]) (by kernel_rfl) ?_;refine ka (c1:=nav C0 [1,1,0,0]) (c2:=nav C0 [1,1,0,1]) (by kernel_rfl) ?_;refine MS.regC gg (keep:=[10,11,12]) (e':=EL xs 0) (ps:=[]) (by kernel_rfl) trivial h3 (λa w hs=>?_);refine UC hlim hs (λa w hs=>?_);show (nav C0 [1,1,1]).wp _ _ a w;refine ka (c1:=nav C0 [1,1,1,0]) (c2:=nav C0 [1,1,1,1]) (by kernel_rfl) ?_;refine MS.regC gg (keep:=[6]) (e':=E2 []) (ps:=[]) (by kernel_rfl) trivial hs (λa w hs=>?_);refine ka (c1:=nav C0 [1,1,1,1,0]) (c2:=nav C0 [1,1,1,1,1]) (by kernel_rfl) ?_;refine ka (c1:=nav C0 [1,1,1,1,0,0]) (c2:=nav C0 [1,1,1,1,0,1]) (by kernel_rfl) ?_;refine Mc (by kernel_rfl) at1.2.2.2.2.2 ?_;rw[wpOps_cons];refine wa at1.2.2.2.1 g80 ?_;refine Ja (Xd p80) ?_;rw[d80,wpOps_cons,hs.k (s:=3) (v:=.map (some r)) (by simp)];have h4:=hs.val (d:=30) (by kernel_rfl) (v:=.map (some r)) (av:=.dead) rfl (λ_ _=>trivial);refine wa at1.2.2.2.2.1 g81 ?_;refine Ja (fM p81 (by rw[h4.k (s:=30) (v:=.map (some r)) (by simp)];exact mM (K:=42) (E:=3) (by kernel_rfl) (h4.o (r:=r) (o:=ra (Ma (chI xs))) (by simp)))) ?_;rw[d81];have hlt:r<w.heap.size:=(Array.getElem?_eq_some_iff.1 (h4.o (r:=r) (o:=ra (Ma (chI xs))) (by simp))).1;have h5:=h4.alloc (d:=31) (by kernel_rfl) (v:=.pointer (some ⟨w.heap.size,0,none⟩)) (o:=ub r (Ma (chI xs)) []) rfl;have h6:MS (N2 w.heap.size) B [] W0 F0 [(w.heap.size,ub r (Ma (chI xs)) []),(r,ra (Ma (chI xs)))] (E2 []) _ _:=(h5.weak (ma.cast (pat:=[(6,.same)]) (by kernel_rfl) (by kernel_rfl))).forget rfl rfl (λp hp=>by simp at hp⊢;simp[hp]) (λp hp=>hp);refine Cc _ ?_;show (nav C0 [1,1,1,1,0,1]).wp _ _ _ _
 have hml:(Ma (chI xs)).length<=1099511627775:=by
  have h1:=AM (chI xs);have h2:(chI xs).length=xs.length:=by simp[chI]
  have h3:(xs.length:Int)+1<=1099511627776:=hlim;omega
 refine WC (Kh xs).2 hml (by omega) h6 (λS a w hnd hlt hall hs=>?_);show (nav C0 [1,1,1,1,1]).wp _ _ a w;refine ka (c1:=nav C0 [1,1,1,1,1,0]) (c2:=nav C0 [1,1,1,1,1,1]) (by kernel_rfl) ?_
 have hol:(db (Ma (chI xs)) S).length<=1099511627776:=by
  have h1:=Jl (Ma (chI xs)) S;have h2:=Lh hnd hlt;omega
 refine eD hol hfL (hs.forget rfl rfl (λp h=>by cases h) (λp h=>by cases h)) (λys a w hp hso hs=>?_);have hy:=bD hnd hlt hall hp hso;subst hy;show (nav C0 [1,1,1,1,1,1]).wp _ _ a w;refine ka (c1:=nav C0 [1,1,1,1,1,1,0]) (c2:=nav C0 [1,1,1,1,1,1,1]) (by kernel_rfl) ?_;refine MS.regC gg (keep:=[2]) (e':=[(2,.v .fr (.lst .item (gathI xs)))]) (ps:=[]) (by kernel_rfl) trivial hs (λa w hs=>?_);refine Lg (by kernel_rfl) ?_;refine⟨[(2,.v .fr (.lst .item (gathI xs)))],?_,?_⟩
 .exact (hs.forget (N':=⟨(Tryz.f79).ntmps,none,[]⟩) (obs':=[]) (by kernel_rfl) rfl (λp h=>by cases h) (λp h=>by cases h)).to
 .exact⟨rfl,trivial⟩
end Go.Proofs.YthfkpijcajdnhaaGreat

namespace Go.Proofs.YthfkpijcajdnhaaGreat
open Go Go.Shelf Go.RowKit Go.Lib Go.Sort
structure Ln where
 n:Nat
 os:Array Obj
instance:Add Ln:=⟨λa b=>⟨a.n+b.n,a.os++b.os⟩⟩
instance:OfNat Ln 0:=⟨⟨0,#[]⟩⟩
def later(w:World)(x:Ln):World:=grow (Sort.ahead w x.n) x.os
theorem mb(w:World)(x y:Ln):later (later w x) y=later w (x+y):=by
 show grow (Sort.ahead (grow (Sort.ahead w x.n) x.os) y.n) y.os=grow (Sort.ahead w (x.n+y.n)) (x.os++y.os);rw[ahead_grow,grow_grow,ahead_ahead]
theorem Pd(w:World):later w 0=w:=by
 show grow (Sort.ahead w 0) #[]=w;rw[grow_empty];rfl
theorem GV{w:World}{a:Addr}(h:a.block<w.heap.size)(x:Ln):(later w x).cell? a=w.cell? a:=cell?_grow _ _ _ h
section
variable {P:Program} {α:Type} [Inhabited α] {enc:α->List Value} {k:Nat} {w w0 W:World} {blk off:Nat} {d dk X:Array α}
theorem nag(n:Nat)(dk:Array α)(os:Array Obj)(x:Ln):later (sortWorldK enc k w0 blk off n dk os) x=sortWorldK enc k w0 blk off (n+x.n) dk (os++x.os):=by
 unfold sortWorldK;show grow (Sort.ahead (grow (putRowK enc k (Sort.ahead w0 n) blk off dk) os) x.n) x.os=_;rw[ahead_grow,grow_grow];have:=putRowK_drewN enc k w0 n x.n blk off dk;rw[← this];rfl
theorem Qk(h:SWK enc k w0 blk off dk W)(x:Ln):SWK enc k w0 blk off dk (later W x):=by
 obtain⟨n,os,rfl⟩:=h;exact⟨_,_,nag n dk os x⟩
theorem oag(h:HoldsK enc k w blk off d)(hb:blk<w.heap.size)(x:Ln):HoldsK enc k (later w x) blk off d:=holdsK_grow enc k _ _ blk off d hb (holdsK_ahead enc k w x.n blk off d h)
def LessReadsK(P:Program)(g:Nat)(lb:Array Value)(enc:α->List Value)(k:Nat)(lt:α->α->Bool)(blk off size:Nat)(w:World):Prop:=
 ∀ (m:Nat) (os:Array Obj) (dk:Array α),dk.size=size->∀i j:Nat,i<size->j<size ->
   Calls P g (#[.int .i64 i,.int .i64 j]++lb) (sortWorldK enc k w blk off m dk os) λe w'=>e=.returned (.bool (lt dk[i]! dk[j]!))/\∃q,w'=later (sortWorldK enc k w blk off m dk os) q
variable {g:Nat} {lb:Array Value} {lt:α->α->Bool} {size:Nat}
theorem LessReadsK.grow(h:LessReadsK P g lb enc k lt blk off size w)(hblk:blk<w.heap.size)(os0:Array Obj) :
  LessReadsK P g lb enc k lt blk off size (Sort.grow w os0):=λm os dk hs i j hi hj=>by
 have e:sortWorldK enc k (Sort.grow w os0) blk off m dk os=sortWorldK enc k w blk off m dk (os0++os):=by
  unfold sortWorldK;rw[ahead_grow,putRowK_grow enc k (Sort.ahead w m) _ blk off _ hblk,grow_grow]
 rw[e];exact h m _ dk hs i j hi hj
theorem LessReadsK.on(h:LessReadsK P g lb enc k lt blk off size w)(hblk:blk<w.heap.size)(n:Nat)(dk:Array α)(os:Array Obj)(hs:dk.size=size) :
  LessReadsK P g lb enc k lt blk off size (sortWorldK enc k w blk off n dk os):=λm os' dk' hs' i j hi hj=>by
 rw[sortWorldK_on enc k w blk off n m dk dk' os os' hblk (hs'.trans hs.symm)];exact h _ _ dk' hs' i j hi hj
theorem rg(h:SWK enc k w0 blk off dk W)(hL:LessReadsK P g lb enc k lt blk off size w0)(hs:dk.size=size)(i j:Nat)(hi:i<size)(hj:j<size) :
  Calls P g (#[.int .i64 i,.int .i64 j]++lb) W λe w'=>e=.returned (.bool (lt dk[i]! dk[j]!))/\∃q,w'=later W q:=by
 obtain⟨n,os,rfl⟩:=h;exact hL n os dk hs i j hi hj
theorem UJ(h:SWK enc k w0 blk off dk W)(hL:LessReadsK P g lb enc k lt blk off size w0)(hblk:blk<w0.heap.size)(hs:dk.size=size):LessReadsK P g lb enc k lt blk off size W:=by
 obtain⟨n,os,rfl⟩:=h;exact hL.on hblk n dk os hs
theorem sg(enc:α->List Value)(k:Nat)(w:World)(o:Obj)(blk off:Nat)(x:Ln)(X:Array α)(hblk:blk<w.heap.size) :
  later (putRowK enc k (w.alloc o) blk off X) x=sortWorldK enc k w blk off x.n X (#[o]++x.os):=by
 unfold sortWorldK;rw[alloc_eq_grow,putRowK_grow enc k w _ blk off X hblk];show grow (Sort.ahead (grow (putRowK enc k w blk off X) #[o]) x.n) x.os=_;rw[ahead_grow,grow_grow];have:=putRowK_drewN enc k w 0 x.n blk off X;rw[Nat.zero_add]at this;rw[← this];rfl
theorem HV(h:LessReadsK P g lb enc k lt blk off size w)(o:Obj)(hblk:blk<w.heap.size)(hX:X.size=size)(x:Ln)(i j:Nat)(hi:i<size)(hj:j<size) :
  Calls P g (#[.int .i64 i,.int .i64 j]++lb) (later (putRowK enc k (w.alloc o) blk off X) x) λe w'=>e=.returned (.bool (lt X[i]! X[j]!))/\∃q,w'=later (putRowK enc k (w.alloc o) blk off X) (x+q):=by
 have:=h x.n (#[o]++x.os) X hX i j hi hj;rw[← sg enc k w o blk off x X hblk]at this;exact this.mono λe w' ⟨he,q,hq⟩=>⟨he,q,hq.trans (mb _ _ _)⟩
theorem swap_worldFK(enc:α->List Value)(k:Nat)(hk:∀x,(enc x).length=k)(w:World)(blk off:Nat)(hblk:blk<w.heap.size)(dk:Array α)(n:Ln)(i j:Nat)(hi:i<dk.size)(hj:j<dk.size) :
  ((later (putRowK enc k w blk off dk) n).setCells blk (off+i*k) (enc dk[j]!)).setCells blk (off+j*k) (enc dk[i]!)=later (putRowK enc k w blk off (swp dk i j)) n:=by
 have h1:blk<(Sort.ahead (putRowK enc k w blk off dk) n.n).heap.size:=by
  show blk<(putRowK enc k w blk off dk).heap.size;rw[size_putRowK];exact hblk
 show ((grow (Sort.ahead (putRowK enc k w blk off dk) n.n) n.os).setCells _ _ _).setCells _ _ _=grow (Sort.ahead (putRowK enc k w blk off (swp dk i j)) n.n) n.os;rw[setCells_grow _ _ _ _ _ h1,setCells_grow _ _ _ _ _ (by rw[size_setCells];exact h1)];rw[show Sort.ahead (putRowK enc k w blk off dk) n.n=(putRowK enc k w blk off dk).drewN n.n from rfl,setCells_drewN,setCells_drewN,putRowK_swp enc k hk w blk off dk i j hi hj];rfl
theorem VJ{sf:Nat}{sb:Array Value}(hswap:SwapSwapsK P sf sb enc k blk off size)(hk:∀x,(enc x).length=k)(hH:HoldsK enc k w blk off d)(hblk:blk<w.heap.size)(hd:d.size=size)(hX:X.size=size)(x:Ln)(i j:Nat)(hi:i<size)(hj:j<size) :
  (callFunc sf (#[.int .i64 i,.int .i64 j]++sb)).run P (later (putRowK enc k w blk off X) x)=.ok (.value (.tuple #[])) (later (putRowK enc k w blk off (swp X i j)) x):=by
 rw[hswap _ X (oag (holdsK_putRowK enc k _ blk off d X hH (hX.trans hd.symm)) (by rw[size_putRowK];exact hblk) x) hX i j hi hj];rw[swap_worldFK enc k hk w blk off hblk X x i j (by omega) (by omega)]
theorem Jf{o:Obj}{kk:Nat}{v:Value}(h:(w.alloc o).cell? ⟨w.heap.size,kk,none⟩=some v)(hblk:blk<w.heap.size)(x:Ln) :
  (later (putRowK enc k (w.alloc o) blk off X) x).cell? ⟨w.heap.size,kk,none⟩=some v:=by
 rw[GV (by rw[size_putRowK,alloc_eq_grow,size_grow];show w.heap.size<w.heap.size+1;omega),cell?_putRowK_other enc k _ blk off X _ (by show w.heap.size≠blk;omega)];exact h
theorem WJ(hH:HoldsK enc k w blk off d):w=later (putRowK enc k w blk off d) 0:=by
 rw[Pd,putRowK_self enc k w blk off d hH]
end
end Go.Proofs.YthfkpijcajdnhaaGreat

namespace Go.Proofs.YthfkpijcajdnhaaGreat
open Go Go.Shelf Go.RowKit Go.Lib Go.Sort
variable {P:Program} {ρ:Ren} {α:Type} [Inhabited α]
set_option maxHeartbeats 2000000 in
set_option maxRecDepth 100000 in
theorem Any.insertionSort_func_cells(L:LaysGg.n26 P ρ)(enc:α->List Value)(k:Nat)(hk:∀x,(enc x).length=k)(lt:α->α->Bool)(g:Nat)(lb:Array Value)(sf:Nat)(sb:Array Value)(blk off a b:Nat)(d:Array α)(w:World)
  (eg:∀args w,(callFunc g args).run P w=.ok (.enter g args) w) (hless:LessReadsK P g lb enc k lt blk off d.size w) (hswap:SwapSwapsK P sf sb enc k blk off d.size)
  (hH:HoldsK enc k w blk off d) (hblk:blk<w.heap.size) (hab:a<=b) (hb:b<=d.size) (hsz:d.size<4611686018427387904) :
  Calls P (ρ.f 26) #[.agg #[.func (.func g) #[] lb,.func (.func sf) #[] sb],.int .i64 a,.int .i64 b] w λe w'=>
   e=.returned (.tuple #[])/\∃n,w'=(later (putRowK enc k (w.alloc (.cells #[.func (.func g) #[] lb,.func (.func sf) #[] sb] (ρ.t 44))) blk off (Sort.insertionSort lt d a b)) n):=by
 have mixed:=L.mixed;have t0:=L.t0;have a0:=L.a0;have z0:=L.z0;have v0:=L.v0;have t3:=L.t3;have a3:=L.a3;have z3:=L.z3;have v3:=L.v3;have t4:=L.t4;have a4:=L.a4;have z4:=L.z4;have v4:=L.v4;have t26:=L.t26;have a26:=L.a26;have z26:=L.z26;have v26:=L.v26;have t37:=L.t37;have a37:=L.a37;have z37:=L.z37;have v37:=L.v37;have t44:=L.t44;have a44:=L.a44;have z44:=L.z44;have v44:=L.v44;have u44:=run_underlying L.t44;have hH1:HoldsK enc k (w.alloc (.cells #[.func (.func g) #[] lb,.func (.func sf) #[] sb] (ρ.t 44))) blk off d:=by rw[alloc_eq_grow];exact holdsK_grow enc k w _ blk off d hblk hH
 have hblk1:blk<(w.alloc (.cells #[.func (.func g) #[] lb,.func (.func sf) #[] sb] (ρ.t 44))).heap.size:=by rw[alloc_eq_grow,size_grow];omega
 go_enter L.f26,BodyGg.n26_ntmps ρ
 go_wp2
 go_loopw [6] (λvi wr=>∃ (i:Nat) (n:Ln) (dk:Array α),vi=.int .i64 i/\a<i/\i<=b+1/\dk.size=d.size/\wr=(later (putRowK enc k (w.alloc (.cells #[.func (.func g) #[] lb,.func (.func sf) #[] sb] (ρ.t 44))) blk off dk) n) /\
  insOuter lt a b i dk=insOuter lt a b (a+1) d) (λvi _=>b+1 - (intOf vi).toNat)
 case atStart=>exact⟨a+1,0,d,by go_num,by omega,by omega,rfl,WJ hH1,rfl⟩
 case round=>
  obtain⟨i,n,dk,rfl,hai,hib,hsk,hwr,hO⟩:=hrel;have HO:Hid (insOuter lt a b i dk=insOuter lt a b (a+1) d):=hO;clear hO
  go_wp2
  ·
   go_loopw [7] (λvj wr2=>∃ (j:Nat) (m:Ln) (dj:Array α),vj=.int .i64 j/\a<=j/\j<=i/\dj.size=d.size/\wr2=(later (putRowK enc k (w.alloc (.cells #[.func (.func g) #[] lb,.func (.func sf) #[] sb] (ρ.t 44))) blk off dj) m) /\
    insInner lt a j dj=insInner lt a i dk) (λvj _=>(intOf vj).toNat)
   case atStart=>exact⟨i,n,dk,rfl,by omega,Nat.le_refl _,hsk,rfl,rfl⟩
   case round=>
    obtain⟨j,m,dj,rfl,haj,hji,hsj,hw2,hI⟩:=hrel;have hlt:i<b:=by assumption
    have c0:∀q,(later wr q).cell? ⟨w.heap.size,0,none⟩=some (.func (.func g) #[] lb):=λq=>by rw[hw2,mb];exact Jf (by simp) hblk _
    have c1:∀q,(later wr q).cell? ⟨w.heap.size,1,none⟩=some (.func (.func sf) #[] sb):=λq=>by rw[hw2,mb];exact Jf (by simp) hblk _
    have c0':wr.cell? ⟨w.heap.size,0,none⟩=some (.func (.func g) #[] lb):=by have:=c0 0;rwa [Pd]at this
    have HW:Hid (wr=(later (putRowK enc k (w.alloc (.cells #[.func (.func g) #[] lb,.func (.func sf) #[] sb] (ρ.t 44))) blk off dj) m)):=hw2;have HI:Hid (insInner lt a j dj=insInner lt a i dk):=hI;have HH1:Aside _:=hH1;clear hw2 hI hH hH1
    have out:(j<=a\/lt dj[j]! dj[j - 1]! = false)->∀q,∃i' n' dk',Value.int .i64 ((i:Int)+1)=.int .i64 (i':Nat)/\a<i'/\i'<=b+1/\dk'.size=d.size /\
      (later wr q)=(later (putRowK enc k (w.alloc (.cells #[.func (.func g) #[] lb,.func (.func sf) #[] sb] (ρ.t 44))) blk off dk') n')/\insOuter lt a b i' dk'=insOuter lt a b (a+1) d:=λhs q=>
     ⟨i+1,m+q,dj,by go_num,by omega,by omega,hsj,by rw[HW.out,mb],
       by rw[← HO.out,insOuter_go _ _ _ _ _ hlt,← HI.out,insInner_stop _ _ _ _ hs]⟩
    have OUT:Hid _:=out;clear out;by_cases hja:a<j
    ·have hSW:SWK enc k w blk off dj wr:=by rw[HW.out,sg enc k w _ blk off m dj hblk];exact⟨_,_,rfl⟩
     have hl:=rg hSW hless hsj j (j - 1) (by omega) (by omega);clear hSW;rw[show (((j - 1:Nat):Int))=(j:Int) - 1 by omega]at hl;cases hlv:lt dj[j]! dj[j - 1]! with
     |true=>
      rw[hlv]at hl
      go_wp2_with (go_at_fn g;refine hl.mono ?_;rintro e w' ⟨rfl,q,rfl⟩)
      have hs:=VJ hswap hk HH1.out hblk1 rfl hsj (m+q) j (j - 1) (by omega) (by omega);rw[← mb,← HW.out]at hs;rw[show (((j - 1:Nat):Int))=(j:Int) - 1 by omega]at hs;rw[hs,Oper.upon_value]
      go_wp2
      go_roundw
      case rel=>
       (repeat apply Exists.intro)
       refine⟨⟨j - 1,m+q,swp dj j (j - 1),by congr 1<;>omega,by omega,by omega,by rw[size_swp];exact hsj,?_,?_⟩,by rw[decide_eq_true hlt,show ((j - 1:Nat):Int)=(j:Int) - 1 by omega]⟩
       .rfl
       .rw[← HI.out,insInner_go lt a j dj hja hlv]
      case measure=>simp[intOf];omega
     |false=>
      rw[hlv]at hl
      go_wp2_with (go_at_fn g;refine hl.mono ?_;rintro e w' ⟨rfl,q,rfl⟩)
      go_roundw
      case rel=>exact OUT.out (Or.inr hlv) q
      case measure=>simp[intOf];omega
    ·go_wp2
     go_roundw
     case rel=>have h0:=OUT.out (Or.inl (by omega)) 0;rw[Pd]at h0;exact h0
     case measure=>simp[intOf];omega
  ·
   have hge:¬ i<b:=by assumption
   go_end0
   exact⟨rfl,n,by unfold Sort.insertionSort;rw[← HO.out,insOuter_stop _ _ _ _ _ hge]⟩
theorem Any.insertionSort_func_cells_w(L:LaysGg.n26 P ρ)(enc:α->List Value)(k:Nat)(hk:∀x,(enc x).length=k)(lt:α->α->Bool)(g:Nat)(lb:Array Value)(sf:Nat)(sb:Array Value)(blk off a b:Nat)(d:Array α)(w:World)
  (eg:∀args w,(callFunc g args).run P w=.ok (.enter g args) w) (hless:LessReadsK P g lb enc k lt blk off d.size w) (hswap:SwapSwapsK P sf sb enc k blk off d.size)
  (hH:HoldsK enc k w blk off d) (hblk:blk<w.heap.size) (hab:a<=b) (hb:b<=d.size) (hsz:d.size<4611686018427387904) :
  Calls P (ρ.f 26) #[.agg #[.func (.func g) #[] lb,.func (.func sf) #[] sb],.int .i64 a,.int .i64 b] w λe w'=>e=.returned (.tuple #[])/\∃n os,w'=sortWorldK enc k w blk off n (Sort.insertionSort lt d a b) os:=(Any.insertionSort_func_cells L enc k hk lt g lb sf sb blk off a b d w eg hless hswap hH hblk hab hb hsz).mono λ_ _ ⟨he,n,hw⟩=>⟨he,n.n,_,hw.trans (sg enc k w _ blk off n _ hblk)⟩
end Go.Proofs.YthfkpijcajdnhaaGreat
