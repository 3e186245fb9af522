/-
  A region whose operations come in any order that its edges allow. A region, run: in any order that it may take. Regions, and the rules of the code around them. The rules of code, over abstract environments. From a body's run to a function's contract. A body's run is a contract. What the printed proofs lean on: code by its path, outcomes, loops over outcomes. Code by a table: what a piece of code does is a tree of decisions; that the tree is the code's is shown by computation. '==' on structs of numbers, and a check of the table of types. Steps that the evaluator does not know: objects that are no rows of cells. Maps whose keys are structs of numbers and whose values are numbers: how the machine's operations on them run. Keys may be keys; sums by keys, in order. No statement is proved here.
-/
import Derived.Test.YtlfflhpmkoiemaaDoorA1
import Derived.Laws.StructEq
import Derived.ProofKit
import Derived.SizedLaws
import Derived.LaidMore
import Derived.Lay
import Derived.Stop.Joined
namespace Go.Proofs.YtlfflhpmkoiemaaDoor
open Go
def ae(acc:List Nat):List Edge->Nat
 |[]=>0
 |e::r=>match Region.binds .any e with
  |true=>(2 ^ e.on ||| acc.getD e.on 0) ||| ae acc r
  |false=>ae acc r
def qd:List Oper->List Nat->List Nat
 |[],acc=>acc
 |o::r,acc=>qd r (acc++[ae acc o.after.toList])
def Ph(i:Nat):List Edge->Bool
 |[]=>true
 |e::r=>(!Region.binds .any e||Nat.blt e.on i)&&Ph i r
def Qh:List Oper->Nat->Bool
 |[],_=>true
 |o::r,i=>Ph i o.after.toList&&Qh r (i+1)
def Pe:List Nat->List Nat->Bool
 |[],_=>true
 |n::r,l=>!Yb n l&&Pe r l
def Rh(m:Nat):Nat->Bool
 |0=>true
 |i+1=>Nat.testBit m i&&Rh m i
def Wf(sp:SP)(all:List Oper)(ds:List (Option Nat)):List Oper->List (List Nat×List Nat)
 |[]=>[]
 |o::r=>(reads sp all ds o,writes sp all ds o)::Wf sp all ds r
def Th(m:Nat)(q:List Nat×List Nat):List (List Nat×List Nat)->Nat->Bool
 |[],_=>true
 |p::r,i=>(Nat.testBit m i||(Pe p.2 q.1&&(Pe p.2 q.2&&Pe p.1 q.2)))&&Th m q r (i+1)
def Uh(ms:List Nat):List (List Nat×List Nat)->List (List Nat×List Nat)->Nat->Bool
 |_,[],_=>true
 |done,q::r,j=>Th (ms.getD j 0) q done 0&&Uh ms (done++[q]) r (j+1)
def Vh(ms:List Nat)(j:Nat):Nat->Bool
 |0=>true
 |n+1=>Rh (ms.getD j 0) j&&Vh ms (j+1) n
def ac(b:Bool)(sp:SP)(l:List Oper):Bool:=Qh l 0&&(Uh (qd l []) [] (Wf sp l (l.map (·.dst)) (gb b l)) 0&&Vh (qd l []) (gb b l).length (l.length - (gb b l).length))
def Xf(tt:TT)(sp:SP)(keep:List Nat)(ops:List Oper)(draw:Bool)(e:Env):Option (Env×List Prop):=
 match draw with
 |true=>match Mf tt sp (ops.map (·.dst)) ops (gb (ac true sp ops) ops) (clean e) with
  |some (e1,p)=>match Ie tt sp (ops.map (·.dst)) (Vd (ac true sp ops) ops) e1 with
   |some (e2,q)=>some (mask (clean (settle keep keep e2)) keep,p++q)
   |none=>none
  |none=>none
 |false=>match Ie tt sp (ops.map (·.dst)) ops (clean e) with
  |some (e2,q)=>some (mask (clean (settle keep keep e2)) keep,q)
  |none=>none
theorem Wh{n:Nat}:∀ {l r:List Nat},Pe l r=true->n∈l->n ∉ r
 |[],r,_,hn=>by simp at hn
 |m::l,r,h,hn=>by
  simp only[Pe,Bool.and_eq_true,Bool.not_eq_true']at h;rcases List.mem_cons.1 hn with rfl|hn
  .intro hr;rw[Oh.2 hr]at h;simp at h
  .exact Wh h.2 hn
theorem xo{m:Nat}:∀ {i:Nat},Rh m i=true->∀j,j<i->m.testBit j=true
 |0,_,j,hj=>by omega
 |i+1,h,j,hj=>by
  simp only[Rh,Bool.and_eq_true]at h;by_cases e:j=i
  .rw[e];exact h.1
  .exact xo h.2 j (by omega)
theorem yo{sp:SP}{all:List Oper}{ds:List (Option Nat)}:∀ {l:List Oper}{i:Nat}{o:Oper},l[i]? = some o->(Wf sp all ds l)[i]? = some (reads sp all ds o,writes sp all ds o)
 |[],i,o,h=>by simp at h
 |o'::r,0,o,h=>by simp at h;subst h;rfl
 |o'::r,i+1,o,h=>by simpa [Wf] using yo (by simpa using h)
theorem zo{m:Nat}{q:List Nat×List Nat}:∀ {l:List (List Nat×List Nat)}{i:Nat},Th m q l i=true->∀k p,l[k]? = some p ->
  m.testBit (i+k)=true\/((∀n,n∈p.2->n ∉ q.1)/\(∀n,n∈p.2->n ∉ q.2)/\(∀n,n∈p.1->n ∉ q.2))
 |[],i,_,k,p,hk=>by simp at hk
 |p0::r,i,h,k,p,hk=>by
  simp only[Th,Bool.and_eq_true,Bool.or_eq_true]at h;cases k with
  |zero=>
   simp at hk;subst hk;exact h.1.imp id (λh=>⟨λn=>Wh h.1,λn=>Wh h.2.1,λn=>Wh h.2.2⟩)
  |succ k=>
   have:=zo h.2 k p (by simpa using hk);rw[show i+1+k=i+(k+1) by omega]at this;exact this
theorem Ao{ms:List Nat}:∀ {l done:List (List Nat×List Nat)}{j:Nat},Uh ms done l j=true->done.length=j->∀k q i p,l[k]? = some q->(done++l)[i]? = some p->i<j+k ->
  (ms.getD (j+k) 0).testBit i=true\/((∀n,n∈p.2->n ∉ q.1)/\(∀n,n∈p.2->n ∉ q.2)/\(∀n,n∈p.1->n ∉ q.2))
 |[],done,j,_,_,k,q,i,p,hk,_,_=>by simp at hk
 |q0::r,done,j,h,hd,k,q,i,p,hk,hi,hlt=>by
  simp only[Uh,Bool.and_eq_true]at h;cases k with
  |zero=>
   simp at hk;subst hk;rw[List.getElem?_append_left (by omega)]at hi;have:=zo h.1 i p hi;rw[Nat.zero_add]at this;exact this
  |succ k=>
   have:=Ao h.2 (by simp[hd]) k q i p (by simpa using hk) (by simpa using hi) (by omega);rw[show j+1+k=j+(k+1) by omega]at this;exact this
theorem Ml{ms:List Nat}:∀ {n j:Nat},Vh ms j n=true->∀k,k<n->∀i,i<j+k->(ms.getD (j+k) 0).testBit i=true
 |0,j,_,k,hk,i,hi=>by omega
 |n+1,j,h,k,hk,i,hi=>by
  simp only[Vh,Bool.and_eq_true]at h;cases k with
  |zero=>exact xo h.1 i (by omega)
  |succ k=>
   have:=Ml h.2 k (by omega) i (by omega);rw[show j+1+k=j+(k+1) by omega]at this;exact this
theorem Bo{i:Nat}:∀ {l:List Edge},Ph i l=true->∀e∈l,Region.binds .any e=true->e.on<i
 |[],_,e,he,_=>by simp at he
 |e0::r,h,e,he,hb=>by
  simp only[Ph,Bool.and_eq_true,Bool.or_eq_true,Bool.not_eq_true']at h;rcases List.mem_cons.1 he with rfl|he
  .rcases h.1 with h1|h1
   .rw[hb]at h1;cases h1
   .exact Nat.lt_of_lt_of_le (Nat.lt_succ_self _) (Nat.le_of_ble_eq_true h1)
  .exact Bo h.2 e he hb
theorem Co:∀ {l:List Oper}{i:Nat},Qh l i=true->∀k o,l[k]? = some o->∀e∈o.after,Region.binds .any e=true->e.on<i+k
 |[],i,_,k,o,hk,_,_,_=>by simp at hk
 |o0::r,i,h,k,o,hk,e,he,hb=>by
  simp only[Qh,Bool.and_eq_true]at h;cases k with
  |zero=>simp at hk;subst hk;exact Bo h.1 e (by simpa using he) hb
  |succ k=>
   have:=Co h.2 k o (by simpa using hk) e he hb;omega
def Closed(ops:Array Oper)(L:Nat->Bool):Prop:=∀i o,ops[i]? = some o->L i=true->∀e∈o.after,Region.binds .any e=true->L e.on=true
theorem Do{L:Nat->Bool}{acc:List Nat}(hacc:∀i,L i=true->∀j,(acc.getD i 0).testBit j=true->L j=true) :
  ∀ {l:List Edge},(∀e∈l,Region.binds .any e=true->L e.on=true)->∀j,(ae acc l).testBit j=true->L j=true
 |[],_,j,h=>by simp[ae]at h
 |e::r,hl,j,h=>by
  simp only[ae]at h;have ih:=Do hacc (l:=r) (λe he=>hl e (by simp[he]));cases hb:Region.binds .any e with
  |false=>rw[hb]at h;exact ih j h
  |true=>
   rw[hb]at h;have hh:=hl e (by simp) hb;simp only[Nat.testBit_or,Bool.or_eq_true]at h;rcases h with(h|h)|h
   .rw[Nat.testBit_two_pow]at h;have:e.on=j:=by simpa using h
    rw[<-this];exact hh
   .exact hacc _ hh j h
   .exact ih j h
theorem Eo{ops:Array Oper}{L:Nat->Bool}(hL:Closed ops L):∀ {l:List Oper}{acc:List Nat},(∀k o,l[k]? = some o->ops[acc.length+k]? = some o) ->
  (∀i,(∀o,ops[i]? = some o->∀e∈o.after,Region.binds .any e=true->L e.on=true)->∀j,(acc.getD i 0).testBit j=true->L j=true) ->
  ∀i,(∀o,ops[i]? = some o->∀e∈o.after,Region.binds .any e=true->L e.on=true)->∀j,((qd l acc).getD i 0).testBit j=true->L j=true
 |[],acc,_,h=>h
 |o::r,acc,hl,h=>by
  have ho:=hl 0 o rfl;have hh:∀i,L i=true->∀j,(acc.getD i 0).testBit j=true->L j=true:=λi hi=>h i (λo' ho'=>hL i o' ho' hi);refine Eo hL (l:=r) (acc:=acc++[ae acc o.after.toList]) (λk o' hk=>?_) (λi hi j hj=>?_)
  .have:=hl (k+1) o' (by simpa using hk);rw[List.length_append,List.length_singleton,show acc.length+1+k=acc.length+(k+1) by omega];exact this
  .rw[List.getD_eq_getElem?_getD]at hj;by_cases hlt:i<acc.length
   .rw[List.getElem?_append_left hlt,<-List.getD_eq_getElem?_getD]at hj;exact h i hi j hj
   .by_cases he:i=acc.length
    .subst he;rw[List.getElem?_append_right (Nat.le_refl _),Nat.sub_self]at hj;exact Do hh (λe he' hb=>hi o ho e (by simpa using he') hb) j hj
    .rw[List.getElem?_eq_none (by simp;omega)]at hj;simp at hj
def part(E:Nat->Env)(W:Nat->List Nat)(L:Nat->Bool):Nat->Nat->AV
 |0,n=>ba (E 0) n
 |k+1,n=>if L k=true/\n∈W k then ba (E (k+1)) n else part E W L k n
section
variable {E:Nat->Env}{W:Nat->List Nat}{L:Nat->Bool}
theorem Fo{n:Nat}{b:Bool}:∀ {h:Nat},(∀k,k<=h->Lb (ba (E k) n)=b)->Lb (part E W L h n)=b
 |0,hb=>hb 0 (Nat.le_refl _)
 |h+1,hb=>by
  simp only[part];split
  .exact hb (h+1) (Nat.le_refl _)
  .exact Fo (λk hk=>hb k (by omega))
theorem Xh{h:Nat}(hloc:∀k,k<h->∀n,n ∉ W k->ba (E (k+1)) n=ba (E k) n){n:Nat}:∀ {k:Nat},k<=h->(∀j,j<k->n∈W j->L j=true)->part E W L k n=ba (E k) n
 |0,_,_=>rfl
 |k+1,hk,hL=>by
  simp only[part];by_cases hn:n∈W k
  .rw[if_pos ⟨hL k (by omega) hn,hn⟩]
  .rw[if_neg (λh=>hn h.2),hloc k (by omega) n hn];exact Xh hloc (by omega) (λj hj=>hL j (by omega))
theorem Yh{n k:Nat}:∀ {h:Nat},k<=h->(∀j,k<=j->j<h->n∈W j->L j=false)->part E W L h n=part E W L k n
 |0,hk,_=>by rw[show k=0 by omega]
 |h+1,hk,hL=>by
  by_cases e:k=h+1
  .rw[e]
  .simp only[part];rw[if_neg (λhh=>by have:=hL h (by omega) (by omega) hh.2;rw[this]at hh;exact absurd hh.1 (by simp))];exact Yh (by omega) (λj h1 h2=>hL j h1 (by omega))
theorem Ho{L':Nat->Bool}{n:Nat}:∀ {h:Nat},(∀j,j<h->n∈W j->L' j=L j)->part E W L' h n=part E W L h n
 |0,_=>rfl
 |h+1,hL=>by
  simp only[part];rw[Ho (h:=h) (λj hj=>hL j (by omega))];by_cases hn:n∈W h
  .rw[hL h (by omega) hn]
  .rw[if_neg (λh=>hn h.2),if_neg (λh=>hn h.2)]
end
theorem Nl{b:Bool}:∀ {l:List Oper}{i:Nat},i<(gb b l).length->(gb b l)[i]? = l[i]?
 |[],i,h=>by simp[gb]at h
 |o::r,i,h=>by
  simp only[gb]at h⊢;cases hs:strict b o with
  |true=>rw[hs]at h;simp at h
  |false=>
   rw[hs]at h;cases i with
   |zero=>rfl
   |succ i=>simpa using Nl (by simpa using h)
theorem Io{b:Bool}:∀ {l:List Oper}{i:Nat},(Vd b l)[i]? = l[(gb b l).length+i]?
 |[],i=>rfl
 |o::r,i=>by
  simp only[gb,Vd];cases hs:strict b o with
  |true=>simp
  |false=>
   simp only[List.length_cons];rw[show(gb b r).length+1+i=(gb b r).length+i+1 by omega,List.getElem?_cons_succ];exact Io
theorem Ol(b:Bool):∀(l:List Oper),(gb b l).length+(Vd b l).length=l.length
 |[]=>rfl
 |o::r=>by
  simp only[gb,Vd];cases hs:strict b o with
  |true=>simp
  |false=>
   have:=Ol b r;simp only[List.length_cons];omega
section
variable {P:Program}{tt:TT}{sp:SP}{B:Nat}{IoB:List Nat}{F0:Fz}{N:NP}{W0:World}
theorem Sim.congr{e e':Env}{a:Act}{w:World}(hs:Sim N B IoB W0 F0 e a w)(h:∀n,ba e' n=ba e n):Sim N B IoB W0 F0 e' a w:=by
 obtain⟨F,ow,hx⟩:=hs.rep;exact⟨hs.defers,hs.tmps,hs.base,hs.f0,hs.kept,F,ow,hx.congr h⟩
def Mid(ops:Array Oper)(h:Nat)(E:Nat->Env)(W:Nat->List Nat)(L:Nat->Bool)(ec:Env):Prop:=((∀j,h<=j->j<ops.size->L j=false)/\∀n,ba ec n=part E W L h n) \/
   ∃k,h<k/\k<=ops.size/\(∀j,j<k->L j=true)/\(∀j,k<=j->j<ops.size->L j=false)/\∀n,ba ec n=ba (E k) n
theorem fu{l:List Bool}{i:Nat}(h:l[i]? = some false):(l.set i true).count false+1=l.count false:=by
 induction l generalizing i with
 |nil=>simp at h
 |cons b r ih=>
  cases i with
  |zero=>
   simp at h;subst h;simp
  |succ i=>
   have:=ih (by simpa using h);simp only[List.set_cons_succ,List.count_cons];omega
def sd(sp:SP)(ops:Array Oper)(k:Nat):List Nat:=
 match ops[k]? with
 |some o=>writes sp ops.toList (ops.toList.map (·.dst)) o
 |none=>[]
theorem Qe{sp:SP}{ops:Array Oper}{k:Nat}{o:Oper}(h:ops[k]? = some o):sd sp ops k=writes sp ops.toList (ops.toList.map (·.dst)) o:=by
 unfold sd;rw[h]
theorem Jo{sp:SP}{ops:Array Oper}{k:Nat}(h:ops[k]? = none):sd sp ops k=[]:=by
 unfold sd;rw[h]
theorem gu{b:Bool}(htt:Ya P tt)(hsp:∀f s,spk sp f=some s->Con P f s){ops:Array Oper}{h:Nat}{E:Nat->Env}(hdst:∀(i:Nat) (o:Oper),ops[i]? = some o->∀d,o.dst=some d->N.ok d=true)(hh:h=(gb b ops.toList).length)
  (hhead:∀(i:Nat) (o:Oper),i<h->ops[i]? = some o->∃p,stepS tt sp ops.toList (ops.toList.map (·.dst)) (E i) o=some (E (i+1),p)/\∀q∈p,q)
  (htail:∀(i:Nat) (o:Oper),h<=i->ops[i]? = some o->∃p,Ud tt sp (ops.toList.map (·.dst)) (E i) o=some (E (i+1),p)/\∀q∈p,q) (hok:ac b sp ops.toList=true)
  {Q:Exit->Act->World->Prop} (hQ:∀a w,Sim N B IoB W0 F0 (E ops.size) a w->Q .normal a w) :
  ∀ (fuel:Nat) (listed:Array Bool) (ec:Env) (a:Act) (w:World),listed.size=ops.size->listed.toList.count false=fuel->Closed ops (λi=>listed.getD i false) ->
    Mid ops h E (sd sp ops) (λi=>listed.getD i false) ec->Sim N B IoB W0 F0 ec a w->wpAny P .any ops Q fuel listed a w:=by
 simp only[ac,Bool.and_eq_true]at hok;obtain⟨ha,kn,pn⟩:=hok
 have hlen:h<=ops.size:=by
  have h1:=Ol b ops.toList;have h2:ops.toList.length=ops.size:=Array.length_toList;omega
 have kk:∀i,ops.toList[i]? = ops[i]?:=λi=>Array.getElem?_toList;intro fuel
 induction fuel with
 |zero=>
  intro listed ec a w hsz ix io mt hs
  have hv:∀i,i<ops.size->listed.getD i false=true:=by
   intro i hi
   have nq:false ∉ listed.toList:=λhm=>by
    have:=List.count_pos_iff.2 hm;omega
   have kq:i<listed.toList.length:=by rw[Array.length_toList];omega
   have mp:=List.getElem_mem kq;cases hb:listed.toList[i] with
   |false=>rw[hb]at mp;exact absurd mp nq
   |true=>
    rw[Array.getD_eq_getD_getElem?,<-Array.getElem?_toList,List.getElem?_eq_getElem kq,hb];rfl
  refine⟨?_,?_⟩
  .cases hr:Region.ready .any ops listed with
   |nil=>rfl
   |cons j r=>
    have hj:j∈Region.ready .any ops listed:=by rw[hr];simp
    obtain⟨h0,o,ho,_⟩:=mem_ready.1 hj;have lb:j<ops.size:=(Array.getElem?_eq_some_iff.1 ho).1;have:=hv j lb;rw[Array.getD_eq_getD_getElem?]at this h0;rw[Array.getElem?_eq_getElem (by omega)]at this h0;simp at this h0;rw[this]at h0;cases h0
  .apply hQ;refine hs.congr λn=>?_;rcases mt with⟨h1,h2⟩|⟨k,h1,h2,h3,h4,h5⟩
   .have kp:h=ops.size:=by
     by_cases e:h=ops.size
     .exact e
     .have h3:=h1 h (Nat.le_refl _) (by omega);have h4:=hv h (by omega);simp only[h4]at h3;cases h3
    rw[h2 n,<-kp];refine(Xh (h:=h) (λk hk n hn=>?_) (Nat.le_refl _) (λj hj _=>hv j (by omega))).symm;cases ho:ops[k]? with
    |none=>rw[Array.getElem?_eq_none_iff]at ho;omega
    |some o=>
     obtain⟨p,hp,_⟩:=hhead k o hk ho;rw[Qe ho]at hn;exact(Kl hp (e2:=E k) (λ_ _=>rfl) (λ_ _=>rfl)).1 n hn
   .have kc:k=ops.size:=by
     by_cases e:k=ops.size
     .exact e
     .have h6:=h4 k (Nat.le_refl _) (by omega);have h7:=hv k (by omega);simp only[h7]at h6;cases h6
    rw[h5 n,kc]
 |succ fuel ih=>
  intro listed ec a w hsz ix io mt hs
  have lx:∀k,k<h->∀n,n ∉ sd sp ops k->ba (E (k+1)) n=ba (E k) n:=by
   intro k hk n hn;cases ho:ops[k]? with
   |none=>rw[Array.getElem?_eq_none_iff]at ho;omega
   |some o=>
    obtain⟨p,hp,_⟩:=hhead k o hk ho;rw[Qe ho]at hn;exact(Kl hp (e2:=E k) (λ_ _=>rfl) (λ_ _=>rfl)).1 n hn
  have hy:∀i,(∀o,ops[i]? = some o->∀e∈o.after,Region.binds .any e=true->listed.getD e.on false=true)->∀j,((qd ops.toList []).getD i 0).testBit j=true->listed.getD j false=true:=λi hi j hj=>Eo (L:=λi=>listed.getD i false) io (l:=ops.toList) (acc:=[]) (λk o hk=>by rw[List.length_nil,Nat.zero_add,<-kk];exact hk)
    (λi _ j hj=>by simp at hj) i hi j hj
  have hz:∀i,listed.getD i false=true->∀j,((qd ops.toList []).getD i 0).testBit j=true->listed.getD j false=true:=λi hi=>hy i (λo ho=>io i o ho hi);refine⟨λhr=>?_,λi hi=>?_⟩
  ·
   exfalso
   have hv:∀i,i<ops.size->listed.getD i false=true:=by
    intro i
    induction i using Nat.strongRecOn with
    |ind i ihi=>
     intro hi;cases hb:listed.getD i false with
     |true=>rfl
     |false=>
      have mp:i∈Region.ready .any ops listed:=by
       refine mem_ready.2 ⟨?_,ops[i],Array.getElem?_eq_getElem hi,λe he hc=>?_⟩
       .rw[Array.getD_eq_getD_getElem?,Array.getElem?_eq_getElem (by omega)]at hb⊢;simpa using hb
       .have:=Co ha i ops[i] (by rw[kk];exact Array.getElem?_eq_getElem hi) e he hc;exact ihi e.on (by omega) (by omega)
      rw[hr]at mp;simp at mp
   have ou:0<listed.toList.count false:=by omega
   have hm:=List.count_pos_iff.1 ou;obtain⟨i,hi⟩:=List.mem_iff_getElem?.1 hm;have lb:=(List.getElem?_eq_some_iff.1 hi).1;rw[Array.length_toList]at lb;have:=hv i (by omega);rw[Array.getD_eq_getD_getElem?,<-Array.getElem?_toList,hi]at this;cases this
  .obtain⟨kr,o,ho,ju⟩:=mem_ready.1 hi;have ky:i<ops.size:=(Array.getElem?_eq_some_iff.1 ho).1
   have hu:listed.getD i false=false:=by
    rw[Array.getD_eq_getD_getElem?,Array.getElem?_eq_getElem (by omega)]at kr⊢;simpa using kr
   have lo:listed.toList[i]? = some false:=by
    rw[Array.getElem?_toList,Array.getElem?_eq_getElem (by omega)];rw[Array.getD_eq_getD_getElem?,Array.getElem?_eq_getElem (by omega)]at hu;simpa using hu
   have ox:∀j,(listed.setIfInBounds i true).getD j false=if j=i then true else listed.getD j false:=by
    intro j;by_cases e:j=i
    .subst e;rw[if_pos rfl,Array.getD_eq_getD_getElem?,Array.getElem?_setIfInBounds_self_of_lt (by omega)];rfl
    .rw[if_neg e,getD_set_ne false (Ne.symm e)]
   have it:Closed ops (λi'=>(listed.setIfInBounds i true).getD i' false):=by
    intro j o' nt hj e he hc;simp only[ox]at hj⊢;split
    .rfl
    .split at hj
     .rename_i e';subst e';rw[ho]at nt;cases nt;exact ju e he hc
     .exact io j o' nt hj e he hc
   have ie:(listed.setIfInBounds i true).toList.count false=fuel:=by
    rw[Array.toList_setIfInBounds];have:=fu lo;omega
   have hf:∀j,((qd ops.toList []).getD i 0).testBit j=true->listed.getD j false=true:=hy i (λo' nt=>by rw[ho]at nt;cases nt;exact ju)
   have km:∀hq,(∀a' w',Sim N B IoB W0 F0 hq a' w'->wpAny P .any ops Q fuel (listed.setIfInBounds i true) a' w') ->
     (∀next:Act->World->Prop,(∀a' w',Sim N B IoB W0 F0 hq a' w'->next a' w')->if Region.wanted o (yielded ops a.tmps) then o.wp P a w next Q else next (a.put o.dst undef) w) ->
     wpOp P ops Q i (wpAny P .any ops Q fuel (listed.setIfInBounds i true)) a w:=by
    intro hq h1 h2;have h3:=h2 _ h1;unfold wpOp;rw[ho];simp only[];by_cases hw:Region.wanted o (yielded ops a.tmps)=true
    .rw[if_pos hw]at h3⊢;exact .inl h3
    .rw[if_neg hw]at h3⊢;exact h3
   by_cases hih:i<h
   ·
    rcases mt with⟨m1,m2⟩|⟨k,m1,m2,m3,m4,m5⟩
    .have kj:∀(j:Nat) (oj:Oper),j<h->ops[j]? = some oj->(Wf sp ops.toList (ops.toList.map (·.dst)) (gb b ops.toList))[j]? = some (reads sp ops.toList (ops.toList.map (·.dst)) oj,writes sp ops.toList (ops.toList.map (·.dst)) oj):=λj oj hj oo=>yo (by rw[Nl (by omega),kk];exact oo)
     have ot:∀(j:Nat) (oj:Oper) (k:Nat) (ok:Oper),j<k->k<h->ops[j]? = some oj->ops[k]? = some ok->((qd ops.toList []).getD k 0).testBit j=true \/
       ((∀n,n∈writes sp ops.toList (ops.toList.map (·.dst)) oj->n ∉ reads sp ops.toList (ops.toList.map (·.dst)) ok)/\(∀n,n∈writes sp ops.toList (ops.toList.map (·.dst)) oj->n ∉ writes sp ops.toList (ops.toList.map (·.dst)) ok) /\
         (∀n,n∈reads sp ops.toList (ops.toList.map (·.dst)) oj->n ∉ writes sp ops.toList (ops.toList.map (·.dst)) ok)):=by
      intro j oj k ok kb hk oo hok;have:=Ao kn rfl k _ j _ (kj k ok hk hok) (by simpa using kj j oj (by omega) oo) (by omega);rw[Nat.zero_add]at this;exact this
     obtain⟨p,oy,hp⟩:=hhead i o hih ho
     have ke:∀n,(n∈reads sp ops.toList (ops.toList.map (·.dst)) o\/n∈writes sp ops.toList (ops.toList.map (·.dst)) o)->∀j,i<j->j<h ->
       n∈sd sp ops j->listed.getD j false=false:=by
      intro n hn j kx kz nm;cases oo:ops[j]? with
      |none=>rw[Jo oo]at nm;simp at nm
      |some oj=>
       rw[Qe oo]at nm;rcases ot i o j oj kx kz ho oo with hb|⟨d1,d2,d3⟩
       .cases hL:listed.getD j false with
        |false=>rfl
        |true=>rw[hz j hL i hb]at hu;cases hu
       .rcases hn with hn|hn
        .exact absurd nm (d3 n hn)
        .exact absurd nm (d2 n hn)
     have jb:∀n,n∈reads sp ops.toList (ops.toList.map (·.dst)) o\/n∈writes sp ops.toList (ops.toList.map (·.dst)) o->ba ec n=ba (E i) n:=by
      intro n hn;rw[m2 n]
      rw[Yh (h:=h) (k:=i) (by omega) (λj h1 h2 nm=>by
       by_cases e:j=i
       .rw[e];exact hu
       .exact ke n hn j (by omega) h2 nm)]
      refine Xh lx (by omega) (λj hj nm=>?_);cases oo:ops[j]? with
      |none=>rw[Jo oo]at nm;simp at nm
      |some oj=>
       rw[Qe oo]at nm;rcases ot j oj i o hj hih oo ho with hb|⟨d1,d2,d3⟩
       .exact hf j hb
       .rcases hn with hn|hn
        .exact absurd hn (d1 n nm)
        .exact absurd hn (d2 n nm)
     have hg:∀n,mc n (ops.toList.map (·.dst))=false->Lb (ba ec n)=Lb (ba (E i) n):=by
      intro n hn
      have hE:∀k,k<=h->Lb (ba (E k) n)=Lb (ba (E 0) n):=by
       intro k
       induction k with
       |zero=>exact λ_=>rfl
       |succ k ihk=>
        intro hk;cases hok':ops[k]? with
        |none=>rw[Array.getElem?_eq_none_iff]at hok';omega
        |some ok'=>
         obtain⟨p',os,_⟩:=hhead k ok' (by omega) hok';rw[au os (n:=n) ?_,ihk (by omega)];intro e;have:mc n (ops.toList.map (·.dst))=true:=Il.2 (List.mem_map.2 ⟨ok',List.mem_of_getElem? ((kk k).trans hok'),e⟩);rw[hn]at this;cases this
      rw[m2 n,Fo (h:=h) hE,hE i (by omega)]
     obtain⟨_,hl,ob,w1,w2⟩:=Kl oy jb hg;obtain⟨g',ki,pi⟩:=eu ob;refine km hl (λa' w' hs'=>ih _ hl a' w' (by rw[Array.size_setIfInBounds];exact hsz) ie it (.inl ⟨λj h1 h2=>?_,λn=>?_⟩) hs') (λnext hn=>zl htt hsp hs ki (.inr rfl) pi hp (λd hd=>hdst i o ho d hd) hn)
     .show(listed.setIfInBounds i true).getD j false=false;rw[ox,if_neg (by omega)];exact m1 j h1 h2
     .by_cases hnw:n∈writes sp ops.toList (ops.toList.map (·.dst)) o
      .rw[w1 n hnw]
       rw[Yh (h:=h) (k:=i+1) (by omega) (λj h1 h2 nm=>by
        show(listed.setIfInBounds i true).getD j false=false;rw[ox,if_neg (by omega)];exact ke n (.inr hnw) j (by omega) h2 nm)]
       simp only[part];rw[if_pos];refine⟨?_,?_⟩
       .rw[ox,if_pos rfl]
       .rw[Qe ho];exact hnw
      .rw[w2 n hnw,m2 n];refine(Ho (λj hj nm=>?_)).symm;show(listed.setIfInBounds i true).getD j false=_;rw[ox,if_neg];rintro rfl;rw[Qe ho]at nm;exact hnw nm
    .have:=m3 i (by omega);simp only[hu]at this;cases this
   ·
    have ow:∀j,j<i->listed.getD j false=true:=by
     intro j hj;apply hf;have:=Ml pn (i - h) (by rw[<-hh,Array.length_toList];omega) j (by rw[<-hh];omega);rw[<-hh,show h+(i - h)=i by omega]at this;exact this
    obtain⟨p,oy,hp⟩:=htail i o (by omega) ho
    have ht:∀n,ba (E i) n=ba ec n:=by
     intro n;rcases mt with⟨m1,m2⟩|⟨k,m1,m2,m3,m4,m5⟩
     .have ks:i=h:=by
       by_cases e:i=h
       .exact e
       .have h1:=m1 h (Nat.le_refl _) (by omega);have h2:=ow h (by omega);simp only[h2]at h1;cases h1
      rw[m2 n,ks];exact(Xh lx (Nat.le_refl _) (λj hj _=>ow j (by omega))).symm
     .have ks:i=k:=by
       rcases Nat.lt_trichotomy i k with e|e|e
       .have h1:=m3 i e;simp only[hu]at h1;cases h1
       .exact e
       .have h1:=m4 k (Nat.le_refl _) (by omega);have h2:=ow k e;simp only[h2]at h1;cases h1
      rw[m5 n,ks]
    have nl:∀j,i<j->j<ops.size->listed.getD j false=false:=by
     intro j kx hj;cases hL:listed.getD j false with
     |false=>rfl
     |true=>
      have hb:=Ml pn (j - h) (by rw[<-hh,Array.length_toList];omega) i (by rw[<-hh];omega);rw[<-hh,show h+(j - h)=j by omega]at hb;have:=hz j hL i hb;rw[hu]at this;cases this
    refine km (E (i+1)) (λa' w' hs'=>ih _ (E (i+1)) a' w' (by rw[Array.size_setIfInBounds];exact hsz) ie it (.inr ⟨i+1,by omega,by omega,λj hj=>?_,λj h1 h2=>?_,λn=>rfl⟩) hs')
     (λnext hn=>vo htt hsp (hs.congr ht) oy hp (λd hd=>hdst i o ho d hd) hn)
    .show(listed.setIfInBounds i true).getD j false=true;rw[ox];split
     .rfl
     .exact ow j (by omega)
    .show(listed.setIfInBounds i true).getD j false=false;rw[ox,if_neg (by omega)];exact nl j (by omega) h2
end
def Pa:AV->Bool
 |.v _ _=>true
 |.agg _ _=>true
 |.box _=>true
 |.dead=>true
 |_=>false
section
variable {B:Nat}{IoB:List Nat}{F0 F:Fz}{e:Env}{tm:Nat->Value}{w:World}{ow:Nat->Option Nat->Option Nat}
theorem Bc{av:AV}(h:Pa av=true){g:Get}{n:Nat}:SR F B w tm g ow n av=VR F B w (ow n) av (tm n):=by
 cases av with
 |v k c=>rfl
 |agg f cs=>rfl
 |box cs=>rfl
 |dead=>rfl
 |_=>simp[Pa]at h
theorem fa.flat(hs:fa B IoB F0 e tm w F ow){e':Env}(h:∀n,Pa (ba e' n)=true/\VR F B w (ow n) (ba e' n) (tm n)):fa B IoB F0 e' tm w F ow:=⟨hs.sub,hs.new,hs.live,hs.inj,hs.bd,λn=>by rw[Bc (h n).1];exact(h n).2⟩
theorem fa.raw(hx:fa B IoB F0 e tm w F ow):Le F B w tm (ba e) (ba e) ow:=λn=>.inr ⟨hx.sr n,rfl⟩
theorem iu{g:Get}{s:Nat}{o:Option Nat}{b:Bool}{p:PV}(h:plainR g (.view s o)=some (b,p)):p.agg=false:=by
 cases o with
 |none=>
  simp only[plainR]at h;split at h
  .cases h;rfl
  .cases h;rfl
  .cases h
 |some o=>
  simp only[plainR]at h;split at h
  .split at h
   .cases h;rfl
   .cases h
  .cases h
theorem fa.clean(hs:fa B IoB F0 e tm w F ow):fa B IoB F0 (Go.Proofs.YtlfflhpmkoiemaaDoor.clean e) tm w F ow/\∀n,Pa (ba (Go.Proofs.YtlfflhpmkoiemaaDoor.clean e) n)=true:=by
 have hi:∀n,ba (Go.Proofs.YtlfflhpmkoiemaaDoor.clean e) n=Jn (ba e) (ba e n):=λn=>nc _ rfl e n
 have key:∀n,Pa (ba (Go.Proofs.YtlfflhpmkoiemaaDoor.clean e) n)=true/\VR F B w (ow n) (ba (Go.Proofs.YtlfflhpmkoiemaaDoor.clean e) n) (tm n):=by
  intro n;rw[hi n];have hl:=hs.sr n;cases hav:ba e n with
  |dead=>exact⟨rfl,trivial⟩
  |v k c=>rw[hav]at hl;exact⟨rfl,hl⟩
  |agg f cs=>rw[hav]at hl;exact⟨rfl,hl⟩
  |box cs=>rw[hav]at hl;exact⟨rfl,hl⟩
  |tup l=>exact⟨rfl,trivial⟩
  |cond k a=>exact⟨rfl,trivial⟩
  |baddr m o=>exact⟨rfl,trivial⟩
  |faddr f cs=>exact⟨rfl,trivial⟩
  |oaddr m i o=>exact⟨rfl,trivial⟩
  |view m o=>
   rw[hav]at hl;show Pa (match Go.Proofs.YtlfflhpmkoiemaaDoor.plainR (ba e) (.view m o) with|some (false,⟨f,_,[c]⟩)=>AV.v (frK f) c|_=>AV.dead)=true/\VR F B w (ow n) (match Go.Proofs.YtlfflhpmkoiemaaDoor.plainR (ba e) (.view m o) with|some (false,⟨f,_,[c]⟩)=>AV.v (frK f) c|_=>AV.dead) (tm n);split
   .rename_i f ag c hp;refine⟨rfl,?_⟩;have hh:=iu hp;simp only at hh;subst hh;have hj:=Xd hs.live hs.raw (k:=[]) trivial rfl;have hk:=dl hj (o:=ow n) (hl.avr (λ_ _ h=>by cases h)) (λf c h=>by cases h) (ro hp);exact Gs hk
   .exact⟨rfl,trivial⟩
 exact⟨hs.flat key,λn=>(key n).1⟩
theorem Ko(e:Env)(n:Nat):∀keep,ba (mask e keep) n=.dead\/ba (mask e keep) n=ba e n
 |[]=>.inl rfl
 |k::ks=>by
  simp only[mask,ba];cases hb:Nat.beq k n with
  |true=>right;rw[Nat.eq_of_beq_eq_true hb]
  |false=>exact Ko e n ks
theorem fa.mask(hs:fa B IoB F0 e tm w F ow)(hf:∀n,Pa (ba e n)=true)(keep:List Nat):fa B IoB F0 (Go.Proofs.YtlfflhpmkoiemaaDoor.mask e keep) tm w F ow:=by
 refine hs.flat λn=>?_;rcases Ko e n keep with h|h
 .rw[h];exact⟨rfl,trivial⟩
 .rw[h];have hh:=hs.sr n;rw[Bc (hf n)]at hh;exact⟨hf n,hh⟩
end
section
variable {P:Program}{tt:TT}{sp:SP}{B:Nat}{IoB:List Nat}{F0:Fz}{N:NP}{W0:World}
theorem Sim.clean{e:Env}{a:Act}{w:World}(hs:Sim N B IoB W0 F0 e a w):Sim N B IoB W0 F0 (clean e) a w:=by
 obtain⟨F,ow,hx⟩:=hs.rep;exact⟨hs.defers,hs.tmps,hs.base,hs.f0,hs.kept,F,ow,hx.clean.1⟩
theorem Sim.cleanMask{e:Env}{a:Act}{w:World}(hs:Sim N B IoB W0 F0 e a w)(keep:List Nat):Sim N B IoB W0 F0 (mask (Go.Proofs.YtlfflhpmkoiemaaDoor.clean e) keep) a w:=by
 obtain⟨F,ow,hx⟩:=hs.rep;exact⟨hs.defers,hs.tmps,hs.base,hs.f0,hs.kept,F,ow,hx.clean.1.mask hx.clean.2 keep⟩
theorem fa.transfer{F:Fz}{e:Env}{tm:Nat->Value}{w:World}{ow:Nat->Option Nat->Option Nat}(hs:fa B IoB F0 e tm w F ow)(hBw:B<=w.heap.size){m d:Nat}(hv:ba e d=.view m none)(hmd:m≠d) :
  ∃ow',fa B IoB F0 (Go.Proofs.YtlfflhpmkoiemaaDoor.transfer e m d) tm w F ow':=by
 have hh:=hs.sr d;rw[hv]at hh;have hb:bears (ba e m)=true:=hh.2.1;have hi:tm d=tm m:=hh.1;have h1:=hs.unviewAt m .dead (λ_ _=>trivial)
 have h2:=h1.putG (d:=d) (av:=ba e m) (v:=tm m) (owd:=ow m) hBw (la.refl F w) hs.live (λi b h=>hs.bd m i b h)
  (λi b h s' i' _ h'=>by
    by_cases e1:s'=m
    .simp[e1]at h'
    .simp only[e1,if_false]at h';exact e1 (hs.inj _ _ _ _ _ h' h).1)
  (λi i' b h h'=>(hs.inj _ _ _ _ _ h h').2)
  (λg' _ _=>by
    rw[Nh hb];simp only[if_true];have:=hs.sr m;rw[Nh hb]at this;exact this)
 have _:=hmd
 have ht:(λn=>if n=d then tm m else tm n)=tm:=funext λn=>by
  by_cases h:n=d
  .rw[if_pos h,h,hi]
  .rw[if_neg h]
 rw[ht]at h2;exact⟨_,h2⟩
theorem Sim.settle{keep:List Nat}{a:Act}{w:World}:∀ {l:List Nat}{e:Env},Sim N B IoB W0 F0 e a w->Sim N B IoB W0 F0 (Go.Proofs.YtlfflhpmkoiemaaDoor.settle keep l e) a w
 |[],_,hs=>hs
 |d::r,e,hs=>by
  simp only[Go.Proofs.YtlfflhpmkoiemaaDoor.settle];split
  .rename_i m hg;split
   .rename_i hb;obtain⟨F,ow,hx⟩:=hs.rep;obtain⟨hi,hh⟩:=hx.transfer (Nat.le_trans hs.base hs.kept.size) hg (λe=>by rw[e,Nat.beq_refl]at hb;cases hb);exact Sim.settle ⟨hs.defers,hs.tmps,hs.base,hs.f0,hs.kept,F,hi,hh⟩
   .exact Sim.settle hs
  .exact Sim.settle hs
theorem Sim.drew{e:Env}{a:Act}{w:World}(hs:Sim N B IoB W0 F0 e a w)(m:Nat):Sim N B IoB W0 F0 e a { w with drawn:=m }:=by
 obtain⟨F,ow,hx⟩:=hs.rep;refine⟨hs.defers,hs.tmps,hs.base,hs.f0,⟨hs.kept.os,hs.kept.tape,hs.kept.output,hs.kept.size,hs.kept.block,hs.kept.obj⟩,F,ow,⟨hx.sub,hx.new,hx.live,hx.inj,hx.bd,λn=>?_⟩⟩;have h:=hx.sr n;exact SR.grow (F:=F) (w:=w) (w':={ w with drawn:=m }) ⟨rfl,rfl,rfl,Nat.le_refl _,λ_ _=>rfl,λ_ _ h=>h,λ_ _ h=>.inl h⟩ hx.live h
def Yf(N:NP):List Oper->Bool
 |[]=>true
 |o::r=>(match o.dst with|some d=>N.ok d|none=>true)&&Yf N r
theorem Pl:∀ {l:List Oper},Yf N l=true->∀(i:Nat) (o:Oper),l[i]? = some o->∀d,o.dst=some d->N.ok d=true
 |[],_,i,o,h,_,_=>by simp at h
 |o0::r,h,i,o,hi,d,hd=>by
  simp only[Yf,Bool.and_eq_true]at h;cases i with
  |zero=>
   simp at hi;subst hi;rw[hd]at h;exact h.1
  |succ i=>exact Pl h.2 i o (by simpa using hi) d hd
theorem ku(htt:Ya P tt)(hsp:∀f s,spk sp f=some s->Con P f s){ops:Array Oper}(hdst:Yf N ops.toList=true){E:Nat->Env}
  (hst:∀(i:Nat) (o:Oper),ops[i]? = some o->∃p,Ud tt sp (ops.toList.map (·.dst)) (E i) o=some (E (i+1),p)/\∀q∈p,q)
  {Q:Exit->Act->World->Prop} (hQ:∀a w,Sim N B IoB W0 F0 (E ops.size) a w->Q .normal a w) :
  ∀(n i:Nat) (a:Act) (w:World),i+n=ops.size->Sim N B IoB W0 F0 (E i) a w->wpOps P ops Q (List.range' i n) a w:=by
 intro n
 induction n with
 |zero=>
  intro i a w hi hs;rw[Nat.add_zero]at hi;subst hi;exact hQ a w hs
 |succ n ih=>
  intro i a w hi hs;have hh:i<ops.size:=by omega
  rw[List.range'_succ,wpOps_cons];obtain⟨p,hp,hq⟩:=hst i ops[i] (Array.getElem?_eq_getElem hh)
  have h:=vo htt hsp hs hp hq (λd hd=>Pl hdst i ops[i] (by rw[Array.getElem?_toList];exact Array.getElem?_eq_getElem hh) d hd) (Q:=Q) (next:=wpOps P ops Q (List.range' (i+1) n))
   (λa' w' hs'=>ih (i+1) a' w' (by omega) hs')
  unfold wpOp;rw[Array.getElem?_eq_getElem hh];simp only[];by_cases hw:Region.wanted ops[i] (yielded ops a.tmps)=true
  .rw[if_pos hw]at h⊢;exact .inl h
  .rw[if_neg hw]at h⊢;exact h
def Zh(sp:SP)(N:NP)(ops:List Oper)(draw:Bool):Bool:=Yf N ops&&match draw with
 |true=>ac true sp ops||ac false sp ops
 |false=>true
theorem Lo(htt:Ya P tt)(hsp:∀f s,spk sp f=some s->Con P f s)(hm:P.follows .mixedOrders=true){id:Nat}{ops:Array Oper}{draw:Bool}(hok:Zh sp N ops.toList draw=true){keep:List Nat}{e e':Env}{obs:List Prop}
  (hr:Xf tt sp keep ops.toList draw e=some (e',obs)) (ho:∀p∈obs,p) {Q:Exit->Act->World->Prop} (hQ:∀a w,Sim N B IoB W0 F0 e' a w->Q .normal a w) {a:Act}{w:World} (hs:Sim N B IoB W0 F0 e a w) :
  (Code.region id ops draw).wp P Q a w:=by
 simp only[Zh,Bool.and_eq_true]at hok;obtain⟨hn,hdr⟩:=hok;have hsz:ops.toList.length=ops.size:=Array.length_toList;have ht:∀i,ops.toList[i]? = ops[i]?:=λi=>Array.getElem?_toList;cases draw with
 |false=>
  simp only[Xf]at hr;split at hr
  .rename_i e2 q hf;simp only[Option.some.injEq,Prod.mk.injEq]at hr;obtain⟨rfl,rfl⟩:=hr;obtain⟨E,h0,h1,h2⟩:=Ll hf;refine wp_region ?_;rw[List.range_eq_range'];refine ku htt hsp hn (E:=E) (λi o hu=>?_) (λa w hs=>?_) ops.size 0 a w (by omega) (by rw[h0];exact hs.clean)
   .obtain⟨p,hp,hq⟩:=h2 i o (by rw[ht];exact hu);exact⟨p,hp,λq hq'=>ho q (hq q hq')⟩
   .rw[<-hsz,h1]at hs;exact hQ a w (hs.settle.cleanMask keep)
  .cases hr
 |true=>
  simp only[Xf]at hr;have hdr:(ac true sp ops.toList||ac false sp ops.toList)=true:=hdr
  have hdr:ac (ac true sp ops.toList) sp ops.toList=true:=by
   cases hb:ac true sp ops.toList with
   |true=>exact hb
   |false=>
    rw[hb]at hdr;simpa using hdr
  generalize ac true sp ops.toList=b at hr hdr;split at hr
  .rename_i e1 p1 hS;split at hr
   .rename_i e2 q2 hF;simp only[Option.some.injEq,Prod.mk.injEq]at hr;obtain⟨rfl,rfl⟩:=hr;obtain⟨E1,a0,a1,a2⟩:=wo hS;obtain⟨E2,b0,b1,b2⟩:=Ll hF;have hlen:=Ol b ops.toList;let h:=(gb b ops.toList).length;let E:Nat->Env:=λi=>if i<h then E1 i else E2 (i - h)
    have hj:∀i,i<=h->E i=E1 i:=λi hi=>by
     by_cases e:i<h
     .exact if_pos e
     .have:i=h:=by omega
      subst this;show(if h<h then E1 h else E2 (h - h))=E1 h;rw[if_neg (by omega),Nat.sub_self,b0,a1]
    have hl:∀i,h<=i->E i=E2 (i - h):=λi hi=>if_neg (by omega);have hh:E 0=Go.Proofs.YtlfflhpmkoiemaaDoor.clean e:=by rw[hj 0 (Nat.zero_le _),a0]
    refine wp_region_any hm ?_
    refine gu htt hsp (h:=h) (E:=E) (Pl (l:=ops.toList) hn |> λf i o hi=>f i o (by rw[ht];exact hi)) rfl (λi o hi hu=>?_) (λi o hi hu=>?_) hdr (λa w hs=>?_) ops.size _ (E 0) a _
     (by simp) (by simp) ?_ ?_ (by rw[hh];exact hs.clean.drew _)
    .obtain⟨p,hp,hq⟩:=a2 i o (by rw[Nl hi,ht];exact hu);refine⟨p,?_,λq hq'=>ho q (List.mem_append_left _ (hq q hq'))⟩;rw[hj i (by omega),hj (i+1) (by omega)];exact hp
    .obtain⟨p,hp,hq⟩:=b2 (i - h) o (by rw[Io,ht,show(gb b ops.toList).length+(i - h)=i by omega];exact hu);refine⟨p,?_,λq hq'=>ho q (List.mem_append_right _ (hq q hq'))⟩;rw[hl i hi,hl (i+1) (by omega),show i+1 - h=i - h+1 by omega];exact hp
    .have hE:E ops.size=e2:=by rw[hl _ (by omega),show ops.size - h=(Vd b ops.toList).length by omega,b1]
     rw[hE]at hs;exact hQ a w (hs.settle.cleanMask keep)
    .intro i o hu hL
     exfalso
     simp only[Array.getD_eq_getD_getElem?]at hL;by_cases hi:i<ops.size
     .simp[hi]at hL
     .simp[hi]at hL
    .refine .inl ⟨λj h1 h2=>?_,λn=>?_⟩
     .simp[h2]
     .have:∀k,k<=h->part E (sd sp ops) (λi=>(Array.replicate ops.size false).getD i false) k n=ba (E 0) n:=by
       intro k hk;refine Yh (Nat.zero_le _) (λj h1 h2 _=>?_);have:j<ops.size:=by omega
       simp[this]
      exact(this h (Nat.le_refl _)).symm
   .cases hr
  .cases hr
end
structure Fr where
 B:Nat
 IoB:List Nat
 W0:World
 F0:Fz
structure Good(P:Program)(tt:TT)(sp:SP):Prop where
 htt:Ya P tt
 hsp:∀f s,spk sp f=some s->Con P f s
 hm:P.follows .mixedOrders=true
def lu(n r:Env->Prop)(x:Nat->Env->Prop):Exit->Env->Prop
 |.normal,e=>n e
 |.ret,e=>r e
 |.exit i,e=>x i e
 |_,_=>False
def Ht(P:Program)(N:NP)(fr:Fr)(c:Code)(e:Env)(n r:Env->Prop)(x:Nat->Env->Prop):Prop:=
 ∀a w,Sim N fr.B fr.IoB fr.W0 fr.F0 e a w->c.wp P (λex a w=>∃e',Sim N fr.B fr.IoB fr.W0 fr.F0 e' a w/\lu n r x ex e') a w
def ga:List Prop->Prop
 |[]=>True
 |p::r=>p/\ga r
theorem ga.all:∀ {l:List Prop},ga l->∀p∈l,p
 |[],_,p,h=>by simp at h
 |q::r,h,p,hp=>by
  rcases List.mem_cons.1 hp with rfl|hp
  .exact h.1
  .exact ga.all h.2 p hp
def Ql(tt:TT)(sp:SP)(N:NP)(keep:List Nat)(c:Code)(e:Env):Option (Env×List Prop):=
 match c with
 |.region _ ops draw=>match Zh sp N ops.toList draw with
  |true=>Xf tt sp keep ops.toList draw e
  |false=>none
 |_=>none
section
variable {P:Program}{tt:TT}{sp:SP}{N:NP}{fr:Fr}{c:Code}{e:Env}{n r:Env->Prop}{x:Nat->Env->Prop}
theorem Ht.reg(G:Good P tt sp){keep:List Nat}{e':Env}{obs:List Prop}(hc:Ql tt sp N keep c e=some (e',obs))(ho:ga obs)(h:n e'):Ht P N fr c e n r x:=by
 intro a w hs;unfold Ql at hc;split at hc
 .split at hc
  .rename_i hok;exact Lo G.htt G.hsp G.hm hok hc ho.all (λa w hs=>⟨e',hs,h⟩) hs
  .cases hc
 .cases hc
theorem Ht.seq{c1 c2:Code}(hc:c=.seq c1 c2)(h:Ht P N fr c1 e (λe'=>Ht P N fr c2 e' n r x) r x):Ht P N fr c e n r x:=by
 subst hc;intro a w hs;refine wp_seq (wp_mono (h a w hs) ?_);rintro ex a w ⟨e',hh,hp⟩;cases ex with
 |normal=>exact hp a w hh
 |_=>exact⟨e',hh,hp⟩
def readB(e:Env):Operand->Option Bool
 |.tmp t=>match ba e t with
  |.v _ (.bool b)=>some b
  |_=>none
 |.const (.bool b)=>some b
 |_=>none
theorem Ht.cond{o:Operand}{c1 c2:Code}(hc:c=.cond o c1 c2){b:Bool}(hb:readB e o=some b)(h1:b=true->Ht P N fr c1 e n r x)(h2:b=false->Ht P N fr c2 e n r x):Ht P N fr c e n r x:=by
 subst hc;intro a w hs
 have hv:a.eval o=.bool b:=by
  unfold readB at hb;split at hb
  .rename_i t;split at hb
   .rename_i k b' hg;simp only[Option.some.injEq]at hb;subst hb;obtain⟨F,ow,hx⟩:=hs.rep;have hh:=hx.sr t;rw[hg]at hh;exact Yd (hh.avr (λ_ _ h=>by cases h))
   .cases hb
  .simp only[Option.some.injEq]at hb;subst hb;rfl
  .cases hb
 exact wp_cond_split hv (λh=>h1 h a w hs) (λh=>h2 h a w hs)
def ai(id:Nat)(n:Env->Prop)(x:Nat->Env->Prop)(i:Nat):Env->Prop:=
 match Nat.beq i id with
 |true=>n
 |false=>x i
theorem Ht.block{id:Nat}{c1:Code}(hc:c=.block id c1)(h:Ht P N fr c1 e n r (ai id n x)):Ht P N fr c e n r x:=by
 subst hc;intro a w hs;refine wp_block (wp_mono (h a w hs) ?_);rintro ex a w ⟨e',hh,hp⟩;cases ex with
 |exit i=>
  simp only[Exit.inBlock];have hp:ai id n x i e':=hp;unfold ai at hp;by_cases hi:i=id
  .subst hi;rw[Nat.beq_refl]at hp;rw[if_pos rfl];exact⟨e',hh,hp⟩
  .rw[ld hi]at hp;rw[if_neg hi];exact⟨e',hh,hp⟩
 |_=>exact⟨e',hh,hp⟩
theorem Ht.skip(hc:c=.skip)(h:n e):Ht P N fr c e n r x:=by
 subst hc;exact λa w hs=>wp_skip ⟨e,hs,h⟩
theorem Ht.exit{i:Nat}(hc:c=.exit i)(h:x i e):Ht P N fr c e n r x:=by
 subst hc;exact λa w hs=>wp_exit ⟨e,hs,h⟩
theorem Ht.ret(hc:c=.ret)(h:r e):Ht P N fr c e n r x:=by
 subst hc;exact λa w hs=>wp_ret ⟨e,hs,h⟩
theorem Ht.mono{n' r':Env->Prop}{x':Nat->Env->Prop}(h:Ht P N fr c e n r x)(hn:∀e,n e->n' e)(hr:∀e,r e->r' e)(hx:∀i e,x i e->x' i e):Ht P N fr c e n' r' x':=by
 intro a w hs;refine wp_mono (h a w hs) ?_;rintro ex a w ⟨e',hh,hp⟩;refine⟨e',hh,?_⟩;cases ex with
 |normal=>exact hn _ hp
 |ret=>exact hr _ hp
 |exit i=>exact hx _ _ hp
 |_=>exact hp
theorem Mo{σ:Type}{c:Code}{Q:Exit->Act->World->Prop}(I:σ->Act->World->Prop)
  (m:σ->Nat) (round:∀s a w,I s a w->c.wp P (Exit.then (λa' w'=>∃s',m s'<m s/\I s' a' w') Q) a w) (s:σ) {a:Act}{w:World} (h₀:I s a w):(Code.loop c).wp P Q a w:=by
 intro b k cs
 have key:∀n s a w,m s=n->I s a w ->
   ∃e a' w',Q e a' w'/\Arrives P (lone (b.at a (.code c::.inLoop c::k)) cs w) b k cs e a' w':=by
  intro n
  induction n using Nat.strongRecOn with
  |_ n ih=>
   intro s a w hn hI;obtain⟨e,a₁,w₁,hq,hi⟩:=round s a w hI b (.inLoop c::k) cs;cases e with
   |normal=>
    obtain⟨s',hk,hh⟩:=hq;obtain⟨e₂,a₂,w₂,hl,hj⟩:=ih (m s') (hn▸hk) s' a₁ w₁ rfl hh;exact⟨e₂,a₂,w₂,hl,.of_steps (Steps.trans hi (.one step_inLoop)) hj⟩
   |exit id=>exact⟨_,a₁,w₁,hq,.pass (x:=.inLoop c) rfl (λ_ _=>.inl (by simp)) hi⟩
   |goto l=>exact⟨_,a₁,w₁,hq,.pass (x:=.inLoop c) rfl (λ_ _=>.inl (by simp)) hi⟩
   |ret=>exact⟨_,a₁,w₁,hq,.pass (x:=.inLoop c) rfl (λ_ _=>.inl (by simp)) hi⟩
   |panic ch=>exact⟨_,a₁,w₁,hq,.pass (x:=.inLoop c) rfl (λ_ _=>.inl (by simp)) hi⟩
   |outgrown=>exact⟨_,a₁,w₁,hq,.pass (x:=.inLoop c) rfl (λ_ _=>.inl (by simp)) hi⟩
 obtain⟨e,a',w',hq,hi⟩:=key _ s a w rfl h₀;exact⟨e,a',w',hq,.of_steps (.one step_loop) hi⟩
end
inductive Lp(σ ρ:Type) where
 |go (s:σ)
 |out (r:ρ)
inductive LpT{σ ρ:Type}(step:σ->Lp σ ρ)(ob:σ->Prop):σ->Prop where
 |mk (s:σ):ob s->(∀s',step s=.go s'->LpT step ob s')->LpT step ob s
inductive LpR{σ ρ:Type}(step:σ->Lp σ ρ):σ->ρ->Prop where
 |out {s r}:step s=.out r->LpR step s r
 |go {s s' r}:step s=.go s'->LpR step s' r->LpR step s r
open Classical in
noncomputable def lpV{σ ρ:Type}[Inhabited ρ](step:σ->Lp σ ρ)(s:σ):ρ:=if h:∃r,LpR step s r then Classical.choose h else default
theorem LpR.fn{σ ρ:Type}{step:σ->Lp σ ρ}{s:σ}{r:ρ}(h:LpR step s r):∀ {r'},LpR step s r'->r'=r:=by
 induction h with
 |out h=>intro r' h';cases h' with
  |out h''=>rw[h]at h'';cases h'';rfl
  |go h'' _=>rw[h]at h'';cases h''
 |go h _ ih=>intro r' h';cases h' with
  |out h''=>rw[h]at h'';cases h''
  |go h'' h3=>rw[h]at h'';cases h'';exact ih h3
theorem LpR.val{σ ρ:Type}[Inhabited ρ]{step:σ->Lp σ ρ}{s:σ}{r:ρ}(h:LpR step s r):lpV step s=r:=by
 have hex:∃r,LpR step s r:=⟨r,h⟩;unfold lpV;rw[dif_pos hex];exact h.fn (Classical.choose_spec hex)
theorem nu{σ ρ:Type}[Inhabited ρ]{step:σ->Lp σ ρ}{s:σ}{r:ρ}(h:step s=.out r):lpV step s=r:=(LpR.out h).val
theorem pu{σ ρ:Type}[Inhabited ρ]{step:σ->Lp σ ρ}{s s':σ}(h:step s=.go s'):lpV step s=lpV step s':=by
 by_cases hex:∃r,LpR step s' r
 .obtain⟨r,hr⟩:=hex;rw[hr.val,(LpR.go h hr).val]
 .have hh:¬ ∃r,LpR step s r:=by
   rintro⟨r,hr⟩;cases hr with
   |out h'=>rw[h]at h';cases h'
   |go h' h''=>rw[h]at h';cases h';exact hex ⟨r,h''⟩
  unfold lpV;rw[dif_neg hex,dif_neg hh]
theorem LpT.ob{σ ρ:Type}{step:σ->Lp σ ρ}{ob:σ->Prop}{s:σ}(h:LpT step ob s):ob s:=by cases h;assumption
theorem LpT.next{σ ρ:Type}{step:σ->Lp σ ρ}{ob:σ->Prop}{s s':σ}(h:LpT step ob s)(hs:step s=.go s'):LpT step ob s':=by
 cases h with
 |mk _ _ h=>exact h s' hs
section
variable {P:Program}{N:NP}{fr:Fr}{c:Code}{n r:Env->Prop}{x:Nat->Env->Prop}
inductive LpN{σ ρ:Type}(step:σ->Lp σ ρ)(ob:σ->Prop):Nat->σ->Prop where
 |out {s r}:ob s->step s=.out r->LpN step ob 0 s
 |go {k s s'}:ob s->step s=.go s'->LpN step ob k s'->LpN step ob (k+1) s
theorem LpT.count{σ ρ:Type}{step:σ->Lp σ ρ}{ob:σ->Prop}{s:σ}(h:LpT step ob s):∃k,LpN step ob k s:=by
 induction h with
 |mk s ho _ ih=>
  cases hs:step s with
  |out r=>exact⟨0,.out ho hs⟩
  |go s'=>obtain⟨k,hk⟩:=ih s' hs;exact⟨k+1,.go ho hs hk⟩
theorem Ht.loop{σ ρ:Type}{c1:Code}(hc:c=.loop c1){I:σ->Env}{step:σ->Lp σ ρ}{ob:σ->Prop}{s0:σ}(hT:LpT step ob s0)
  (hround:∀s,ob s->Ht P N fr c1 (I s) (λe'=>∃s',step s=.go s'/\e'=I s') (λe'=>∃q,step s=.out q/\(LpR step s0 q->r e')) (λi e'=>∃q,step s=.out q/\(LpR step s0 q->x i e'))):Ht P N fr c (I s0) n r x:=by
 subst hc;intro a w hs;obtain⟨k0,hh⟩:=hT.count;refine Mo (σ:=Nat×σ) (λks a w=>LpN step ob ks.1 ks.2/\(∀q,LpR step ks.2 q->LpR step s0 q)/\Sim N fr.B fr.IoB fr.W0 fr.F0 (I ks.2) a w) (·.1) ?_ (k0,s0) ⟨hh,λ_ h=>h,hs⟩;rintro⟨k,s⟩ a w ⟨hk,hq,hj⟩;have hk:LpN step ob k s:=hk;have ho:ob s:=by cases hk<;>assumption
 refine wp_mono (hround s ho a w hj) ?_;rintro ex a w ⟨e',hi,hp⟩;cases ex with
 |normal=>
  obtain⟨s',hl,rfl⟩:=hp;cases hk with
  |out _ h=>rw[hl]at h;cases h
  |go _ h hk'=>
   rw[hl]at h;cases h;exact⟨(_,s'),Nat.lt_succ_self _,hk',λq h=>hq q (.go hl h),hi⟩
 |ret=>
  obtain⟨q,hl,h⟩:=hp;exact⟨e',hi,h (hq q (.out hl))⟩
 |exit i=>
  obtain⟨q,hl,h⟩:=hp;exact⟨e',hi,h (hq q (.out hl))⟩
 |_=>exact hp.elim
end
inductive Tk where
 |same
 |sh
 |fr
 |acc (f:Bool)
 |own (f:Bool)
 |bx (l:List (Option (Option Bool)))
def Ua:List (Option (Option Bool))->List (K×C)->List (K×C)
 |some (some f)::l,(_,.nl t)::cs=>(.acc f,.lst t [])::Ua l cs
 |some none::l,(.acc _,c)::cs=>(.sh,norm c)::Ua l cs
 |some none::l,(.fr,c)::cs=>(.sh,c)::Ua l cs
 |_::l,kc::cs=>kc::Ua l cs
 |[],cs=>cs
 |_::_,[]=>[]
theorem bi:∀(l:List (Option (Option Bool))) (cs:List (K×C)),(Ua l cs).length=cs.length
 |[],cs=>by cases cs<;>rfl
 |_::_,[]=>by simp[Ua]
 |none::l,kc::cs=>by
  have:=bi l cs;simp[Ua,this]
 |some (some f)::l,(k,c)::cs=>by
  have:=bi l cs;cases c<;>simp[Ua,this]
 |some none::l,(k,c)::cs=>by
  have:=bi l cs;cases k<;>simp[Ua,this]
theorem ci:∀ {l:List (Option (Option Bool))}{cs:List (K×C)}{j:Nat}{kc:K×C},(Ua l cs)[j]? = some kc->∃kc0,cs[j]? = some kc0/\(kc=kc0\/(∃f t,kc0.2=.nl t/\kc=(.acc f,.lst t []))\/(∃f,kc0.1=.acc f/\kc=(.sh,norm kc0.2))\/(kc0.1=.fr/\kc=(.sh,kc0.2)))
 |[],[],j,kc,h=>by simp[Ua]at h
 |[],_::_,j,kc,h=>⟨kc,h,.inl rfl⟩
 |_::_,[],j,kc,h=>by simp[Ua]at h
 |none::l,kc0::cs,j,kc,h=>by
  cases j with
  |zero=>simp[Ua]at h;exact⟨kc0,rfl,.inl h.symm⟩
  |succ j=>
   obtain⟨q,h1,h2⟩:=ci (l:=l) (cs:=cs) (j:=j) (kc:=kc) (by simpa [Ua] using h);exact⟨q,by simpa using h1,h2⟩
 |some (some f)::l,(k,c)::cs,j,kc,h=>by
  cases j with
  |zero=>
   cases c with
   |nl t=>simp[Ua]at h;exact⟨(k,.nl t),rfl,.inr (.inl ⟨f,t,rfl,h.symm⟩)⟩
   |_=>simp[Ua]at h;exact⟨_,rfl,.inl h.symm⟩
  |succ j=>
   obtain⟨q,h1,h2⟩:=ci (l:=l) (cs:=cs) (j:=j) (kc:=kc) (by cases c<;>simpa [Ua] using h);exact⟨q,by simpa using h1,h2⟩
 |some none::l,(k,c)::cs,j,kc,h=>by
  cases j with
  |zero=>
   cases k with
   |acc f=>simp[Ua]at h;exact⟨_,rfl,.inr (.inr (.inl ⟨f,rfl,h.symm⟩))⟩
   |fr=>simp[Ua]at h;exact⟨_,rfl,.inr (.inr (.inr ⟨rfl,h.symm⟩))⟩
   |_=>simp[Ua]at h;exact⟨_,rfl,.inl h.symm⟩
  |succ j=>
   obtain⟨q,h1,h2⟩:=ci (l:=l) (cs:=cs) (j:=j) (kc:=kc) (by cases k<;>simpa [Ua] using h);exact⟨q,by simpa using h1,h2⟩
def leB:Bool->Bool->Bool
 |true,false=>false
 |_,_=>true
def Nb:Tk->AV->Option AV
 |.same,a=>some a
 |.sh,.v .sh c=>some (.v .sh (norm c))
 |.sh,.v .fr c=>some (.v .sh (norm c))
 |.sh,.v (.acc _) c=>some (.v .sh (norm c))
 |.sh,.agg _ cs=>some (.agg false (norms cs))
 |.fr,.v .fr c=>some (.v .fr (norm c))
 |.fr,.v (.acc true) c=>some (.v .fr (norm c))
 |.fr,.agg true cs=>some (.agg true (norms cs))
 |.acc f,.v _ (.nl t)=>some (.v (.acc f) (.lst t []))
 |.acc f,.v (.acc f') c=>match leB f f' with
  |true=>some (.v (.acc f) (norm c))
  |false=>none
 |.own f,.v (.own f') c=>match leB f f' with
  |true=>some (.v (.own f) c)
  |false=>none
 |.bx l,.box cs=>some (.box (Ua l cs))
 |_,_=>none
def ud(e:Env):List (Nat×Tk)->Option Env
 |[]=>some []
 |(n,k)::r=>match Nb k (ba e n),ud e r with
  |some a,some e'=>match Pa a with
   |true=>some ((n,a)::e')
   |false=>none
  |_,_=>none
theorem RC.lower{F:Fz}{B:Nat}{f f':Bool}{w:World}{c:C}{v:Value}(h:RC F (lof B f') w c v)(hf:leB f f'=true):RC F (lof B f) w c v:=h.mono (λ_ _ h=>h) (by cases f<;>cases f'<;>simp[lof,leB]at hf⊢) (λ_ _ _=>rfl)
theorem ei{F:Fz}{B:Nat}{w:World}{o:Option Nat->Option Nat}{k:Tk}{av av':AV}{v:Value}(h:Nb k av=some av')(hv:VR F B w o av v):VR F B w o av' v:=by
 have h0:∀ {lo:Nat}{c:C},RC F lo w c v->RC F 0 w (norm c) v:=λh=>(RC.lo0 h).norm;unfold Nb at h;split at h
 .cases h;exact hv
 .cases h;exact h0 hv
 .cases h;exact h0 (hv:RC F B w _ v)
 .cases h;exact h0 hv.1
 .rename_i f cs;cases h;obtain⟨vs,rfl,hr⟩:=hv;exact⟨vs,rfl,(hr.mono (λ_ _ h=>h) (Nat.zero_le _) (λ_ _ _=>rfl)).norms⟩
 .cases h;exact(hv:RC F B w _ v).norm
 .cases h;exact RC.norm hv.1
 .cases h;obtain⟨vs,rfl,hr⟩:=hv;exact⟨vs,rfl,hr.norms⟩
 .rename_i f k' t;cases h
  have hi:∃lo,RC F lo w (.nl t) v:=by
   cases k' with
   |sh=>exact⟨_,hv⟩
   |fr=>exact⟨_,hv⟩
   |acc f=>exact⟨_,hv.1⟩
   |own f=>rcases hv with⟨t,h1,_⟩|⟨t,xs,b,cap,cs,vs,h1,_⟩<;>cases h1
  obtain⟨lo,hi⟩:=hi;cases hi;exact⟨.nil _,.inl ⟨t,rfl,rfl⟩⟩
 .rename_i f f' c;split at h
  .rename_i hf;cases h;exact ka.norm ⟨RC.lower hv.1 hf,hv.2⟩
  .cases h
 .rename_i f f' c;split at h
  .rename_i hf;cases h;rcases hv with h|⟨t,xs,b,cap,cs,vs,e1,e2,e3,e4,e5,hh,e6,e7,e8,e9⟩
   .exact .inl h
   exact .inr ⟨t,xs,b,cap,cs,vs,e1,e2,e3,e4,e5,hh,Nat.le_trans (by cases f<;>cases f'<;>simp[lof,leB]at hf⊢) e6,e7,e8,λi j x c hx hc=>RC.lower (e9 i j x c hx hc) hf⟩
  .cases h
 .rename_i l cs;cases h;obtain⟨b,vs,e1,e2,e3,e4,e5,e6⟩:=hv;refine⟨b,vs,e1,e2,e3,e4,by rw[bi];exact e5,λj kc u hj hu=>?_⟩;obtain⟨hk,h1,h2⟩:=ci hj;have h3:=e6 j hk u h1 hu;rcases h2 with rfl|⟨f,t,h4,rfl⟩|⟨f,h4,rfl⟩|⟨h4,rfl⟩
  .exact h3
  rotate_left
  .obtain⟨k0,c0⟩:=hk;have h4:k0=.acc f:=h4;subst h4;exact(RC.lo0 h3.1).norm
  .obtain⟨k0,c0⟩:=hk;have h4:k0=.fr:=h4;subst h4;exact RC.lo0 h3
  .obtain⟨k0,c0⟩:=hk;have h4:c0=.nl t:=h4;subst h4
   have hi:∃lo,RC F lo w (.nl t) u:=by
    cases k0 with
    |sh=>exact⟨_,h3⟩
    |fr=>exact⟨_,h3⟩
    |acc f=>exact⟨_,h3.1⟩
    |own f=>exact h3.elim
   obtain⟨lo,hi⟩:=hi;cases hi;exact⟨.nil _,.inl ⟨t,rfl,rfl⟩⟩
 .cases h
theorem Oo{e:Env}:∀ {pat:List (Nat×Tk)}{e':Env},ud e pat=some e'->∀n,ba e' n=.dead\/∃k,Nb k (ba e n)=some (ba e' n)/\Pa (ba e' n)=true
 |[],e',h,n=>by simp only[ud,Option.some.injEq]at h;subst h;exact .inl rfl
 |(m,k)::r,e',h,n=>by
  simp only[ud]at h;split at h
  .rename_i a e2 ha he;split at h
   .rename_i hf;simp only[Option.some.injEq]at h;subst h;simp only[ba];cases hb:Nat.beq m n with
    |true=>
     right;rw[Nat.eq_of_beq_eq_true hb]at ha;exact⟨k,ha,hf⟩
    |false=>exact Oo he n
   .cases h
  .cases h
theorem fa.cast{B:Nat}{IoB:List Nat}{F0 F:Fz}{e e':Env}{tm:Nat->Value}{w:World}{ow:Nat->Option Nat->Option Nat}(hs:fa B IoB F0 e tm w F ow)(hfl:∀n,Pa (ba e n)=true)
  {pat:List (Nat×Tk)} (h:ud e pat=some e'):fa B IoB F0 e' tm w F ow:=by
 refine hs.flat λn=>?_;rcases Oo h n with h|⟨k,hc,hf⟩
 .rw[h];exact⟨rfl,trivial⟩
 .have hh:=hs.sr n;rw[Bc (hfl n)]at hh;exact⟨hf,ei hc hh⟩
def ce:Env->Bool
 |[]=>true
 |(_,a)::r=>Pa a&&ce r
theorem fi:∀ {e:Env},ce e=true->∀n,Pa (ba e n)=true
 |[],_,_=>rfl
 |(m,a)::r,h,n=>by
  simp only[ce,Bool.and_eq_true]at h;simp only[ba];cases Nat.beq m n with
  |true=>exact h.1
  |false=>exact fi h.2 n
def de(e:Env)(s:Nat):Env:=
 match ba e s with
 |.v (.own f) (.lst t xs)=>put (na (Ka (unview s (ba e s)) e) s .dead) s (.v (.acc f) (.lst t xs))
 |_=>e
theorem fa.freeze{B:Nat}{IoB:List Nat}{F0 F:Fz}{e:Env}{a:Act}{w:World}{ow:Nat->Option Nat->Option Nat}(hs:fa B IoB F0 e (λn=>a.tmps.getD n undef) w F ow)(hBw:B<=w.heap.size)(s:Nat) :
  ∃F' ow',fa B IoB F0 (de e s) (λn=>a.tmps.getD n undef) w F' ow':=by
 unfold de;split
 .rename_i f t xs hg;have hn:=hs.sr s;rw[hg]at hn;rcases hn with⟨t',e1,e2⟩|⟨t',hq,b,cap,cs,vs,e1,e2,e3,e4,e5,hh,e6,e7,e8,e9⟩
  .cases e1;have e2:a.tmps.getD s undef=.slice none 0 0:=e2;have h1:=hs.unviewAt s .dead (λ_ _=>trivial);rw[hg]at h1
   have h3:=h1.putG (d:=s) (av:=.v (.acc f) (.lst t [])) (v:=a.tmps.getD s undef) (owd:=λ_=>none) hBw (la.refl _ _) h1.live
    (λi b' h=>by simp at h) (λi b' h=>by simp at h) (λi i' b' h h'=>by simp at h)
    (λg' _ _=>by
      show ka F (lof B f) w _ _ _;simp only[if_true];exact⟨by rw[e2];exact .nil t,.inl ⟨t,rfl,e2⟩⟩)
   have hp:(λn=>if n=s then a.tmps.getD s undef else a.tmps.getD n undef)=λn=>a.tmps.getD n undef:=funext λn=>by
    by_cases h:n=s
    .rw[if_pos h,h]
    .rw[if_neg h]
   rw[hp]at h3;rw[hg];exact⟨F,_,h3⟩
  cases e1;have e2:a.tmps.getD s undef=.slice (some ⟨b,0,none⟩) xs.length cap:=e2;have hk:Mn B IoB b:=(hs.bd s none b e3).2;have h1:=hs.unviewAt s .dead (λ_ _=>trivial);rw[hg]at h1
  have hl:∀s' i,(λn=>if n=s then λ_=>none else ow n) s' i≠some b:=by
   intro s' i h;by_cases he:s'=s
   .simp[he]at h
   .simp only[he,if_false]at h;exact he (hs.inj _ _ _ _ _ h e3).1
  let F':Fz:=λb' o=>F b' o\/(b'=b/\o<xs.length*t.size);have hm:xs.length*t.size<=cs.length:=by rw[e5];exact Nat.mul_le_mul_right _ hh
  have h2:fa B IoB F0 (na (Ka (unview s (.v (.own f) (.lst t xs))) e) s .dead) (λn=>a.tmps.getD n undef) w F' (λn=>if n=s then λ_=>none else ow n):=by
   refine⟨λb o h=>.inl (h1.sub b o h),λb' o h=>?_,λb' o h=>?_,h1.inj,h1.bd,λn=>?_⟩
   .rcases h with h|⟨rfl,_⟩
    .exact h1.new _ _ h
    .exact .inr hk
   .rcases h with h|⟨rfl,h⟩
    .exact h1.live _ _ h
    .rw[e4.cell,List.getElem?_eq_getElem (by omega)];rfl
   .exact SR.ext (F:=F) (F':=F') (λb o h=>.inl h) (λb' o h=>h.imp_right (λh s' i=>h.1▸hl s' i)) (h1.sr n)
  have h3:=h2.putG (d:=s) (av:=.v (.acc f) (.lst t xs)) (v:=a.tmps.getD s undef) (owd:=λi=>match i with|none=>some b|some _=>none) hBw (la.refl _ _) h2.live
   (λi b' h=>by
     cases i with
     |none=>simp at h;subst h;exact hs.bd s none _ e3
     |some i=>simp at h)
   (λi b' h s' i' _=>by
     cases i with
     |none=>simp at h;subst h;exact hl s' i'
     |some i=>simp at h)
   (λi i' b' h h'=>by cases i<;>cases i'<;>simp at h h'⊢)
   (λg' _ _=>by
     show ka F' (lof B f) w _ _ _;simp only[if_true];rw[e2]
     refine⟨.lst t xs b 0 cap vs e6 hh (λi j hi hj=>.inr ⟨rfl,by rw[Nat.zero_add];exact pd hi hj⟩) (λi j hi hj=>by rw[e4.cell,Nat.zero_add];exact e8 i j hi hj)
      (λi j x c hx hc=>(e9 i j x c hx hc).mono (λ_ _ h=>.inl h) (Nat.le_refl _) (λ_ _ _=>rfl)),.inr ⟨t,xs,b,cap,cs,rfl,rfl,rfl,e4,e5,λo ho h=>?_⟩⟩
     rcases h with h|h
     .exact e7 o h
     .omega)
  have hp:(λn=>if n=s then a.tmps.getD s undef else a.tmps.getD n undef)=λn=>a.tmps.getD n undef:=funext λn=>by
   by_cases h:n=s
   .rw[if_pos h,h]
   .rw[if_neg h]
  rw[hp]at h3;rw[hg];exact⟨F',_,h3⟩
 .exact⟨F,ow,hs⟩
section
variable {P:Program}{tt:TT}{N:NP}{fr:Fr}{c:Code}{e:Env}{n r:Env->Prop}{x:Nat->Env->Prop}
theorem Ht.cast{pat:List (Nat×Tk)}{e':Env}(hf:ce e=true)(h:ud e pat=some e')(hc:Ht P N fr c e' n r x):Ht P N fr c e n r x:=by
 intro a w hs;obtain⟨F,ow,hx⟩:=hs.rep;exact hc a w ⟨hs.defers,hs.tmps,hs.base,hs.f0,hs.kept,F,ow,hx.cast (fi hf) h⟩
theorem Ht.freeze(s:Nat)(hc:Ht P N fr c (de e s) n r x):Ht P N fr c e n r x:=by
 intro a w hs;obtain⟨F,ow,hx⟩:=hs.rep;obtain⟨F',hi,hh⟩:=hx.freeze (Nat.le_trans hs.base hs.kept.size) s;exact hc a w ⟨hs.defers,hs.tmps,hs.base,hs.f0,hs.kept,F',hi,hh⟩
end
def Ty.i64:Ty->Bool
 |.int=>true
 |.time=>true
 |.row=>true
 |.item=>true
 |_=>false
def okC:C->Bool
 |.int _ _=>true
 |.bool _=>true
 |.str _=>true
 |.nl _=>true
 |.lst .byte _=>true
 |_=>false
def Rl:K×C->Bool
 |(.acc _,.lst t _)=>t.i64
 |(.acc _,_)=>false
 |(.own _,_)=>false
 |(_,c)=>okC c
def Re{α:Type}(p:α->Bool):List α->Bool
 |[]=>true
 |x::r=>p x&&Re p r
theorem Sl{α:Type}{p:α->Bool}:∀ {l:List α},Re p l=true->∀ {j:Nat}{x:α},l[j]? = some x->p x=true
 |[],_,j,x,h=>by simp at h
 |y::r,ha,0,x,h=>by simp only[Re,Bool.and_eq_true]at ha;simp at h;subst h;exact ha.1
 |y::r,ha,j+1,x,h=>by simp only[Re,Bool.and_eq_true]at ha;exact Sl ha.2 (by simpa using h)
def ee:AV->Bool
 |.dead=>true
 |.v (.acc _) (.lst t _)=>t.i64
 |.v (.acc _) _=>false
 |.v (.own _) (.lst t _)=>t.i64
 |.v (.own _) _=>false
 |.v _ c=>okC c
 |.agg _ cs=>Re okC cs
 |.box cs=>Re Rl cs
 |_=>false
def Zf(s:Nat):Env->Bool
 |[]=>true
 |(n,a)::r=>(Nat.beq n s||ee a)&&Zf s r
theorem bg{s:Nat}:∀ {e:Env},Zf s e=true->∀n,n≠s->ee (ba e n)=true
 |[],_,_,_=>rfl
 |(m,a)::r,h,n,hn=>by
  simp only[Zf,Bool.and_eq_true,Bool.or_eq_true]at h;simp only[ba];cases hb:Nat.beq m n with
  |true=>
   have:=Nat.eq_of_beq_eq_true hb;subst this;rcases h.1 with h1|h1
   .exact absurd (Nat.eq_of_beq_eq_true h1) hn
   .exact h1
  |false=>exact bg h.2 n hn
theorem gi{a:AV}(h:ee a=true):Pa a=true:=by
 cases a<;>first|rfl|(simp[ee]at h)
theorem RC.ofInt{F:Fz}{lo:Nat}{w:World}{k:IntKind}{n:Int}{v:Value}(h:RC F lo w (.int k n) v):v=.int k n:=by cases h;rfl
theorem ii{t:Ty}(ht:t.i64=true){x:t.T}{j:Nat}{c:C}(h:(cells t x)[j]? = some c):∃n,c=.int .i64 n:=by
 cases t<;>simp[Ty.i64]at ht
 all_goals
  (match j,h with
   |0,h=>simp[cells]at h;exact⟨_,h.symm⟩
   |1,h=>first|(simp[cells]at h;done)|(simp[cells]at h;exact⟨_,h.symm⟩)
   |2,h=>first|(simp[cells]at h;done)|(simp[cells]at h;exact⟨_,h.symm⟩)
   |3,h=>first|(simp[cells]at h;done)|(simp[cells]at h;exact⟨_,h.symm⟩)
   |4,h=>first|(simp[cells]at h;done)|(simp[cells]at h;exact⟨_,h.symm⟩)
   |j+5,h=>simp[cells]at h)
theorem fa.thaw{B:Nat}{IoB:List Nat}{F0 F:Fz}{e:Env}{tm:Nat->Value}{w:World}{ow:Nat->Option Nat->Option Nat}(hs:fa B IoB F0 e tm w F ow)(hf0:∀b o,F0 b o->b<B/\b ∉ IoB){s:Nat}{f:Bool}{t:Ty}{xs:List t.T}
  (hg:ba e s=.v (.acc f) (.lst t xs)) (ht:t.i64=true) (hok:Zf s e=true):∃F',fa B IoB F0 (na e s (.v (.own f) (.lst t xs))) tm w F' ow:=by
 have ki:=hs.sr s;rw[hg]at ki;obtain⟨jb,hd⟩:=ki
 have he:∀n,Pa (ba (na e s (.v (.own f) (.lst t xs))) n)=true:=λn=>by
  rw[ja];split
  .rfl
  .rename_i hn;exact gi (bg hok n hn)
 rcases hd with⟨t0,e1,e2⟩|⟨t0,kr,b,cap,cs,e1,e2,e3,e4,e5,e6⟩
 .have e1:C.lst t xs=.lst t0 []:=e1;refine⟨F,hs.flat λn=>⟨he n,?_⟩⟩;rw[ja];split
  .rename_i hn;rw[hn,e1];exact .inl ⟨t0,rfl,e2⟩
  .rename_i hn;have:=hs.sr n;rw[Bc (gi (bg hok n hn))]at this;exact this
 .have e1:C.lst t xs=.lst t0 kr:=e1;cases e1;let F':Fz:=λb' o=>F b' o/\b'≠b;have kj:∀b' o,F' b' o->F b' o:=λ_ _ h=>h.1;rw[e2]at jb;cases jb with
  |lst _ _ _ o cap' vs hb hcap hf hc hr=>
   have hp:Mn B IoB b:=(hs.bd s none b e3).2
   have ih:∀o u,F b o->w.cell? ⟨b,o,none⟩=some u->∃n,u=.int .i64 n:=by
    intro o u hq hu
    have ho:o<xs.length*t.size:=by
     by_cases h:o<xs.length*t.size
     .exact h
     .exact absurd hq (e6 o (by omega))
    have ju:=Je t;have hi:o / t.size<xs.length:=by rw[Nat.div_lt_iff_lt_mul ju];exact ho
    have hj:o % t.size<t.size:=Nat.mod_lt _ ju;have h1:=hc (o / t.size) (o % t.size) hi hj;rw[show 0+(o / t.size*t.size+o % t.size)=o by rw[Nat.zero_add,Nat.mul_comm];exact Nat.div_add_mod _ _]at h1;rw[h1]at hu;cases hu;have hy:(cells t xs[o / t.size])[o % t.size]? = some ((cells t xs[o / t.size])[o % t.size]'(by rw[Zb];exact hj)):=List.getElem?_eq_getElem _;obtain⟨n,hn⟩:=ii ht hy;have h2:=hr _ _ _ _ (List.getElem?_eq_getElem hi) hy;rw[hn]at h2;exact⟨n,h2.ofInt⟩
   have km:∀ {lo:Nat}{c:C}{v:Value},okC c=true->RC F lo w c v->RC F' lo w c v:=by
    intro lo c v hw h;cases h with
    |int k n=>exact .int k n
    |bool b=>exact .bool b
    |str s=>exact .str s
    |nl t=>exact .nl t
    |nil t=>exact .nil t
    |lst t2 ys b2 o2 cap2 kq hb2 hcap2 hf2 hc2 hr2=>
     cases t2<;>simp[okC]at hw;refine .lst .byte ys b2 o2 cap2 kq hb2 hcap2 (λi j hi hj=>⟨hf2 i j hi hj,λe=>?_⟩) hc2 (λi j x c hx hw=>?_)
     .subst e;obtain⟨n,hn⟩:=ih _ _ (hf2 i j hi hj) (hc2 i j hi hj);have io:j=0:=by have:j<1:=hj;omega
      subst io;have h3:=hr2 i 0 ys[i] (.int .u8 ys[i]) (List.getElem?_eq_getElem hi) rfl;rw[hn]at h3;cases h3.ofInt
     .have h3:=hr2 i j x c hx hw
      match j,hw with
      |0,hw=>simp[cells]at hw;subst hw;rw[h3.ofInt];exact .int _ _
      |j+1,hw=>simp[cells]at hw
   have kk:∀ {lo:Nat}{t2:Ty}{ys:List t2.T}{v:Value},t2.i64=true->(∀b2 o2 n2 cap2,v=.slice (some ⟨b2,o2,none⟩) n2 cap2->b2≠b)->RC F lo w (.lst t2 ys) v->RC F' lo w (.lst t2 ys) v:=by
    intro lo t2 ys v hm ix h;cases h with
    |nil=>exact .nil _
    |lst _ _ b2 o2 cap2 kq hb2 hcap2 hf2 hc2 hr2=>
     refine .lst t2 ys b2 o2 cap2 kq hb2 hcap2 (λi j hi hj=>⟨hf2 i j hi hj,ix _ _ _ _ rfl⟩) hc2 (λi j x c hx hw=>?_);have h3:=hr2 i j x c hx hw;obtain⟨n,rfl⟩:=ii hm hw;rw[h3.ofInt];exact .int _ _
   have hh:∀ {lo:Nat}{ob:Option Nat}{t2:Ty}{ys:List t2.T}{v:Value},t2.i64=true->ob≠some b->ka F lo w ob (.lst t2 ys) v->ka F' lo w ob (.lst t2 ys) v:=by
    rintro lo ob t2 ys v hm ie ⟨h1,h2⟩;rcases h2 with⟨t3,q1,q2⟩|⟨t3,zs,b2,cap2,hl,q1,q2,q3,q4,q5,q6⟩
    .have kn:C.lst t2 ys=.lst t3 []:=q1;cases kn;exact⟨by rw[q2];exact .nil _,.inl ⟨t2,rfl,q2⟩⟩
    .have ix:b2≠b:=λe=>ie (e▸q3);exact⟨kk hm (λb3 o3 n3 c3 h=>by rw[q2]at h;cases h;exact ix) h1,.inr ⟨t3,zs,b2,cap2,hl,q1,q2,q3,q4,q5,λo ho hF=>q6 o ho hF.1⟩⟩
   refine⟨F',?_⟩
   have it:fa B IoB F0 (na e s .dead) tm w F' ow:=by
    refine⟨λb' o h=>⟨hs.sub _ _ h,λe=>by subst e;exact hp.elim (λhB=>by have:=(hf0 _ _ h).1;omega) (hf0 _ _ h).2⟩,λb' o h=>hs.new _ _ h.1,λb' o h=>hs.live _ _ h.1,hs.inj,hs.bd,λn=>?_⟩;rw[ja];split
    .trivial
    .rename_i hn;have ha:=bg hok n hn;have h:=hs.sr n;have hz:=gi ha;rw[Bc hz]at h⊢;have ie:∀i,ow n i≠some b:=λi h=>hn (hs.inj _ _ _ _ _ h e3).1;cases hav:ba e n with
     |dead=>trivial
     |v k c=>
      rw[hav]at h ha;cases k with
      |sh=>exact km ha h
      |fr=>exact km ha h
      |acc f2=>
       cases c with
       |lst t2 ys=>exact hh ha (ie none) h
       |_=>simp[ee]at ha
      |own f2=>
       cases c with
       |lst t2 ys=>
        rcases h with h|⟨t3,zs,b2,cap2,hl,kq,q1,q2,q3,q4,q5,kp,q6,q7,q8,q9⟩
        .exact .inl h
        .refine .inr ⟨t3,zs,b2,cap2,hl,kq,q1,q2,q3,q4,q5,kp,q6,λo hF=>q7 o hF.1,q8,λi j x c hx hw=>?_⟩;cases q1;have h3:=q9 i j x c hx hw;obtain⟨m,rfl⟩:=ii ha hw;rw[h3.ofInt];exact .int _ _
       |_=>simp[ee]at ha
     |agg f2 hl=>
      rw[hav]at h ha;obtain⟨us,q1,q2⟩:=h;refine⟨us,q1,RCs.mk q2.length (λj c v hc hv=>?_)⟩;obtain⟨v2,q3,q4⟩:=q2.get hc;rw[hv]at q3;cases q3;exact km (Sl ha hc) q4
     |box hl=>
      rw[hav]at h ha;obtain⟨b2,us,q1,q2,q3,q4,q5,q6⟩:=h;refine⟨b2,us,q1,q2,q3,λo hF=>q4 o hF.1,q5,λj kc u hk hu=>?_⟩;have h3:=q6 j kc u hk hu;have h4:=Sl ha hk;obtain⟨k,c⟩:=kc;cases k with
      |sh=>exact km h4 h3
      |fr=>exact km h4 h3
      |acc f2=>
       cases c with
       |lst t2 ys=>exact hh h4 (ie (some j)) h3
       |_=>simp[Rl]at h4
      |own f2=>simp[Rl]at h4
     |_=>rw[hav]at ha;simp[ee]at ha
   refine⟨it.sub,it.new,it.live,it.inj,it.bd,λn=>?_⟩;by_cases hn:n=s
   .rw[hn,ja,if_pos rfl];refine .inr ⟨t,xs,b,cap,cs,vs,rfl,e2,e3,e4,e5,hcap,hb,λo h=>h.2 rfl,λi j hi hj=>?_,λi j x c hx hw=>?_⟩
    .have h1:=hc i j hi hj;rw[Nat.zero_add,e4.cell]at h1;exact h1
    .have h3:=hr i j x c hx hw;obtain⟨m,rfl⟩:=ii ht hw;rw[h3.ofInt];exact .int _ _
   .rw[ja,if_neg hn];have h:=it.sr n;rw[ja,if_neg hn]at h;have hz:=gi (bg hok n hn);rw[Bc hz]at h⊢;exact h
def cg(e:Env)(s:Nat):Option Env:=
 match ba e s with
 |.v (.acc f) (.lst t xs)=>match t.i64&&Zf s e with
  |true=>some (na e s (.v (.own f) (.lst t xs)))
  |false=>none
 |_=>none
section
variable {P:Program}{N:NP}{fr:Fr}{c:Code}{e:Env}{n r:Env->Prop}{x:Nat->Env->Prop}
theorem Ht.thaw(s:Nat){e':Env}(h:cg e s=some e')(hc:Ht P N fr c e' n r x):Ht P N fr c e n r x:=by
 intro a w hs;unfold cg at h;split at h
 .rename_i f t xs hg;split at h
  .rename_i hb;simp only[Bool.and_eq_true]at hb;simp only[Option.some.injEq]at h;subst h;obtain⟨F,ow,hx⟩:=hs.rep;obtain⟨F',hh⟩:=hx.thaw hs.f0 hg hb.1 hb.2;exact hc a w ⟨hs.defers,hs.tmps,hs.base,hs.f0,hs.kept,F',ow,hh⟩
  .cases h
 .cases h
end
def La:(ps:List PT)->va ps->Nat->Env
 |[],_,_=>[]
 |.int k::ps,x,i=>(i,.v .fr (.int k x.1))::La ps x.2 (i+1)
 |.bool::ps,x,i=>(i,.v .fr (.bool x.1))::La ps x.2 (i+1)
 |.str::ps,x,i=>(i,.v .fr (.str x.1))::La ps x.2 (i+1)
 |.lst t::ps,x,i=>(i,.v .sh (.lst t x.1))::La ps x.2 (i+1)
 |.st t::ps,x,i=>(i,.agg (upF false (cells t x.1)) (cells t x.1))::La ps x.2 (i+1)
 |.rdr::ps,x,i=>(i,.box [(.sh,.lst .byte x.1.1),(.fr,.int .i64 x.1.2)])::La ps x.2 (i+1)
def ra:List PT->Nat->Option Nat
 |[],_=>none
 |.rdr::_,i=>some i
 |.int _::ps,i=>ra ps (i+1)
 |.bool::ps,i=>ra ps (i+1)
 |.str::ps,i=>ra ps (i+1)
 |.lst _::ps,i=>ra ps (i+1)
 |.st _::ps,i=>ra ps (i+1)
def oc(o:Option Nat)(io:Option Nat)(n:Nat):Option Nat->Option Nat
 |none=>match o with
  |some s=>match Nat.beq s n with
   |true=>io
   |false=>none
  |none=>none
 |some _=>none
theorem vd{F:Fz}{w:World}:∀ {ps:List PT}{x:va ps}{vs:List Value}{io:Option Nat} (i:Nat),Mb F w ps x vs io ->
  vs.length=ps.length/\(∀b,io=some b->∃s,ra ps i=some s/\i<=s/\s<i+vs.length/\vs[s - i]? = some (.pointer (some ⟨b,0,none⟩))/\b<w.heap.size)/\(io=none->ra ps i=none) /\
  ∀ n,ba (La ps x i) n=.dead\/(i<=n/\Pa (ba (La ps x i) n)=true/\∃v,vs[n - i]? = some v /\
    VR F w.heap.size w (oc (ra ps i) io n) (ba (La ps x i) n) v)
 |[],x,vs,io,i,h=>by
  obtain⟨rfl,rfl⟩:=h;exact⟨rfl,λb hb=>by simp at hb,λ_=>rfl,λn=>.inl rfl⟩
 |.rdr::ps,x,vs,io,i,h=>by
  obtain⟨b,sl,hl,rfl,rfl,hb,hr,hf,ht⟩:=h;obtain⟨t1,t2,t3,t4⟩:=vd (i+1) ht;refine⟨by simp[t1],λb' hb'=>?_,λh=>by simp at h,λn=>?_⟩
  .simp only[Option.some.injEq]at hb';subst hb';exact⟨i,rfl,Nat.le_refl _,by simp,by simp,hb.lt⟩
  .simp only[La,ba];cases hn:Nat.beq i n with
   |true=>
    have hh:=Nat.eq_of_beq_eq_true hn;subst hh;refine .inr ⟨Nat.le_refl _,rfl,.pointer (some ⟨b,0,none⟩),by simp,b,[sl,.int .i64 x.1.2],rfl,by simp[ra,oc,Nat.beq_refl],hb,hf,rfl,λj kc u hk hu=>?_⟩
    match j,hk,hu with
    |0,hk,hu=>simp at hk hu;subst hk;subst hu;exact hr
    |1,hk,hu=>simp at hk hu;subst hk;subst hu;exact RC.int _ _
    |j+2,hk,hu=>simp at hk
   |false=>
    simp only[];have hi:i≠n:=λe=>by rw[e,Nat.beq_refl]at hn;cases hn
    rcases t4 n with h|⟨h1,h2,v,h3,h4⟩
    .exact .inl h
    .refine .inr ⟨by omega,h2,v,by rw[show n - i=(n - (i+1))+1 by omega];simpa using h3,?_⟩;have hj:ra ps (i+1)=none:=t3 rfl
     have h5:oc (ra ps (i+1)) none n=oc (some i) (some b) n:=funext λj=>by
      rw[hj];cases j<;>simp[oc,hn]
     rw[h5]at h4;exact h4
 |.int k::ps,x,vs,io,i,h=>by
  obtain⟨v,hl,rfl,hv,ht⟩:=h;exact step1 i (av:=.v .fr (.int k x.1)) rfl (λo=>by have h:RC F 0 w (.int k x.1) v:=hv;cases h;exact RC.int _ _) (vd (i+1) ht) rfl rfl
 |.bool::ps,x,vs,io,i,h=>by
  obtain⟨v,hl,rfl,hv,ht⟩:=h;exact step1 i (av:=.v .fr (.bool x.1)) rfl (λo=>by have h:RC F 0 w (.bool x.1) v:=hv;cases h;exact RC.bool _) (vd (i+1) ht) rfl rfl
 |.str::ps,x,vs,io,i,h=>by
  obtain⟨v,hl,rfl,hv,ht⟩:=h;exact step1 i (av:=.v .fr (.str x.1)) rfl (λo=>by have h:RC F 0 w (.str x.1) v:=hv;cases h;exact RC.str _) (vd (i+1) ht) rfl rfl
 |.lst t::ps,x,vs,io,i,h=>by
  obtain⟨v,hl,rfl,hv,ht⟩:=h;exact step1 i (av:=.v .sh (.lst t x.1)) rfl (λo=>(hv:RC F 0 w (.lst t x.1) v)) (vd (i+1) ht) rfl rfl
 |.st t::ps,x,vs,io,i,h=>by
  obtain⟨v,hl,rfl,hv,ht⟩:=h;exact step1 i (av:=.agg (upF false (cells t x.1)) (cells t x.1)) rfl (λo=>by obtain⟨us,h1,h2⟩:=hv;exact⟨us,h1,RCs.up (f:=false) h2⟩) (vd (i+1) ht) rfl rfl
where
 step1 {F:Fz}{w:World}{p:PT}{ps:List PT}{x:va (p::ps)}{v:Value}{vs:List Value}{io:Option Nat} (i:Nat) {av:AV} (hfl:Pa av=true) (hv:∀o,VR F w.heap.size w o av v)
   (t:vs.length=ps.length/\(∀b,io=some b->∃s,ra ps (i+1)=some s/\i+1<=s/\s<i+1+vs.length/\vs[s - (i+1)]? = some (.pointer (some ⟨b,0,none⟩))/\b<w.heap.size)/\(io=none->ra ps (i+1)=none) /\
     ∀ n,ba (La ps x.2 (i+1)) n=.dead\/(i+1<=n/\Pa (ba (La ps x.2 (i+1)) n)=true/\∃v,vs[n - (i+1)]? = some v /\
       VR F w.heap.size w (oc (ra ps (i+1)) io n) (ba (La ps x.2 (i+1)) n) v))
   (he:La (p::ps) x i=(i,av)::La ps x.2 (i+1)) (hr:ra (p::ps) i=ra ps (i+1)) :
   (v::vs).length=(p::ps).length/\(∀b,io=some b->∃s,ra (p::ps) i=some s/\i<=s/\s<i+(v::vs).length/\(v::vs)[s - i]? = some (.pointer (some ⟨b,0,none⟩))/\b<w.heap.size)/\(io=none->ra (p::ps) i=none) /\
     ∀ n,ba (La (p::ps) x i) n=.dead\/(i<=n/\Pa (ba (La (p::ps) x i) n)=true/\∃u,(v::vs)[n - i]? = some u /\
       VR F w.heap.size w (oc (ra (p::ps) i) io n) (ba (La (p::ps) x i) n) u):=by
  obtain⟨t1,t2,t3,t4⟩:=t;refine⟨by simp[t1],λb hb=>?_,λh=>hr.trans (t3 h),λn=>?_⟩
  .obtain⟨s,s1,s2,s3,s4,s5⟩:=t2 b hb;exact⟨s,hr.trans s1,by omega,by simp only[List.length_cons];omega,by rw[show s - i=(s - (i+1))+1 by omega];simpa using s4,s5⟩
  .rw[he,hr];simp only[ba];cases hn:Nat.beq i n with
   |true=>
    have hh:=Nat.eq_of_beq_eq_true hn;subst hh;exact .inr ⟨Nat.le_refl _,hfl,v,by simp,hv _⟩
   |false=>
    have hi:i≠n:=λe=>by rw[e,Nat.beq_refl]at hn;cases hn
    rcases t4 n with h|⟨h1,h2,u,h3,h4⟩
    .exact .inl h
    .exact .inr ⟨by omega,h2,u,by rw[show n - i=(n - (i+1))+1 by omega];simpa using h3,h4⟩
def bc(tt:TT)(e:Env):ResultVar->AV
 |.tmp t=>ba e t
 |.cell a ty=>match lk tt ty,ba e a with
  |some d,.box cs=>match isAgg d with
   |false=>match cs with
    |[(k,c)]=>.v k c
    |_=>.dead
   |true=>match rb cs,Nat.beq cs.length d.size with
    |some (f,l),true=>.agg f l
    |_,_=>.dead
  |_,_=>.dead
def Gb:K->AV->Option AV
 |.sh,a=>Nb .sh a
 |.fr,a=>Nb .fr a
 |.acc f,a=>Nb (.acc f) a
 |.own f,.v (.own f') c=>match leB f f' with
  |true=>some (.v (.own f) c)
  |false=>none
 |_,_=>none
def ji(f:Bool)(a:AV):Option PV:=
 match Gb (frK f) a with
 |some (.v _ c)=>some ⟨f,false,[c]⟩
 |some (.agg _ cs)=>some ⟨f,true,cs⟩
 |_=>none
def Po:AV->Option AV
 |.box [(k,.lst .byte b),(_,.int .i64 p)]=>match k with
  |.own _=>none
  |_=>some (.box [(.sh,.lst .byte b),(.fr,.int .i64 p)])
 |_=>none
def fe(tt:TT)(e:Env):List ResultVar->List (Bool×PT)->Option (List PV)
 |[],[]=>some []
 |v::vs,(f,_)::ps=>match ji f (bc tt e v),fe tt e vs ps with
  |some p,some l=>some (p::l)
  |_,_=>none
 |_,_=>none
def xd(tt:TT)(e:Env)(vs:List ResultVar):RT->Option AV
 |.one k _=>match vs with
  |[v]=>Gb k (bc tt e v)
  |_=>none
 |.rdr=>match vs with
  |[v]=>Po (bc tt e v)
  |_=>none
 |.tup l=>match vs with
  |[_]=>none
  |vs=>match fe tt e vs l with
   |some ps=>some (.tup ps)
   |none=>none
def Cc(tmps:Array Value):ResultVar->Sem Value
 |.tmp t=>pure (tmps.getD t undef)
 |.cell a t=>do loadVar t (<-asAddr (tmps.getD a undef))
theorem qu(fn:Func)(tmps:Array Value):results fn tmps=(do let vs <-fn.results.mapM (Cc tmps);pure (if h:vs.size=1 then vs[0] else .tuple vs)):=by
 have h:(λv:ResultVar=>match v with|.tmp t=>(pure (tmps.getD t undef):Sem Value)|.cell a t=>do loadVar t (<-asAddr (tmps.getD a undef)))=Cc tmps:=by
  funext v
  cases v<;>rfl
 unfold results;rw[<-h];rfl
theorem mapM_ok{P:Program}{w:World}{tmps:Array Value}:∀ {rs:List ResultVar}{vs:List Value},rs.length=vs.length->(∀(j:Nat) (rv:ResultVar) (v:Value),rs[j]? = some rv->vs[j]? = some v->(Cc tmps rv).run P w=.ok v w) ->
  (rs.mapM (Cc tmps)).run P w=.ok vs w
 |[],[],_,_=>rfl
 |rv::rs,v::vs,hl,h=>by
  have h0:=h 0 rv v rfl rfl;have ih:=mapM_ok (rs:=rs) (vs:=vs) (by simpa using hl) (λj rv v hr hv=>h (j+1) rv v (by simpa using hr) (by simpa using hv));simp[List.mapM_cons,h0,ih]
def Tl:List Value->Value
 |[v]=>v
 |vs=>.tuple vs.toArray
theorem Qo{P:Program}{w:World}{fn:Func}{tmps:Array Value}{rs:List ResultVar}(hr:fn.results=rs.toArray){vs:List Value}(hl:rs.length=vs.length)
  (h:∀(j:Nat) (rv:ResultVar) (v:Value),rs[j]? = some rv->vs[j]? = some v->(Cc tmps rv).run P w=.ok v w):(results fn tmps).run P w=.ok (Tl vs) w:=by
 rw[qu,hr];have hm:=mapM_ok hl h
 have hh:(rs.toArray.mapM (Cc tmps)).run P w=.ok vs.toArray w:=by
  rw[List.mapM_toArray];simp[hm]
 simp only[Sem.run_bind,hh,Result.andThen_ok,Sem.run_pure]
 match vs with
 |[]=>rfl
 |[v]=>rfl
 |v::u::vs=>simp[Tl]
section
variable {P:Program}{tt:TT}{B:Nat}{IoB:List Nat}{F0 F:Fz}{e:Env}{w:World}{ow:Nat->Option Nat->Option Nat}{a:Act}
theorem Ul{o:Option Nat->Option Nat}{k:K}{av av':AV}{v:Value}(h:Gb k av=some av')(hv:VR F B w o av v):VR F B w o av' v:=by
 cases k with
 |sh=>exact ei h hv
 |fr=>exact ei h hv
 |acc f=>exact ei h hv
 |own f=>
  cases av with
  |v k' c=>
   cases k' with
   |own f'=>
    simp only[Gb]at h;split at h
    .rename_i hf;cases h;rcases hv with h|⟨t,xs,b,cap,cs,vs,e1,e2,e3,e4,e5,hh,e6,e7,e8,e9⟩
     .exact .inl h
     exact .inr ⟨t,xs,b,cap,cs,vs,e1,e2,e3,e4,e5,hh,Nat.le_trans (by cases f<;>cases f'<;>simp[lof,leB]at hf⊢) e6,e7,e8,λi j x c hx hc=>RC.lower (e9 i j x c hx hc) hf⟩
    .cases h
   |_=>simp[Gb]at h
  |_=>simp[Gb]at h
theorem Ro(htt:Ya P tt)(hx:fa B IoB F0 e (λn=>a.tmps.getD n undef) w F ow)(hown:∀s i b,ow s i=some b->b∈IoB->i=none/\a.tmps.getD s undef=.pointer (some ⟨b,0,none⟩)){rv:ResultVar}(hd:Pa (bc tt e rv)=true)(hnd:wa (bc tt e rv)=false) :
  ∃v o,(Cc a.tmps rv).run P w=.ok v w/\VR F B w o (bc tt e rv) v/\(∀i b,o i=some b->b<w.heap.size/\(B<=b\/(b∈IoB/\i=none/\v=.pointer (some ⟨b,0,none⟩))))/\(∀i i' b,o i=some b->o i'=some b->i=i'):=by
 have hh:∀s i b,ow s i=some b->b<w.heap.size/\(B<=b\/(b∈IoB/\i=none/\a.tmps.getD s undef=.pointer (some ⟨b,0,none⟩))):=λs i b h=>⟨(hx.bd s i b h).1,(hx.bd s i b h).2.imp_right λhm=>⟨hm,hown s i b h hm⟩⟩;cases rv with
 |tmp t=>
  have hq:=hx.sr t;have ho:Pa (ba e t)=true:=hd;rw[Bc ho]at hq;exact⟨a.tmps.getD t undef,ow t,rfl,hq,λi b h=>hh _ _ _ h,λi i' b h h'=>(hx.inj _ _ _ _ _ h h').2⟩
 |cell ad ty=>
  simp only[bc]at hd hnd⊢;cases hlk:lk tt ty with
  |none=>rw[hlk]at hnd;simp[wa]at hnd
  |some d=>
   have hn:=htt.td _ _ hlk;rw[hlk]at hd hnd;cases hg:ba e ad with
   |box cs=>
    rw[hg]at hd hnd;simp only[]at hd hnd⊢;obtain⟨b,vs,q1,q2,q3,q4,q5,q6⟩:=hx.box hg;have q1:a.tmps.getD ad undef=.pointer (some ⟨b,0,none⟩):=q1
    have hp:∀ {v:Value},(loadVar ty ⟨b,0,none⟩).run P w=.ok v w->(Cc a.tmps (.cell ad ty)).run P w=.ok v w:=by
     intro v h;simp only[Cc,q1,asAddr,Sem.run_bind,Sem.run_pure,Result.andThen_ok,h]
    cases hag:isAgg d with
    |false=>
     rw[hag]at hd hnd
     match cs,q5,q6 with
     |[(k,c)],q5,q6=>
      match vs,q5 with
      |[u],_=>
       have hi:=q6 0 (k,c) u rfl rfl;have hj:w.cell? ⟨b,0,none⟩=some u:=by rw[q3.cell];rfl
       refine⟨u,λi=>match i with|none=>ow ad (some 0)|some _=>none,hp ?_,?_,λi b' h=>?_,λi i' b' h h'=>?_⟩
       .have hl:=Hh hn hag (w:=w) hj;simpa [Instr.loadAt,Instr.sureAddr] using hl
       .cases k with
        |sh=>exact hi
        |fr=>exact hi
        |acc f=>exact hi
        |own f=>exact hi.elim
       .cases i with
        |none=>have:=hh _ _ _ h;exact⟨this.1,this.2.imp_right (λh=>by cases h.2.1)⟩
        |some i=>cases h
       .cases i<;>cases i'<;>simp at h h'⊢
     |[],q5,q6=>simp[wa]at hnd
     |_::_::_,q5,q6=>simp[wa]at hnd
    |true=>
     rw[hag]at hd hnd;simp only[]at hd hnd⊢;cases hbr:rb cs with
     |none=>rw[hbr]at hnd;simp[wa]at hnd
     |some q=>
      obtain⟨f,l⟩:=q;cases hsz:Nat.beq cs.length d.size with
      |false=>rw[hbr,hsz]at hnd;simp[wa]at hnd
      |true=>
       rw[hbr,hsz]at hd hnd;simp only[]at hd hnd⊢;have hl:=Gh hn hag (w:=w) (b:=b) (o:=0) (us:=vs) (q5.trans (Nat.eq_of_beq_eq_true hsz)) (λj u hu=>by rw[Nat.zero_add,q3.cell];exact hu);refine⟨.agg vs.toArray,λ_=>none,hp ?_,⟨vs,rfl,?_⟩,λi b' h=>by simp at h,λi i' b' h h'=>by simp at h⟩
       .simpa [Instr.loadAt,Instr.sureAddr] using hl
       .exact gl (ow:=λi=>match i with|some p=>ow ad (some p)|none=>none) (p:=0) q5.symm (λj kc u hk hu=>by simpa using q6 j kc u hk hu) hbr
   |_=>rw[hg]at hnd;simp[wa]at hnd
theorem ru{o:Option Nat->Option Nat}{f:Bool}{av:AV}{p:PV}{v:Value}(h:ji f av=some p)(hv:VR F B w o av v):PVR F B w p v:=by
 unfold ji at h;split at h
 .rename_i k c hk;have h1:=Ul hk hv;simp only[Option.some.injEq]at h;subst h
  have hh:k=frK f:=by
   cases f<;>cases av with
   |v k' c'=>cases k'<;>simp[Gb,frK,Nb]at hk<;>(try split at hk)<;>simp_all [frK]
   |_=>simp[Gb,frK,Nb]at hk<;>(try split at hk)<;>simp_all
  subst hh;cases f<;>exact h1
 .rename_i f' cs hk;have h1:=Ul hk hv;simp only[Option.some.injEq]at h;subst h
  have hh:f'=f:=by
   cases f<;>cases av with
   |agg f2 c'=>cases f2<;>simp[Gb,frK,Nb]at hk<;>simp_all
   |v k' c'=>cases k'<;>simp[Gb,frK,Nb]at hk<;>(try split at hk)<;>simp_all
   |_=>simp[Gb,frK,Nb]at hk
  subst hh;exact h1
 .cases h
theorem Vl{k:K}{b av:AV}(h:Gb k b=some av):Pa b=true/\wa b=false:=by
 cases b with
 |v k c=>exact⟨rfl,rfl⟩
 |agg f c=>exact⟨rfl,rfl⟩
 |_=>cases k<;>simp[Gb,Nb]at h
theorem So(htt:Ya P tt)(hx:fa B IoB F0 e (λn=>a.tmps.getD n undef) w F ow)(hown:∀s i b,ow s i=some b->b∈IoB->i=none/\a.tmps.getD s undef=.pointer (some ⟨b,0,none⟩)):∀ {rs:List ResultVar}{l:List (Bool×PT)}{ps:List PV},fe tt e rs l=some ps ->
  ∃vs:List Value,rs.length=vs.length/\(∀(j:Nat) (rv:ResultVar) (v:Value),rs[j]? = some rv->vs[j]? = some v->(Cc a.tmps rv).run P w=.ok v w)/\vb F B w ps vs
 |[],[],ps,h=>by simp only[fe,Option.some.injEq]at h;subst h;exact⟨[],rfl,λj rv v h=>by simp at h,.nil⟩
 |[],_::_,ps,h=>by simp[fe]at h
 |_::_,[],ps,h=>by simp[fe]at h
 |rv::rs,(f,pt)::l,ps,h=>by
  simp only[fe]at h;split at h
  .rename_i p ps' hp hps;simp only[Option.some.injEq]at h;subst h
   have hlv:Pa (bc tt e rv)=true/\wa (bc tt e rv)=false:=by
    unfold ji at hp;split at hp
    .rename_i hk;exact Vl hk
    .rename_i hk;exact Vl hk
    .cases hp
   obtain⟨v,o,h1,h2,_,_⟩:=Ro htt hx hown hlv.1 hlv.2;obtain⟨vs,g1,g2,g3⟩:=So htt hx hown hps;refine⟨v::vs,by simp[g1],λj rv' v' hr hv=>?_,.cons (ru hp h2) g3⟩;cases j with
   |zero=>simp at hr hv;subst hr;subst hv;exact h1
   |succ j=>exact g2 j rv' v' (by simpa using hr) (by simpa using hv)
  .cases h
def je:RT->Bool
 |.rdr=>true
 |_=>false
theorem su{o:Option Nat->Option Nat}{k:K}{c:C}{v:Value}(h:VR F B w o (.v k c) v)(p:Option Addr):v≠.pointer p:=by
 have rc:∀ {lo:Nat}{c:C},RC F lo w c v->v≠.pointer p:=λh=>by cases h<;>simp
 cases k with
 |sh=>exact rc h
 |fr=>exact rc h
 |acc f=>exact rc h.1
 |own f=>rcases h with⟨t,e1,e2⟩|⟨t,xs,b,cap,cs,vs,e1,e2,_⟩<;>(rw[e2];simp)
theorem tu{o:Option Nat->Option Nat}{k:K}{av av':AV}{v:Value}(h:Gb k av=some av')(hv:VR F B w o av v)(p:Option Addr):v≠.pointer p:=by
 cases av with
 |v k c=>exact su hv p
 |agg f c=>obtain⟨vs,rfl,_⟩:=hv;simp
 |_=>cases k<;>simp[Gb,Nb]at h
theorem vu(htt:Ya P tt)(hx:fa B IoB F0 e (λn=>a.tmps.getD n undef) w F ow)(hown:∀s i b,ow s i=some b->b∈IoB->i=none/\a.tmps.getD s undef=.pointer (some ⟨b,0,none⟩)){fn:Func}{rs:List ResultVar}(hrs:fn.results=rs.toArray){rt:RT}(hio:je rt=true->IoB=[]){x:rt.T}(h:xd tt e rs rt=some (rt.av x)) :
  ∃v o,(results fn a.tmps).run P w=.ok v w/\VR F B w o (rt.av x) v/\(∀i b,o i=some b->B<=b/\b<w.heap.size)/\(∀i i' b,o i=some b->o i'=some b->i=i'):=by
 have hh:∀ {rv:ResultVar},rs=[rv]->Pa (bc tt e rv)=true->wa (bc tt e rv)=false->∃v o,(results fn a.tmps).run P w=.ok v w/\VR F B w o (bc tt e rv) v/\(∀i b,o i=some b->b<w.heap.size/\(B<=b\/(b∈IoB/\i=none/\v=.pointer (some ⟨b,0,none⟩))))/\(∀i i' b,o i=some b->o i'=some b->i=i'):=by
  intro rv hl hf hd;subst hl;obtain⟨v,o,h1,h2,h3,h4⟩:=Ro htt hx hown hf hd
  have hj:=Qo (P:=P) (w:=w) (tmps:=a.tmps) hrs (vs:=[v]) rfl (λj rv' v' hr hv=>by
   cases j with
   |zero=>simp at hr hv;subst hr;subst hv;exact h1
   |succ j=>simp at hr)
  exact⟨v,o,hj,h2,h3,h4⟩
 cases rt with
 |one k p=>
  simp only[xd]at h;split at h
  .rename_i rv;obtain⟨l1,l2⟩:=Vl h;obtain⟨v,o,h1,h2,h3,h4⟩:=hh rfl l1 l2;exact⟨v,o,h1,Ul h h2,λi b hb=>⟨(h3 i b hb).2.elim id (λhp=>absurd hp.2.2 (tu h h2 _)),(h3 i b hb).1⟩,h4⟩
  .cases h
 |rdr=>
  simp only[xd]at h;split at h
  .rename_i rv;unfold Po at h;split at h
   .rename_i k b k2 p hr;obtain⟨v,o,h1,h2,h3,h4⟩:=hh rfl (by rw[hr];rfl) (by rw[hr];rfl);rw[hr]at h2;obtain⟨b',vs,e1,e2,e3,e4,e5,e6⟩:=h2;refine⟨v,o,h1,?_,λi b hb=>⟨(h3 i b hb).2.elim id (λhp=>absurd hp.1 (by rw[hio rfl];simp)),(h3 i b hb).1⟩,h4⟩;split at h
    .cases h
    .simp only[Option.some.injEq]at h;rw[<-h];refine⟨b',vs,e1,e2,e3,e4,e5,λj kc u hk hu=>?_⟩
     match j,hk,hu with
     |0,hk,hu=>
      simp only[List.getElem?_cons_zero,Option.some.injEq]at hk;subst hk;have:=e6 0 _ u rfl hu;cases k with
      |sh=>exact this
      |fr=>exact RC.lo0 this
      |acc f=>exact RC.lo0 this.1
      |own f=>exact this.elim
     |1,hk,hu=>
      simp only[List.getElem?_cons_succ,List.getElem?_cons_zero,Option.some.injEq]at hk;subst hk;have:=e6 1 _ u rfl hu
      have hi:∃lo,RC F lo w (.int .i64 p) u:=by
       cases k2 with
       |sh=>exact⟨_,this⟩
       |fr=>exact⟨_,this⟩
       |acc f=>exact⟨_,this.1⟩
       |own f=>exact this.elim
      obtain⟨lo,hi⟩:=hi;cases hi;exact RC.int _ _
     |j+2,hk,hu=>simp at hk
   .cases h
  .cases h
 |tup l=>
  simp only[xd]at h;split at h
  .cases h
  .rename_i hne;split at h
   .rename_i ps hps;simp only[Option.some.injEq]at h;obtain⟨vs,g1,g2,g3⟩:=So htt hx hown hps;have hj:=Qo (P:=P) (w:=w) (tmps:=a.tmps) hrs g1 g2
    have hm:Tl vs=.tuple vs.toArray:=by
     match vs,g1 with
     |[],_=>rfl
     |[v],g1=>
      match rs,g1 with
      |[r],_=>exact absurd rfl (hne r)
     |_::_::_,_=>rfl
    rw[hm]at hj;refine⟨_,λ_=>none,hj,?_,λi b h=>by simp at h,λi i' b h h'=>by simp at h⟩;rw[<-h];exact⟨vs,rfl,g3⟩
   .cases h
end
def me(pts:List PT)(x:va pts)(p:Int)(e:Env):Prop:=
 match ra pts 0,rdB pts x with
 |some k,some bs=>ba e k=.box [(.sh,.lst .byte bs),(.fr,.int .i64 p)]
 |_,_=>True
theorem oe:∀ {ps:List PT}{i s:Nat},ra ps i=some s->∀x:va ps,∃bs,rdB ps x=some bs
 |[],_,_,h,_=>by cases h
 |.rdr::_,_,_,_,x=>⟨x.1.1,rfl⟩
 |.int _::_,_,_,h,x=>oe (show ra _ (_+1)=some _ from h) x.2
 |.bool::_,_,_,h,x=>oe (show ra _ (_+1)=some _ from h) x.2
 |.str::_,_,_,h,x=>oe (show ra _ (_+1)=some _ from h) x.2
 |.lst _::_,_,_,h,x=>oe (show ra _ (_+1)=some _ from h) x.2
 |.st _::_,_,_,h,x=>oe (show ra _ (_+1)=some _ from h) x.2
def dg(tt:TT)(rs:List ResultVar)(s:Spec)(x:va s.pts)(e:Env):Prop:=xd tt e rs s.rt=some (s.rt.av (s.val x).1)/\me s.pts x (s.val x).2 e
theorem Se{F:Fz}{w:World}:∀ {ps:List PT}{x:va ps}{vs:List Value}{io:Option Nat},Mb F w ps x vs io->∀b,io=some b->∀o,¬ F b o
 |[],_,_,_,h,b,hb,_=>by rw[h.2]at hb;cases hb
 |.rdr::_,_,_,_,h,b,hb,o=>by obtain⟨b',_,_,_,e,_,_,hf,_⟩:=h;rw[e]at hb;cases hb;exact hf o
 |.int _::_,_,_,_,h,b,hb,o=>by obtain⟨_,_,_,_,h⟩:=h;exact Se h b hb o
 |.bool::_,_,_,_,h,b,hb,o=>by obtain⟨_,_,_,_,h⟩:=h;exact Se h b hb o
 |.str::_,_,_,_,h,b,hb,o=>by obtain⟨_,_,_,_,h⟩:=h;exact Se h b hb o
 |.lst _::_,_,_,_,h,b,hb,o=>by obtain⟨_,_,_,_,h⟩:=h;exact Se h b hb o
 |.st _::_,_,_,_,h,b,hb,o=>by obtain⟨_,_,_,_,h⟩:=h;exact Se h b hb o
theorem wu{pts:List PT}{x:va pts}{F:Fz}{w:World}{vs:List Value}{io:Option Nat}{nt:Nat}(ks:List Nat)(hl:Live F w)(hargs:Mb F w pts x vs io)(hvl:vs.length<=nt) :
  Sim ⟨nt,ra pts 0,ks.map λn=>(n,vs.getD n undef)⟩ w.heap.size io.toList w F (La pts x 0) { tmps:=vs.toArray++Array.replicate (nt - vs.toArray.size) undef,defers:=[] } w:=by
 obtain⟨t1,t2,t3,t4⟩:=vd 0 hargs
 have hi:∀n,((vs.toArray++Array.replicate (nt - vs.toArray.size) undef).getD n undef)=vs.getD n undef:=by
  intro n;rw[Array.getD_eq_getD_getElem?,List.getD_eq_getElem?_getD];by_cases hn:n<vs.length
  .rw[Array.getElem?_append_left (by simpa using hn)];simp
  .rw[Array.getElem?_append_right (by simpa using Nat.le_of_not_lt hn),List.getElem?_eq_none (by omega)];by_cases h2:n - vs.length<nt - vs.length
   .simp[h2]
   .simp[h2]
 have hj:∀s' i b,oc (ra pts 0) io s' i=some b->i=none/\ra pts 0=some s'/\io=some b:=by
  intro s' i b hb;cases i with
  |some i=>simp[oc]at hb
  |none=>
   simp only[oc]at hb;split at hb
   .rename_i s2 hs2;split at hb
    .rename_i hbq;exact⟨rfl,by rw[hs2,Nat.eq_of_beq_eq_true hbq],hb⟩
    .cases hb
   .cases hb
 have hh:∀b o,F b o->b ∉ io.toList:=λb o hF hb=>by
  have hb:io=some b:=by cases io<;>simp at hb⊢;exact hb.symm
  exact Se hargs b hb o hF
 refine⟨rfl,⟨by simp;omega,λs' hk b hb=>?_,(λp hp=>by obtain⟨n,_,rfl⟩:=List.mem_map.mp hp;exact hi n)⟩,Nat.le_refl _,(λb o h=>⟨hl.lt h,hh b o h⟩),Kept.refl _ _ _,F,oc (ra pts 0) io,⟨λ_ _ h=>h,λ_ _ h=>.inl h,hl,λs1 i s2 i' b h h'=>?_,λs1 i b h=>?_,λn=>?_⟩⟩
 .have hb:io=some b:=by cases io<;>simp at hb⊢;exact hb.symm
  obtain⟨s2,h1,h2,h3,h4,_⟩:=t2 b hb;have hk:ra pts 0=some s':=hk;rw[h1]at hk;cases hk;simp only[hi];rw[Nat.sub_zero]at h4;rw[List.getD_eq_getElem?_getD,h4];rfl
 .obtain⟨a1,a2,_⟩:=hj _ _ _ h;obtain⟨b1,b2,_⟩:=hj _ _ _ h';rw[a2]at b2;cases b2;exact⟨rfl,by rw[a1,b1]⟩
 .obtain⟨a1,a2,a3⟩:=hj _ _ _ h;obtain⟨s2,h1,h2,h3,h4,h5⟩:=t2 b a3;rw[a2]at h1;cases h1;exact⟨h5,.inr (by rw[a3];simp)⟩
 .rcases t4 n with h|⟨_,h2,v,h3,h4⟩
  .rw[h];trivial
  .rw[Bc h2];simp only[hi];rw[Nat.sub_zero]at h3;rw[List.getD_eq_getElem?_getD,h3];exact h4
theorem xu{P:Program}{tt:TT}(ks:List Nat)(htt:Ya P tt){f:Nat}{s:Spec}{fn:Func}{c:Code}(hf:P.funcs[f]? = some fn)(hname:(fn.name == "runtime.NumGoroutine")=false)(hc:fn.body=some c){rs:List ResultVar}(hrs:fn.results=rs.toArray)
  (hlen:Nat.ble s.pts.length fn.ntmps=true) (hno:je s.rt=true->ra s.pts 0=none)
  (h:∀x:va s.pts,s.pre x->∀fr:Fr,fr.B=fr.W0.heap.size->Live fr.F0 fr.W0->(ra s.pts 0=none->fr.IoB=[])->∀vs io,Mb fr.F0 fr.W0 s.pts x vs io->Ht P ⟨fn.ntmps,ra s.pts 0,ks.map λn=>(n,vs.getD n undef)⟩ fr c (La s.pts x 0) (dg tt rs s x) (dg tt rs s x) (λ_ _=>False)):Con P f s:=by
 refine⟨⟨fn,hf,hname,by rw[hc];rfl⟩,λx hp w F vs io hl hargs=>?_⟩;obtain⟨t1,t2,t3,t4⟩:=vd 0 hargs;have hy:vs.length<=fn.ntmps:=by rw[t1];exact Nat.le_of_ble_eq_true hlen
 refine calls_of_wp hf hc ?_;have hw:=wu (nt:=fn.ntmps) ks hl hargs hy
 refine wp_mono (h x hp ⟨w.heap.size,io.toList,w,F⟩ rfl hl (λhn=>by
  cases io with
  |none=>rfl
  |some b=>obtain⟨s2,q1,_⟩:=t2 b rfl;rw[hn]at q1;cases q1) vs io hargs _ _ hw) ?_
 rintro ex a w' ⟨e',hv,ht⟩
 have hj:dg tt rs s x e'->a.defers=[]/\∃v,(results fn a.tmps).run P w'=.ok v w'/\ko s x F w io (.returned v) w':=by
  rintro⟨hr,hu⟩;obtain⟨F',hz,hx⟩:=hv.rep
  have ho:∀b,io=some b->∃s2,ra s.pts 0=some s2/\hz s2 none=some b/\a.tmps.getD s2 undef=.pointer (some ⟨b,0,none⟩):=λb hb=>by
   obtain⟨s2,q1,_⟩:=t2 b hb;obtain⟨bs,hi⟩:=oe q1 x
   have hu:ba e' s2=.box [(.sh,.lst .byte bs),(.fr,.int .i64 (s.val x).2)]:=by
    unfold me at hu;rw[q1,hi]at hu;exact hu
   obtain⟨b',us,e1,e2,_⟩:=hx.box hu;have hp:=hv.tmps.rd s2 q1 b (by rw[hb];simp);have e1:a.tmps.getD s2 undef=.pointer (some ⟨b',0,none⟩):=e1;have hh:b'=b:=by rw[hp]at e1;simpa using e1.symm
   exact⟨s2,q1,by rw[<-hh];exact e2,hp⟩
  have hs:∀s1 i b,hz s1 i=some b->b∈io.toList->i=none/\a.tmps.getD s1 undef=.pointer (some ⟨b,0,none⟩):=λs1 i b h1 hb=>by
   obtain⟨s2,_,q2,q3⟩:=ho b (by cases io<;>simp at hb⊢;exact hb.symm);obtain⟨rfl,rfl⟩:=hx.inj _ _ _ _ _ h1 q2;exact⟨rfl,q3⟩
  obtain⟨v,o,h1,h2,h3,h4⟩:=vu htt hx hs hrs (λhr=>by
   cases io with
   |none=>rfl
   |some b=>obtain⟨s2,q1,_⟩:=t2 b rfl;rw[hno hr]at q1;cases q1) hr
  have hq:∀b o,F' b o->F b o\/w.heap.size<=b:=λb o h=>by
   rcases hx.new b o h with h1|h1|hm
   .exact .inl h1
   .exact .inr h1
   .cases io with
    |none=>simp at hm
    |some b2=>
     simp at hm;subst hm;obtain⟨s2,q1,q2,_⟩:=ho b rfl;obtain⟨bs,hi⟩:=oe q1 x
     have hu:ba e' s2=.box [(.sh,.lst .byte bs),(.fr,.int .i64 (s.val x).2)]:=by
      unfold me at hu;rw[q1,hi]at hu;exact hu
     obtain⟨b',us,_,e2,_,e4,_⟩:=hx.box hu;rw[q2]at e2;cases e2;exact absurd h (e4 o)
  refine⟨hv.defers,v,h1,v,F',o,rfl,⟨hv.kept.os,hv.kept.tape,hv.kept.output,hv.kept.size,λk hk hne=>hv.kept.block k hk (λhm=>hne ?_),hx.sub,hq,hx.live⟩,h3,h4,h2,λb bs hb hi=>?_⟩
  .cases io with
   |none=>simp at hm
   |some b=>simp at hm;rw[hm]
  .subst hb;obtain⟨s2,q1,_⟩:=t2 b rfl
   have hu:ba e' s2=.box [(.sh,.lst .byte bs),(.fr,.int .i64 (s.val x).2)]:=by
    unfold me at hu;rw[q1,hi]at hu;exact hu
   obtain⟨b',us,e1,e2,e3,e4,e5,e6⟩:=hx.box hu;have hp:=hv.tmps.rd s2 q1 b (by simp);have e1:a.tmps.getD s2 undef=.pointer (some ⟨b',0,none⟩):=e1;rw[hp]at e1;have hh:b'=b:=by simpa using e1.symm
   subst hh
   match us,e5 with
   |[sl,u],_=>
    have g0:=e6 0 (.sh,.lst .byte bs) sl rfl rfl;have g1:RC F' w.heap.size w' (.int .i64 (s.val x).2) u:=e6 1 (.fr,.int .i64 (s.val x).2) u rfl rfl;cases g1;exact⟨sl,e3,g0⟩
 cases ex with
 |normal=>exact hj ht
 |ret=>exact hj ht
 |exit i=>exact ht.elim
 |_=>exact ht.elim
theorem To{P:Program}{tt:TT}(htt:Ya P tt){f:Nat}{s:Spec}{fn:Func}{c:Code}(hf:P.funcs[f]? = some fn)(hname:(fn.name == "runtime.NumGoroutine")=false)(hc:fn.body=some c){rs:List ResultVar}(hrs:fn.results=rs.toArray)
  (hlen:Nat.ble s.pts.length fn.ntmps=true) (hno:je s.rt=true->ra s.pts 0=none)
  (h:∀x:va s.pts,s.pre x->∀fr:Fr,fr.B=fr.W0.heap.size->Live fr.F0 fr.W0->(ra s.pts 0=none->fr.IoB=[])->Ht P ⟨fn.ntmps,ra s.pts 0,[]⟩ fr c (La s.pts x 0) (dg tt rs s x) (dg tt rs s x) (λ_ _=>False)):Con P f s:=by
 exact xu [] htt hf hname hc hrs hlen hno λx hp fr h1 h2 h3 _ _ _=>h x hp fr h1 h2 h3
def nav:Code->List Nat->Code
 |c,[]=>c
 |.seq a _,0::r=>nav a r
 |.seq _ b,_::r=>nav b r
 |.cond _ a _,0::r=>nav a r
 |.cond _ _ b,_::r=>nav b r
 |.block _ a,_::r=>nav a r
 |.loop a,_::r=>nav a r
 |c,_=>c
def dc(f:Func):Code:=
 match f.body with
 |some c=>c
 |none=>.skip
inductive Oc(A R X Y Z:Type) where
 |n (a:A)
 |r (q:R)
 |x (q:X)
 |y (q:Y)
 |z (q:Z)
instance {A R X Y Z:Type} [Inhabited R]:Inhabited (Oc A R X Y Z):=⟨.r default⟩
instance:Inhabited Ff:=⟨⟨0,0⟩⟩
instance:Inhabited Row:=⟨⟨0,0,⟨0,0⟩,0⟩⟩
instance:Inhabited Item:=⟨⟨0,0,0⟩⟩
instance:Inhabited Plan:=⟨⟨0,0,[]⟩⟩
instance:Inhabited yk:=⟨⟨⟨0,0,[]⟩,[],[],[]⟩⟩
def ocR{R:Type}:Oc Empty R Empty Empty Empty->R
 |.r q=>q
 |.n q=>q.elim
 |.x q=>q.elim
 |.y q=>q.elim
 |.z q=>q.elim
def Ia{A R X Y Z:Type}:Oc A R X Y Z->Lp A (Oc Empty R X Y Z)
 |.n a=>.go a
 |.r q=>.out (.r q)
 |.x q=>.out (.x q)
 |.y q=>.out (.y q)
 |.z q=>.out (.z q)
def ya(e e':Env):Prop:=∀(N:NP) (B:Nat) (IoB:List Nat) (W0:World) (F0:Fz) (a:Act) (w:World),Sim N B IoB W0 F0 e a w->Sim N B IoB W0 F0 e' a w
theorem ya.trans{e e' e'':Env}(h:ya e e')(h':ya e' e''):ya e e'':=λN B IoB W0 F0 a w hs=>h' N B IoB W0 F0 a w (h N B IoB W0 F0 a w hs)
theorem ya.refl(e:Env):ya e e:=λ_ _ _ _ _ _ _ h=>h
theorem ya.cast{e e':Env}{pat:List (Nat×Tk)}(hf:ce e=true)(h:ud e pat=some e'):ya e e':=λ_ _ _ _ _ _ _ hs=>by
 obtain⟨F,ow,hx⟩:=hs.rep;exact⟨hs.defers,hs.tmps,hs.base,hs.f0,hs.kept,F,ow,hx.cast (fi hf) h⟩
theorem ya.freeze(e:Env)(s:Nat):ya e (de e s):=λ_ _ _ _ _ _ _ hs=>by
 obtain⟨F,ow,hx⟩:=hs.rep;obtain⟨F',hi,hh⟩:=hx.freeze (Nat.le_trans hs.base hs.kept.size) s;exact⟨hs.defers,hs.tmps,hs.base,hs.f0,hs.kept,F',hi,hh⟩
section
variable {P:Program}{tt:TT}{N:NP}{fr:Fr}{c:Code}{e:Env}{n r:Env->Prop}{x:Nat->Env->Prop}
theorem Ht.weak{e':Env}(h:ya e e')(hc:Ht P N fr c e' n r x):Ht P N fr c e n r x:=λa w hs=>hc a w (h _ _ _ _ _ _ _ hs)
theorem Ht.loopOc{A R X Y Z:Type}[Inhabited R]{c1:Code}(hc:c=.loop c1)(I:A->Env)(B:A->Oc A R X Y Z){ob:A->Prop}{s0:A}(hT:LpT (λs=>Ia (B s)) ob s0)
  {RP:R->Env->Prop}{XP:Nat->X->Env->Prop}{YP:Nat->Y->Env->Prop}{ZP:Nat->Z->Env->Prop}
  (hround:∀s,ob s->Ht P N fr c1 (I s) (λe=>∃s',B s=.n s'/\ya e (I s')) (λe=>∃q,B s=.r q/\RP q e)
    (λi e=>(∃q,B s=.x q/\XP i q e)\/(∃q,B s=.y q/\YP i q e)\/∃q,B s=.z q/\ZP i q e))
  (hr:∀q e,lpV (λs=>Ia (B s)) s0=.r q->RP q e->r e) (hx:∀i q e,lpV (λs=>Ia (B s)) s0=.x q->XP i q e->x i e)
  (hy:∀i q e,lpV (λs=>Ia (B s)) s0=.y q->YP i q e->x i e) (hz:∀i q e,lpV (λs=>Ia (B s)) s0=.z q->ZP i q e->x i e):Ht P N fr c (I s0) n r x:=by
 subst hc;intro a w hs;obtain⟨k0,hh⟩:=hT.count;refine Mo (σ:=Nat×A) (λks a w=>LpN (λs=>Ia (B s)) ob ks.1 ks.2/\(∀q,LpR (λs=>Ia (B s)) ks.2 q->LpR (λs=>Ia (B s)) s0 q)/\Sim N fr.B fr.IoB fr.W0 fr.F0 (I ks.2) a w) (·.1) ?_ (k0,s0) ⟨hh,λ_ h=>h,hs⟩;rintro⟨k,s⟩ a w ⟨hk,hq,hj⟩;have hk:LpN (λs=>Ia (B s)) ob k s:=hk;have ho:ob s:=by cases hk<;>assumption
 refine wp_mono (hround s ho a w hj) ?_;rintro ex a w ⟨e',hi,hp⟩;cases ex with
 |normal=>
  obtain⟨s',hl,hw⟩:=hp;have hm:Ia (B s)=.go s':=by rw[hl];rfl
  cases hk with
  |out _ h=>have h:Ia (B s)=_:=h;rw[hm]at h;cases h
  |go _ h hk'=>
   have h:Ia (B s)=_:=h;rw[hm]at h;cases h;exact⟨(_,s'),Nat.lt_succ_self _,hk',λq h=>hq q (.go hm h),hw _ _ _ _ _ _ _ hi⟩
 |ret=>
  obtain⟨q,hl,h⟩:=hp;exact⟨e',hi,hr q e' (hq _ (.out (by show Ia (B s)=_;rw[hl];rfl))).val h⟩
 |exit i=>
  refine⟨e',hi,?_⟩;rcases hp with⟨q,hl,h⟩|⟨q,hl,h⟩|⟨q,hl,h⟩
  .exact hx i q e' (hq _ (.out (by show Ia (B s)=_;rw[hl];rfl))).val h
  .exact hy i q e' (hq _ (.out (by show Ia (B s)=_;rw[hl];rfl))).val h
  .exact hz i q e' (hq _ (.out (by show Ia (B s)=_;rw[hl];rfl))).val h
 |_=>exact hp.elim
end
abbrev AV.S(t:Ty)(x:List t.T):AV:=.v .sh (.lst t x)
abbrev AV.A(t:Ty)(x:List t.T):AV:=.v (.acc true) (.lst t x)
abbrev AV.I(n:Int):AV:=.v .fr (.int .i64 n)
abbrev AV.O(b:Bool):AV:=.v .fr (.bool b)
abbrev C.i(n:Int):C:=.int .i64 n
abbrev RV:=Option AV×AV
structure Fnn where
 rs:List ResultVar
 rt:RT
 rd:Option Nat
 fz:List Nat
structure Sa(R A X Y Z:Type) where
 o:Oc A R X Y Z
 ob:Prop
 path:List Nat
 env:Env
 rv:R->RV
 pn:A->Env
 px:X->Nat×Env
 py:Y->Nat×Env
 pz:Z->Nat×Env
class Dft (A:Type) where
 d:Option A
 h:d=none->A->False
instance:Dft Empty:=⟨none,λ_=>Empty.elim⟩
instance (priority:=low) {A:Type} [Inhabited A]:Dft A:=⟨some default,λh=>by cases h⟩
structure mi(R:Type):Type 1 where
 {A:Type}
 {X:Type}
 {Y:Type}
 {Z:Type}
 [dA:Dft A]
 [dX:Dft X]
 [dY:Dft Y]
 [dZ:Dft Z]
 S:Sa R A X Y Z
abbrev LB:=List Int
abbrev LP:=List Plan
@[simp] theorem kB {p:Empty->Prop}:(∀q:Empty,p q)↔True:=⟨λ_=>trivial,λ_ q=>q.elim⟩
abbrev nE{α:Sort _}:Empty->α:=Empty.elim
inductive Tr(R A X Y Z:Type):Type 1 where
 |l (o:Oc A R X Y Z)
 |w (ps:List Prop) (t:Tr R A X Y Z)
 |c (b:Bool) (t f:Tr R A X Y Z)
 |k {α:Type} (a:α) (f:α->Tr R A X Y Z)
 |s {A' X' Y' Z':Type} [Dft A'] [Dft X'] [Dft Y'] [Dft Z'] (S:Sa R A' X' Y' Z') (n:A'->Tr R A X Y Z) (x:X'->Tr R A X Y Z) (y:Y'->Tr R A X Y Z) (z:Z'->Tr R A X Y Z)
abbrev Tr.sn{R A X Y Z A':Type}[Dft A'](S:Sa R A' Empty Empty Empty)(n:A'->Tr R A X Y Z):Tr R A X Y Z:=.s S n nE nE nE
abbrev Tr.sx{R A X Y Z X':Type}[Dft X'](S:Sa R Empty X' Empty Empty)(x:X'->Tr R A X Y Z):Tr R A X Y Z:=.s S nE x nE nE
abbrev TN(R:Type):=Tr R Empty Empty Empty Empty
abbrev TA(R A:Type):=Tr R A Empty Empty Empty
abbrev TX(R A X:Type):=Tr R A X Empty Empty
inductive TrE(R:Type):Type 1 where
 |n (e:Env)
 |r (v:RV)
 |x (i:Nat) (e:Env)
 |w (ps:List Prop) (t:TrE R)
 |c (b:Bool) (t f:TrE R)
 |s {A X Y Z:Type} (S:Sa R A X Y Z) (g:Option Env) (rv:R->RV) (n:A->TrE R) (x:X->TrE R) (y:Y->TrE R) (z:Z->TrE R)
 |bad
def lf{R A:Type}[Dft A](f:A->TrE R):A->TrE R:=match(Dft.d:Option A) with
 |some _=>f
 |none=>λ_=>.bad
section
variable {R A X Y Z:Type}
def Tr.val:Tr R A X Y Z->Oc A R X Y Z
 |.l o=>o
 |.w _ t=>t.val
 |.c b t f=>match b with
  |true=>t.val
  |false=>f.val
 |.k a f=>(f a).val
 |@Tr.s _ _ _ _ _ _ _ _ _ _ _ _ _ S n x y z=>match S.o with
  |.n q=>(n q).val
  |.r q=>.r q
  |.x q=>(x q).val
  |.y q=>(y q).val
  |.z q=>(z q).val
def Tr.ob:Tr R A X Y Z->Prop
 |.l _=>True
 |.w ps t=>ga ps/\t.ob
 |.c b t f=>(b=true->t.ob)/\(b=false->f.ob)
 |.k a f=>(f a).ob
 |@Tr.s _ _ _ _ _ _ _ _ _ _ _ _ _ S n x y z=>S.ob/\(∀q,S.o=.n q->(n q).ob)/\(∀q,S.o=.x q->(x q).ob)/\(∀q,S.o=.y q->(y q).ob)/\(∀q,S.o=.z q->(z q).ob)
def Tr.toE(rv:R->RV)(pn:A->Env)(px:X->Nat×Env)(py:Y->Nat×Env)(pz:Z->Nat×Env):Tr R A X Y Z->TrE R
 |.l o=>match o with
  |.n q=>.n (pn q)
  |.r q=>.r (rv q)
  |.x q=>.x (px q).1 (px q).2
  |.y q=>.x (py q).1 (py q).2
  |.z q=>.x (pz q).1 (pz q).2
 |.w ps t=>.w ps (t.toE rv pn px py pz)
 |.c b t f=>.c b (t.toE rv pn px py pz) (f.toE rv pn px py pz)
 |.k a f=>(f a).toE rv pn px py pz
 |@Tr.s _ _ _ _ _ _ _ _ _ dA dX dY dZ S n x y z=>.s S (some S.env) rv (@lf _ _ dA λq=>(n q).toE rv pn px py pz) (@lf _ _ dX λq=>(x q).toE rv pn px py pz) (@lf _ _ dY λq=>(y q).toE rv pn px py pz) (@lf _ _ dZ λq=>(z q).toE rv pn px py pz)
def TrE.H(n:Env->Prop)(r:RV->Prop)(x:Nat->Env->Prop):TrE R->Prop
 |.n e=>n e
 |.r v=>r v
 |.x i e=>x i e
 |.w ps t=>ga ps/\t.H n r x
 |.c b t f=>(b=true->t.H n r x)/\(b=false->f.H n r x)
 |.s S g rv kn kx ky kz=>g=some S.env/\S.ob/\(∀q,S.o=.n q->(kn q).H n r x)/\(∀q,S.o=.r q->r (rv q))/\(∀q,S.o=.x q->(kx q).H n r x)/\(∀q,S.o=.y q->(ky q).H n r x)/\(∀q,S.o=.z q->(kz q).H n r x)
 |.bad=>False
end
def fp:List C->Bool
 |[]=>false
 |.nl _::_=>true
 |_::r=>fp r
def Gu:K->Option (Option Bool)
 |.acc f=>some (some f)
 |.sh=>some none
 |_=>none
def Hu:K->Bool
 |.acc _=>true
 |.sh=>true
 |_=>false
def Iu:AV->Tk
 |.v _ (.nl _)=>.same
 |.v .sh _=>.sh
 |.v .fr _=>.fr
 |.v (.acc b) _=>.acc b
 |.v (.own b) _=>.own b
 |.agg f cs=>match fp cs with
  |true=>.same
  |false=>match f with
   |true=>.fr
   |false=>.sh
 |.box cs=>match cs.any λkc=>Hu kc.1 with
  |true=>.bx (cs.map λkc=>Gu kc.1)
  |false=>.same
 |_=>.same
def ni:Env->List (Nat×Tk)
 |[]=>[]
 |(n,a)::r=>(n,Iu a)::ni r
def eqP:List Nat->List Nat->Bool
 |[],[]=>true
 |a::r,b::r'=>Nat.beq a b&&eqP r r'
 |_,_=>false
theorem gp:∀ {a b:List Nat},eqP a b=true->a=b
 |[],[],_=>rfl
 |a::r,b::r',h=>by
  simp only[eqP,Bool.and_eq_true]at h;rw[Nat.eq_of_beq_eq_true h.1,gp h.2]
 |[],_::_,h=>by cases h
 |_::_,[],h=>by cases h
abbrev pe(R:Type):=List (Env->mi R)
def oi{R:Type}(e:Env):pe R->List Nat->Option (mi R)
 |[],_=>none
 |S::l,p=>match eqP (S e).S.path p with
  |true=>some (S e)
  |false=>oi e l p
def asc{α:Type}:List (Nat×α)->Nat->Option α
 |[],_=>none
 |(i,a)::l,n=>match Nat.beq i n with
  |true=>some a
  |false=>asc l n
def Ju(kp:List (Nat×List Nat))(n:Nat):List Nat:=match asc kp n with
 |some l=>l
 |none=>[]
def Qa(C:Code):List Nat->Code
 |[]=>C
 |i::p=>nav (Qa C p) [i]
def cellAt(e:Env)(n j:Nat):Option C:=match ba e n with
 |.v _ c=>some c
 |.agg _ cs=>cs[j]?
 |.box cs=>(cs[j]?).map (·.2)
 |_=>none
def gI(e:Env)(n j:Nat):Int:=match cellAt e n j with
 |some (.int _ x)=>x
 |_=>0
def gS(e:Env)(n j:Nat):ByteArray:=match cellAt e n j with
 |some (.str x)=>x
 |_=>ByteArray.empty
def gL(t:Ty)(e:Env)(n j:Nat):List t.T:=match cellAt e n j with
 |some (.lst u xs)=>match Ee t u xs with
  |some ys=>ys
  |none=>[]
 |_=>[]
section
variable (tt:TT) (sp:SP) (N:NP) (F:Fnn) (kp:List (Nat×List Nat)) (tb:List (Nat×Nat)) (af:List (Nat×Bool×Nat)) {R:Type} (subs:pe R)
def Mc(e:Env):RV:=(xd tt e F.rs F.rt,match F.rd with
 |some s=>ba e s
 |none=>.dead)
def frzs:List Nat->Env->Env
 |[],e=>e
 |s::l,e=>frzs l (de e s)
def mkq(ps:List Prop)(t:TrE R):TrE R:=match ps with
 |[]=>t
 |p::r=>.w (p::r) t
def aft(id:Nat)(e:Env)(kn:Env->TrE R):TrE R:=match asc af id with
 |none=>kn e
 |some (true,s)=>match cg e s with
  |some e'=>kn e'
  |none=>.bad
 |some (false,s)=>kn (de e s)
def bef(id:Nat)(e:Env):Option Env:=match asc tb id with
 |none=>some e
 |some s=>cg e s
def bm(id:Nat)(c:Code)(e:Env)(kn:Env->TrE R):TrE R:=match bef tb id e with
 |none=>.bad
 |some e0=>match Ql tt sp N (Ju kp id) c e0 with
  |some (e1,ps)=>mkq ps (aft af id e1 kn)
  |none=>.bad
def fg(e:Env)(pat:List (Nat×Tk)):Option Env:=match ce e with
 |true=>ud e pat
 |false=>none
def qe(p:List Nat)(e:Env)(kn:Env->TrE R)(kx:Nat->Env->TrE R)(t:TrE R):TrE R:=match oi e subs p with
 |some E=>.s E.S (fg e (ni E.S.env)) E.S.rv (@lf R E.A E.dA λq=>kn (E.S.pn q)) (@lf R E.X E.dX λq=>kx (E.S.px q).1 (E.S.px q).2) (@lf R E.Y E.dY λq=>kx (E.S.py q).1 (E.S.py q).2) (@lf R E.Z E.dZ λq=>kx (E.S.pz q).1 (E.S.pz q).2)
 |none=>t
def runT:Code->List Nat->Env->(Env->TrE R)->(Nat->Env->TrE R)->TrE R
 |.region id ops d,p,e,kn,kx=>qe subs p e kn kx (bm tt sp N kp tb af id (.region id ops d) e kn)
 |.skip,_,e,kn,_=>kn e
 |.exit i,_,e,_,kx=>kx i e
 |.ret,_,e,_,_=>.r (Mc tt F (frzs F.fz e))
 |.seq a b,p,e,kn,kx=>qe subs p e kn kx (runT a (0::p) e (λe'=>runT b (1::p) e' kn kx) kx)
 |.cond o a b,p,e,kn,kx=>qe subs p e kn kx (match readB e o with
  |some v=>.c v (runT a (0::p) e kn kx) (runT b (1::p) e kn kx)
  |none=>.bad)
 |.block id a,p,e,kn,kx=>qe subs p e kn kx (runT a (0::p) e kn (λi e'=>match Nat.beq i id with
  |true=>kn e'
  |false=>kx i e'))
 |.loop _,p,e,kn,kx=>qe subs p e kn kx .bad
 |_,_,_,_,_=>.bad
def kn0{A:Type}[Dft A](pn:A->Env)(e:Env):TrE R:=match(Dft.d:Option A) with
 |some d=>match fg e (ni (pn d)) with
  |some e'=>.n e'
  |none=>.bad
 |none=>.bad
def kxs{X:Type}[Dft X](px:X->Nat×Env)(i:Nat)(e:Env)(k:TrE R):TrE R:=match(Dft.d:Option X) with
 |some d=>match Nat.beq i (px d).1 with
  |true=>match fg e (ni (px d).2) with
   |some e'=>.x i e'
   |none=>.bad
  |false=>k
 |none=>k
def kx0{X Y Z:Type}[Dft X][Dft Y][Dft Z](px:X->Nat×Env)(py:Y->Nat×Env)(pz:Z->Nat×Env)(i:Nat)(e:Env):TrE R:=kxs px i e (kxs py i e (kxs pz i e .bad))
end
def Wk(n:Env->Prop)(e:Env):Prop:=∃e',ya e e'/\n e'
theorem cm{e e':Env}{pat:List (Nat×Tk)}(h:fg e pat=some e'):ya e e':=by
 unfold fg at h;split at h
 .rename_i hf;exact ya.cast hf h
 .cases h
def Ob(P:Program)(tt:TT)(N:NP)(fr:Fr)(C:Code)(F:Fnn){R A X Y Z:Type}(S:Sa R A X Y Z):Prop:=S.ob->Ht P N fr (Qa C S.path) S.env (λe=>∃q,S.o=.n q/\ya e (S.pn q)) (λe=>∃q,S.o=.r q/\Mc tt F e=S.rv q)
  (λi e=>(∃q,S.o=.x q/\(S.px q).1=i/\ya e (S.px q).2)\/(∃q,S.o=.y q/\(S.py q).1=i/\ya e (S.py q).2)\/∃q,S.o=.z q/\(S.pz q).1=i/\ya e (S.pz q).2)
def Ue(P:Program)(tt:TT)(N:NP)(fr:Fr)(C:Code)(F:Fnn){R:Type}:pe R->Prop
 |[]=>True
 |S::l=>(∀e,Ob P tt N fr C F (S e).S)/\Ue P tt N fr C F l
section
variable {P:Program}{tt:TT}{sp:SP}{N:NP}{F:Fnn}{kp:List (Nat×List Nat)}{tb:List (Nat×Nat)}{af:List (Nat×Bool×Nat)}{R:Type}{subs:pe R}{fr:Fr}{C:Code}{n:Env->Prop}{r:RV->Prop}{x:Nat->Env->Prop}
theorem Ht.frzs:∀ {l:List Nat}{c:Code}{e:Env}{n r:Env->Prop}{x:Nat->Env->Prop},Ht P N fr c (frzs l e) n r x->Ht P N fr c e n r x
 |[],_,_,_,_,_,h=>h
 |s::_,_,_,_,_,_,h=>Ht.freeze s (Ht.frzs h)
theorem ip{e:Env}:∀ {subs:pe R}{p:List Nat}{S:mi R},Ue P tt N fr C F subs->oi e subs p=some S->S.S.path=p/\Ob P tt N fr C F S.S
 |[],_,_,_,h=>by cases h
 |S'::l,p,S,hs,h=>by
  simp only[oi]at h;split at h
  .rename_i hp;simp only[Option.some.injEq]at h;subst h;exact⟨gp hp,hs.1 e⟩
  .exact ip hs.2 h
theorem jp{A:Type}[i:Dft A]{f:A->TrE R}{d:A}(h:i.d=some d):lf f=f:=by unfold lf;rw[h]
theorem Ku{A:Type}[i:Dft A]{f:A->TrE R}(h:i.d=none):lf f=λ_=>.bad:=by unfold lf;rw[h]
theorem qi{A:Type}[i:Dft A]{f:A->TrE R}{q:A}(h:(lf f q).H n r x):(f q).H n r x:=by
 cases hd:i.d with
 |some d=>rw[jp hd]at h;exact h
 |none=>rw[Ku hd]at h;exact h.elim
theorem ri{A:Type}[i:Dft A]{f:A->TrE R}{q:A}(h:(f q).H n r x):(lf f q).H n r x:=by
 cases hd:i.d with
 |some d=>rw[jp hd];exact h
 |none=>exact(i.h hd q).elim
theorem ig(hs:Ue P tt N fr C F subs){p:List Nat}{e:Env}{kn:Env->TrE R}{kx:Nat->Env->TrE R}{t:TrE R}(h:(qe subs p e kn kx t).H n r x){c:Code}(hc:Qa C p=c)
  (ht:t.H n r x->Ht P N fr c e (Wk λe'=>(kn e').H n r x) (λe'=>r (Mc tt F e')) (λi=>Wk λe'=>(kx i e').H n r x)) :
  Ht P N fr c e (Wk λe'=>(kn e').H n r x) (λe'=>r (Mc tt F e')) (λi=>Wk λe'=>(kx i e').H n r x):=by
 unfold qe at h;split at h
 .rename_i E hS;obtain⟨hp,hi⟩:=ip hs hS;obtain⟨hg,hh,hn,hr,hx,hy,hz⟩:=h;have h1:=hi hh;rw[hp,hc]at h1;refine Ht.weak (cm hg) (h1.mono ?_ ?_ ?_)
  .rintro e' ⟨q,hq,hw⟩;exact⟨_,hw,@qi _ _ _ _ _ E.dA _ _ (hn q hq)⟩
  .rintro e' ⟨q,hq,hw⟩;rw[hw];exact hr q hq
  .rintro i e' (⟨q,hq,rfl,hw⟩|⟨q,hq,rfl,hw⟩|⟨q,hq,rfl,hw⟩)
   .exact⟨_,hw,@qi _ _ _ _ _ E.dX _ _ (hx q hq)⟩
   .exact⟨_,hw,@qi _ _ _ _ _ E.dY _ _ (hy q hq)⟩
   .exact⟨_,hw,@qi _ _ _ _ _ E.dZ _ _ (hz q hq)⟩
 .exact ht h
theorem Lu(G:Good P tt sp){id:Nat}{c:Code}{e:Env}{kn:Env->TrE R}(h:(bm tt sp N kp tb af id c e kn).H n r x){r':Env->Prop}{x':Nat->Env->Prop}:Ht P N fr c e (Wk λe'=>(kn e').H n r x) r' x':=by
 unfold bm at h;split at h
 .exact h.elim
 .rename_i e0 he0
  have key:Ht P N fr c e0 (Wk λe'=>(kn e').H n r x) r' x':=by
   split at h
   .rename_i e1 ps hreg
    have h2:ga ps/\(aft af id e1 kn).H n r x:=by
     unfold mkq at h;split at h
     .exact⟨trivial,h⟩
     .exact h
    refine Ht.reg G hreg h2.1 ?_;have h3:=h2.2;unfold aft at h3;split at h3
    .exact⟨_,ya.refl _,h3⟩
    .split at h3
     .rename_i s _ e' ht;refine⟨e',?_,h3⟩;intro N B IoB W0 F0 a w hs;unfold cg at ht;split at ht
      .rename_i f t xs hg;split at ht
       .rename_i hb;simp only[Bool.and_eq_true]at hb;simp only[Option.some.injEq]at ht;subst ht;obtain⟨F,ow,hx⟩:=hs.rep;obtain⟨F',hh⟩:=hx.thaw hs.f0 hg hb.1 hb.2;exact⟨hs.defers,hs.tmps,hs.base,hs.f0,hs.kept,F',ow,hh⟩
       .cases ht
      .cases ht
     .exact h3.elim
    .exact⟨_,ya.freeze _ _,h3⟩
   .exact h.elim
  unfold bef at he0;split at he0
  .simp only[Option.some.injEq]at he0;subst he0;exact key
  .exact Ht.thaw _ he0 key
theorem Mu(G:Good P tt sp)(hs:Ue P tt N fr C F subs):∀(c:Code) (p:List Nat) (_:Qa C p=c) (e:Env) (kn:Env->TrE R) (kx:Nat->Env->TrE R),(runT tt sp N F kp tb af subs c p e kn kx).H n r x ->
  Ht P N fr c e (Wk λe'=>(kn e').H n r x) (λe'=>r (Mc tt F e')) (λi=>Wk λe'=>(kx i e').H n r x):=by
 intro c
 induction c with
 |region id ops d=>intro p hc e kn kx h;exact ig hs h hc λh=>Lu G h
 |skip=>intro p _ e kn kx h;exact Ht.skip rfl ⟨e,ya.refl _,h⟩
 |exit i=>intro p _ e kn kx h;exact Ht.exit rfl ⟨e,ya.refl _,h⟩
 |ret=>intro p _ e kn kx h;exact Ht.frzs (Ht.ret rfl h)
 |seq a b iha ihb=>
  intro p hc e kn kx h;refine ig hs h hc λh=>?_;have ha:Qa C (0::p)=a:=by show nav (Qa C p) [0]=a;rw[hc];simp[nav]
  have hb:Qa C (1::p)=b:=by show nav (Qa C p) [1]=b;rw[hc];simp[nav]
  exact Ht.seq rfl ((iha _ ha e _ kx h).mono (λe' ⟨hh,hw,h'⟩=>Ht.weak hw (ihb _ hb hh kn kx h')) (λ_ h=>h) (λ_ _ h=>h))
 |cond o a b iha ihb=>
  intro p hc e kn kx h;refine ig hs h hc λh=>?_;have ha:Qa C (0::p)=a:=by show nav (Qa C p) [0]=a;rw[hc];simp[nav]
  have hb:Qa C (1::p)=b:=by show nav (Qa C p) [1]=b;rw[hc];simp[nav]
  split at h
  .rename_i v hv;exact Ht.cond rfl hv (λht=>iha _ ha e kn kx (h.1 ht)) (λhf=>ihb _ hb e kn kx (h.2 hf))
  .exact h.elim
 |block id a iha=>
  intro p hc e kn kx h;refine ig hs h hc λh=>?_;have ha:Qa C (0::p)=a:=by show nav (Qa C p) [0]=a;rw[hc];simp[nav]
  refine Ht.block rfl ((iha _ ha e kn _ h).mono (λ_ h=>h) (λ_ h=>h) (λi e' h=>?_));obtain⟨hh,hw,h⟩:=h;unfold ai;cases hb:Nat.beq i id<;>rw[hb]at h<;>exact⟨hh,hw,h⟩
 |loop a _=>
  intro p hc e kn kx h;exact ig hs h hc λh=>h.elim
 |_=>intro p hc e kn kx h;exact False.elim h
theorem Nu{A X Y Z:Type}{rv:R->RV}{pn:A->Env}{px:X->Nat×Env}{py:Y->Nat×Env}{pz:Z->Nat×Env}(t:Tr R A X Y Z):t.ob->(∀q,t.val=.n q->n (pn q))->(∀q,t.val=.r q->r (rv q)) ->
  (∀q,t.val=.x q->x (px q).1 (px q).2)->(∀q,t.val=.y q->x (py q).1 (py q).2)->(∀q,t.val=.z q->x (pz q).1 (pz q).2)->(t.toE rv pn px py pz).H n r x:=by
 induction t with
 |l o=>
  intro _ h1 h2 h3 h4 h5;cases o with
  |n q=>exact h1 q rfl
  |r q=>exact h2 q rfl
  |x q=>exact h3 q rfl
  |y q=>exact h4 q rfl
  |z q=>exact h5 q rfl
 |w ps t ih=>intro h h1 h2 h3 h4 h5;exact⟨h.1,ih h.2 h1 h2 h3 h4 h5⟩
 |c b t f iht ihf=>
  intro h h1 h2 h3 h4 h5;refine⟨λhb=>?_,λhb=>?_⟩<;>subst hb
  .exact iht (h.1 rfl) h1 h2 h3 h4 h5
  .exact ihf (h.2 rfl) h1 h2 h3 h4 h5
 |k a f ih=>exact ih a
 |s S kn kx ky kz ihn ihx ihy ihz=>
  intro h h1 h2 h3 h4 h5;obtain⟨hh,hn,hx,hy,hz⟩:=h;refine⟨rfl,hh,λq hq=>?_,λq hq=>?_,λq hq=>?_,λq hq=>?_,λq hq=>?_⟩
  .have e:(Tr.s S kn kx ky kz).val=(kn q).val:=by simp only[Tr.val,hq]
   rw[e]at h1 h2 h3 h4 h5;exact ri (ihn q (hn q hq) h1 h2 h3 h4 h5)
  .exact h2 q (by simp only[Tr.val,hq])
  .have e:(Tr.s S kn kx ky kz).val=(kx q).val:=by simp only[Tr.val,hq]
   rw[e]at h1 h2 h3 h4 h5;exact ri (ihx q (hx q hq) h1 h2 h3 h4 h5)
  .have e:(Tr.s S kn kx ky kz).val=(ky q).val:=by simp only[Tr.val,hq]
   rw[e]at h1 h2 h3 h4 h5;exact ri (ihy q (hy q hq) h1 h2 h3 h4 h5)
  .have e:(Tr.s S kn kx ky kz).val=(kz q).val:=by simp only[Tr.val,hq]
   rw[e]at h1 h2 h3 h4 h5;exact ri (ihz q (hz q hq) h1 h2 h3 h4 h5)
theorem dm{X:Type}[Dft X]{px:X->Nat×Env}{i:Nat}{e:Env}{k:TrE R}(h:(kxs px i e k).H n r x):(∃e',ya e e'/\x i e')\/k.H n r x:=by
 unfold kxs at h;split at h
 .split at h
  .split at h
   .rename_i e3 hc;exact .inl ⟨e3,cm hc,h⟩
   .exact h.elim
  .exact .inr h
 .exact .inr h
theorem em{A X Y Z:Type}[Dft A][Dft X][Dft Y][Dft Z](G:Good P tt sp)(subs:pe R)(hs:Ue P tt N fr C F subs)(kp:List (Nat×List Nat))(tb:List (Nat×Nat))(af:List (Nat×Bool×Nat)){S:Sa R A X Y Z}(t:Tr R A X Y Z)
  (ho:S.o=t.val) (hob:S.ob=t.ob) (h:runT tt sp N F kp tb af subs (Qa C S.path) S.path S.env (kn0 S.pn) (kx0 S.px S.py S.pz)=t.toE S.rv S.pn S.px S.py S.pz):Ob P tt N fr C F S:=by
 intro hb;rw[hob]at hb
 have h1:=Nu (n:=λe=>∃q,S.o=.n q/\ya e (S.pn q)) (r:=λv=>∃q,S.o=.r q/\v=S.rv q)
  (x:=λi e=>(∃q,S.o=.x q/\(S.px q).1=i/\ya e (S.px q).2)\/(∃q,S.o=.y q/\(S.py q).1=i/\ya e (S.py q).2)\/∃q,S.o=.z q/\(S.pz q).1=i/\ya e (S.pz q).2) (rv:=S.rv) (pn:=S.pn) (px:=S.px) (py:=S.py) (pz:=S.pz) t hb
  (λq hq=>⟨q,ho.trans hq,ya.refl _⟩) (λq hq=>⟨q,ho.trans hq,rfl⟩) (λq hq=>.inl ⟨q,ho.trans hq,rfl,ya.refl _⟩) (λq hq=>.inr (.inl ⟨q,ho.trans hq,rfl,ya.refl _⟩)) (λq hq=>.inr (.inr ⟨q,ho.trans hq,rfl,ya.refl _⟩))
 rw[<-h]at h1
 have key:∀ {n':Env->Prop}{x':Nat->Env->Prop},(∀e e',ya e e'->n' e'->n' e)->(∀i e e',ya e e'->x' i e'->x' i e)->∀ {r':RV->Prop},
   (runT tt sp N F kp tb af subs (Qa C S.path) S.path S.env (kn0 S.pn) (kx0 S.px S.py S.pz)).H n' r' x'->Ht P N fr (Qa C S.path) S.env n' (λe=>r' (Mc tt F e)) x':=by
  intro n' x' hj hl r' hh;refine(Mu G hs _ _ rfl _ _ _ hh).mono ?_ (λ_ h=>h) ?_
  .rintro e' ⟨hi,hw,h⟩;unfold kn0 at h;split at h
   .split at h
    .rename_i e3 hc;exact hj _ _ (hw.trans (cm hc)) h
    .exact h.elim
   .exact h.elim
  .rintro i e' ⟨hi,hw,h⟩;rcases dm h with⟨e3,hk,h⟩|h
   .exact hl _ _ _ (hw.trans hk) h
   .rcases dm h with⟨e3,hk,h⟩|h
    .exact hl _ _ _ (hw.trans hk) h
    .rcases dm h with⟨e3,hk,h⟩|h
     .exact hl _ _ _ (hw.trans hk) h
     .exact h.elim
 refine key ?_ ?_ h1
 .rintro e e' hw ⟨q,hq,h⟩;exact⟨q,hq,hw.trans h⟩
 .rintro i e e' hw (⟨q,hq,rfl,h⟩|⟨q,hq,rfl,h⟩|⟨q,hq,rfl,h⟩)
  .exact .inl ⟨q,hq,rfl,hw.trans h⟩
  .exact .inr (.inl ⟨q,hq,rfl,hw.trans h⟩)
  .exact .inr (.inr ⟨q,hq,rfl,hw.trans h⟩)
def si(c:Code):Bool:=match c with
 |.loop _=>true
 |_=>false
theorem Ou{c:Code}(h:si c=true):c=.loop (nav c [0]):=by
 unfold si at h;split at h
 .simp[nav]
 .cases h
def lpS{σ X Y Z:Type}(S:Sa R σ X Y Z)(o:Oc Empty R X Y Z)(ob:Prop):Sa R Empty X Y Z:=⟨o,ob,S.path.tail,S.env,S.rv,nE,S.px,S.py,S.pz⟩
theorem Pu{σ X Y Z:Type}[Inhabited R](Sr:σ->Sa R σ X Y Z)(s0:σ)(hpn:∀s,(Sr s).pn=λs'=>(Sr s').env)(hp:∀s,(Sr s).path=0::(Sr s0).path.tail/\(Sr s).rv=(Sr s0).rv/\(Sr s).px=(Sr s0).px/\(Sr s).py=(Sr s0).py/\(Sr s).pz=(Sr s0).pz)
  (hc:si (Qa C (Sr s0).path.tail)=true) (hb:∀s,Ob P tt N fr C F (Sr s)) :
  Ob P tt N fr C F (lpS (Sr s0) (lpV (λs=>Ia (Sr s).o) s0) (LpT (λs=>Ia (Sr s).o) (λs=>(Sr s).ob) s0)):=by
 intro hT;have hT:LpT (λs=>Ia (Sr s).o) (λs=>(Sr s).ob) s0:=hT;show Ht P N fr (Qa C (Sr s0).path.tail) (Sr s0).env _ _ _;refine Ht.loopOc (c1:=nav (Qa C (Sr s0).path.tail) [0]) (Ou hc) (λs=>(Sr s).env) (λs=>(Sr s).o) hT (RP:=λq e=>Mc tt F e=(Sr s0).rv q) (XP:=λi q e=>((Sr s0).px q).1=i/\ya e ((Sr s0).px q).2) (YP:=λi q e=>((Sr s0).py q).1=i/\ya e ((Sr s0).py q).2) (ZP:=λi q e=>((Sr s0).pz q).1=i/\ya e ((Sr s0).pz q).2) (λs hs=>?_) ?_ ?_ ?_ ?_
 .have h:=hb s hs;obtain⟨h1,h2,h3,h4,h5⟩:=hp s;rw[h1,h2,h3,h4,h5,hpn s]at h;exact h
 .exact λq e h he=>⟨q,h,he⟩
 .exact λi q e h he=>.inl ⟨q,h,he⟩
 .exact λi q e h he=>.inr (.inl ⟨q,h,he⟩)
 .exact λi q e h he=>.inr (.inr ⟨q,h,he⟩)
def xa:Nat:=2097200
theorem Nc{f:Nat}{s:Spec}{fn:Func}{c:Code}(hf:P.funcs[f]? = some fn)(hname:(fn.name == "runtime.NumGoroutine")=false)(hc:fn.body=some c)(h:∀x,s.pre x->False):Con P f s:=⟨⟨fn,hf,hname,by rw[hc];rfl⟩,λx hp=>(h x hp).elim⟩
theorem Qu{pts:List PT}{rt:RT}{o:va pts->Oc Empty rt.T Empty Empty Empty}{ob:va pts->Prop}(G:Good P tt sp){f:Nat}{fn:Func}{c:Code}(hf:P.funcs[f]? = some fn)(hname:(fn.name == "runtime.NumGoroutine")=false)(hc:fn.body=some c){rs:List ResultVar}{fz:List Nat}
  (hrs:fn.results=rs.toArray) (hlen:Nat.ble pts.length fn.ntmps=true) (hno:je rt=true->ra pts 0=none) (hrd:ra pts 0=none) (S:va pts->Sa rt.T Empty Empty Empty Empty)
  (hS:∀x,(S x).path=[]/\(S x).env=La pts x 0/\(S x).o=o x/\(S x).ob=ob x/\(S x).rv=λq=>(some (rt.av q),.dead))
  (h:∀(x:va pts) (fr:Fr),Ob P tt ⟨fn.ntmps,none,[]⟩ fr c ⟨rs,rt,none,fz⟩ (S x)):Con P f ⟨pts,rt,false,λx=>(ocR (o x),0),ob⟩:=To G.htt hf hname hc hrs hlen hno λx hp fr _ _ _=>by
  obtain⟨h1,h2,h3,h4,h5⟩:=hS x;have hp:ob x:=hp;rw[<-h4]at hp;have h0:=h x fr hp;rw[h1,h2,h3,h5]at h0;rw[hrd];refine Ht.mono h0 ?_ ?_ ?_
  .rintro e ⟨q,_⟩;exact q.elim
  .rintro e ⟨q,hq,he⟩;have hq:o x=.r q:=hq;have he:Mc tt ⟨rs,rt,none,fz⟩ e=(some (rt.av q),.dead):=he;refine⟨?_,?_⟩
   .show xd tt e rs rt=some (rt.av (ocR (o x)));rw[hq];exact congrArg Prod.fst he
   .exact by unfold me;rw[hrd];trivial
  .rintro i e (⟨q,_⟩|⟨q,_⟩|⟨q,_⟩)<;>exact q.elim
theorem Ru{pts:List PT}{rt:RT}{o:va pts->Oc Empty (rt.T×Int) Empty Empty Empty}{ob:va pts->Prop}(G:Good P tt sp){f:Nat}{fn:Func}{c:Code}(hf:P.funcs[f]? = some fn)(hname:(fn.name == "runtime.NumGoroutine")=false)(hc:fn.body=some c){rs:List ResultVar}{fz:List Nat}
  (hrs:fn.results=rs.toArray) (hlen:Nat.ble pts.length fn.ntmps=true) (hno:je rt=true->ra pts 0=none) {k:Nat} (hrd:ra pts 0=some k) (bs:va pts->List Int) (hbs:∀x,rdB pts x=some (bs x)) (S:va pts->Sa (rt.T×Int) Empty Empty Empty Empty)
  (hS:∀x,(S x).path=[]/\(S x).env=La pts x 0/\(S x).o=o x/\(S x).ob=ob x/\(S x).rv=λq=>(some (rt.av q.1),.box [(.sh,.lst .byte (bs x)),(.fr,.int .i64 q.2)]))
  (h:∀(x:va pts) (fr:Fr),Ob P tt ⟨fn.ntmps,some k,[]⟩ fr c ⟨rs,rt,some k,fz⟩ (S x)):Con P f ⟨pts,rt,true,λx=>ocR (o x),ob⟩:=To G.htt hf hname hc hrs hlen hno λx hp fr _ _ _=>by
  obtain⟨h1,h2,h3,h4,h5⟩:=hS x;have hp:ob x:=hp;rw[<-h4]at hp;have h0:=h x fr hp;rw[h1,h2,h3,h5]at h0;rw[hrd];refine Ht.mono h0 ?_ ?_ ?_
  .rintro e ⟨q,_⟩;exact q.elim
  .rintro e ⟨q,hq,he⟩;have hq:o x=.r q:=hq;have he:Mc tt ⟨rs,rt,some k,fz⟩ e=(some (rt.av q.1),.box [(.sh,.lst .byte (bs x)),(.fr,.int .i64 q.2)]):=he;refine⟨?_,?_⟩
   .show xd tt e rs rt=some (rt.av (ocR (o x)).1);rw[hq];exact congrArg Prod.fst he
   .show me pts x (ocR (o x)).2 e;unfold me;rw[hrd,hbs,hq];exact congrArg Prod.snd he
  .rintro i e (⟨q,_⟩|⟨q,_⟩|⟨q,_⟩)<;>exact q.elim
end
def Ad(sz:Nat->Option Nat):List Field->Nat->Option Nat
 |[],o=>some o
 |f::fs,o=>match Nat.beq f.offset o&&f.name != "_",sz f.type with
  |true,some n=>Ad sz fs (o+n)
  |_,_=>none
def Te(P:Program):Nat->Nat->Option Nat
 |0,_=>none
 |m+1,t=>match P.underlying t,P.info? t with
  |some (.int _),some _=>some 1
  |some (.struct fs),some i=>match P.stoodInHeld t,Ad (Te P m) fs.toList 0 with
   |false,some n=>match Nat.beq i.size n with
    |true=>some n
    |false=>none
   |_,_=>none
  |_,_=>none
theorem li:∀ {cs ds:List C}{b:Bool},Aa cs ds=some b->cs.length=ds.length
 |[],[],_,_=>rfl
 |.int _ _::r,.int _ _::r',_,h=>by
  simp only[Aa]at h;split at h
  .rename_i h';simp[li h']
  .cases h
 |[],_::_,_,h=>by simp[Aa]at h
 |.bool _::_,_,_,h=>by simp[Aa]at h
 |.str _::_,_,_,h=>by simp[Aa]at h
 |.lst _ _::_,_,_,h=>by simp[Aa]at h
 |.nl _::_,_,_,h=>by simp[Aa]at h
 |.int _ _::_,[],_,h=>by simp[Aa]at h
 |.int _ _::_,.bool _::_,_,h=>by simp[Aa]at h
 |.int _ _::_,.str _::_,_,h=>by simp[Aa]at h
 |.int _ _::_,.lst _ _::_,_,h=>by simp[Aa]at h
 |.int _ _::_,.nl _::_,_,h=>by simp[Aa]at h
theorem Uo:∀ {a c a' c':List C}{e:Bool},a.length=c.length->Aa (a++a') (c++c')=some e->∃e1 e2,Aa a c=some e1/\Aa a' c'=some e2/\e=(e1&&e2)
 |[],[],_,_,e,_,h=>⟨true,e,rfl,h,by simp⟩
 |x::a,y::c,a',c',e,hl,h=>by
  cases x<;>cases y<;>simp only[List.cons_append,Aa]at h<;>try (cases h;done)
  rename_i k n k' n';split at h
  .rename_i e' hk hr;obtain⟨e1,e2,h1,h2,h3⟩:=Uo (by simpa using hl) hr;simp only[Option.some.injEq]at h;exact⟨cmp .eql n n'&&e1,e2,by simp only[Aa,hk,h1],h2,by rw[<-h,h3,Bool.and_assoc]⟩
  .cases h
 |[],_::_,_,_,_,hl,_=>by simp at hl
 |_::_,[],_,_,_,hl,_=>by simp at hl
section
variable {P:Program}
def EqP(P:Program)(d t n:Nat):Prop:=∀(w:World) (cs ds:List C) (off:Nat) (b:Bool),Aa ((cs.drop off).take n) ((ds.drop off).take n)=some b->((cs.drop off).take n).length=n ->
 ∃x y,(Go.part t (cs.map zv).toArray off).run P w=.ok x w/\(Go.part t (ds.map zv).toArray off).run P w=.ok y w/\(Op.equalIn d t x y).run P w=.ok b w
theorem yu{d t:Nat}{k:IntKind}(hu:P.underlying t=some (.int k)):EqP P (d+1) t 1:=by
 intro w cs ds hh b h hl;cases hc:cs.drop hh with
 |nil=>rw[hc]at hl;simp at hl
 |cons c cr=>
  rw[hc]at h;cases hd:ds.drop hh with
  |nil=>rw[hd]at h;cases c<;>simp[Aa]at h
  |cons e er=>
   rw[hd]at h
   have h1:cs[hh]? = some c:=by
    have:=List.getElem?_drop (xs:=cs) (i:=hh) (j:=0);rw[hc]at this;simpa using this.symm
   have h2:ds[hh]? = some e:=by
    have:=List.getElem?_drop (xs:=ds) (i:=hh) (j:=0);rw[hd]at this;simpa using this.symm
   simp only[List.take_succ_cons,List.take_zero]at h;cases c<;>cases e<;>simp only[Aa]at h<;>try (cases h;done)
   rename_i k1 a k2 a';split at h
   .rename_i e' hk hr;simp only[Option.some.injEq]at h hr;subst hr;have hk:=Ke hk;subst hk;refine⟨.int k1 a,.int k1 a',?_,?_,?_⟩
    .simp[Go.part,Go.isAgg,run_underlying hu,h1,zv]
    .simp[Go.part,Go.isAgg,run_underlying hu,h2,zv]
    .rw[run_equalIn_int w d t k1 k a a' hu,<-h];simp[cmp]
   .cases h
theorem Vo{sz:Nat->Option Nat}:∀ {fs:List Field}{o n:Nat},Ad sz fs o=some n->o<=n
 |[],o,n,h=>by simp only[Ad,Option.some.injEq]at h;omega
 |f::fs,o,n,h=>by
  simp only[Ad]at h;split at h
  .have:=Vo h;omega
  .cases h
theorem Wo{d:Nat}{sz:Nat->Option Nat}(hsz:∀t n,sz t=some n->EqP P d t n)(w:World)(cs ds:List C):∀ {fs:List Field}{o n:Nat}{b:Bool},Ad sz fs o=some n ->
  Aa ((cs.drop o).take (n - o)) ((ds.drop o).take (n - o))=some b->((cs.drop o).take (n - o)).length=n - o->(Op.eqFields d (cs.map zv).toArray (ds.map zv).toArray fs).run P w=.ok b w
 |[],o,n,b,h,hb,_=>by
  simp only[Ad,Option.some.injEq]at h;subst h;rw[Nat.sub_self]at hb;simp only[List.take_zero,Aa,Option.some.injEq]at hb;subst hb;rfl
 |f::fs,o,n,b,h,hb,hl=>by
  simp only[Ad]at h;split at h
  .rename_i k hc hk;simp only[Bool.and_eq_true,bne_iff_ne,ne_eq]at hc;have ho:=Nat.eq_of_beq_eq_true hc.1;have hj:=Vo h
   have hn:∀l:List C,(l.drop o).take (n - o)=(l.drop o).take k++(l.drop (o+k)).take (n - (o+k)):=λl=>by
    rw[show n - o=k+(n - (o+k)) by omega,List.take_add,List.drop_drop]
   rw[hn cs,hn ds]at hb;rw[hn cs]at hl
   have hh:((cs.drop o).take k).length=k/\((cs.drop (o+k)).take (n - (o+k))).length=n - (o+k):=by
    rw[List.length_append]at hl;have h1:((cs.drop o).take k).length<=k:=by simp;omega
    have h2:((cs.drop (o+k)).take (n - (o+k))).length<=n - (o+k):=by simp;omega
    omega
   have hm:=li hb
   have hi:((ds.drop o).take k).length=k:=by
    rw[List.length_append,List.length_append,hh.1,hh.2]at hm;have h1:((ds.drop o).take k).length<=k:=by simp;omega
    have h2:((ds.drop (o+k)).take (n - (o+k))).length<=n - (o+k):=by simp;omega
    omega
   obtain⟨e1,e2,g1,g2,g3⟩:=Uo (by rw[hh.1,hi]) hb;obtain⟨x,y,p1,p2,p3⟩:=hsz f.type k hk w cs ds o e1 g1 hh.1;have ih:=Wo hsz w cs ds h g2 hh.2;simp only[Op.eqFields,ne_eq,hc.2,not_false_eq_true,if_true,Sem.run_bind,ho,p1,p2,p3,Result.andThen_ok];rw[g3];cases e1 with
   |false=>simp
   |true=>simpa using ih
  .cases h
theorem Xo:∀(m t n d:Nat),Te P m t=some n->EqP P (d+m) t n
 |0,_,_,_,h=>by simp[Te]at h
 |m+1,t,n,d,h=>by
  simp only[Te]at h;split at h
  .rename_i k i hu hi;simp only[Option.some.injEq]at h;subst h;exact yu (d:=d+m) hu
  .rename_i fs i hu hi;split at h
   .rename_i n' hs hf;split at h
    .rename_i hn;simp only[Option.some.injEq]at h;subst h;have hn:=Nat.eq_of_beq_eq_true hn;intro w cs ds hk b hb hl;have hh:P.fieldsOf t=fs:=by simp[Program.fieldsOf,hu]
     have hex:∀l:List C,((l.map zv).toArray.extract hk (hk+n'))=(((l.drop hk).take n').map zv).toArray:=λl=>by
      apply Array.ext';simp[List.map_drop,List.map_take]
     have hj:∀l:List C,(Go.part t (l.map zv).toArray hk).run P w=.ok (.agg (((l.drop hk).take n').map zv).toArray) w:=λl=>by
      rw[<-hex l];simp[Go.part,Go.isAgg,run_underlying hu,sizeOf,typeInfo,hi,hn]
     refine⟨_,_,hj cs,hj ds,?_⟩;rw[show d+(m+1)=(d+m)+1 from rfl,run_equalIn_struct w (d+m) t _ _ (by rw[hh];exact hu) hs,hh];refine Wo (λt n h=>Xo m t n d h) w ((cs.drop hk).take n') ((ds.drop hk).take n') (fs:=fs.toList) hf ?_ ?_
     .rw[Nat.sub_zero,List.drop_zero,List.drop_zero,List.take_take,List.take_take,Nat.min_self];exact hb
     .rw[Nat.sub_zero,List.drop_zero,List.take_take,Nat.min_self];exact hl
    .cases h
   .cases h
  .cases h
def Wl(P:Program)(t n:Nat):Bool:=
 !P.eqGuardType P.depth t&&match P.underlying t,Te P 9 t with
 |some (.struct _),some k=>Nat.beq k n
 |_,_=>false
theorem zu{t n:Nat}(h:Wl P t n=true):jl P t n:=by
 simp only[Wl,Bool.and_eq_true,Bool.not_eq_true']at h;obtain⟨h1,h2⟩:=h;split at h2
 .rename_i fs k hu hk;have hn:=Nat.eq_of_beq_eq_true h2;subst hn;refine⟨h1,λw cs ds b hb hl=>?_⟩
  obtain⟨x,y,p1,p2,p3⟩:=Xo 9 t k 9991 hk w cs ds 0 b (by
   rw[List.drop_zero,List.drop_zero,List.take_of_length_le (by omega),List.take_of_length_le (by rw[<-li hb];omega)];exact hb) (by simp;omega)
  have hi:∃i,P.info? t=some i/\i.size=k:=by
   simp only[Te,hu]at hk;cases hi:P.info? t with
   |none=>rw[hi]at hk;cases hk
   |some i=>
    rw[hi]at hk;simp only[]at hk;split at hk
    .split at hk
     .rename_i hn;simp only[Option.some.injEq]at hk;exact⟨i,rfl,by rw[Nat.eq_of_beq_eq_true hn,hk]⟩
     .cases hk
    .cases hk
  obtain⟨i,hi,hj⟩:=hi
  have hm:∀l:List C,l.length=k->(Go.part t (l.map zv).toArray 0).run P w=.ok (.agg (l.map zv).toArray) w:=λl hl=>by
   have hex:((l.map zv).toArray.extract 0 k)=(l.map zv).toArray:=by
    apply Array.ext';simp[List.take_of_length_le (show(l.map zv).length<=k by simp;omega)]
   have hh:Array.extract (l.map zv).toArray 0 k=(l.map zv).toArray:=hex;simp only[Go.part,Go.isAgg,run_underlying hu,sizeOf,typeInfo,hi,hj,Sem.run_bind,Sem.run_pure,Result.andThen_ok,Nat.zero_add,if_true,run_program];simp[hh]
  rw[hm cs hl]at p1;rw[hm ds (by rw[<-li hb];exact hl)]at p2;cases p1;cases p2;exact p3
 .cases h2
def Xl(P:Program):TT->Bool
 |[]=>true
 |(t,d)::r=>al P t d&&((!d.eq||Wl P t d.size)&&Xl P r)
theorem Yo{P:Program}:∀ {tt:TT},Xl P tt=true->Ya P tt
 |[],_=>⟨(λ_ _ h=>by cases h),(λ_ _ h=>by cases h)⟩
 |(t0,d0)::r,h=>by
  simp only[Xl,Bool.and_eq_true]at h;obtain⟨h1,h2,h3⟩:=h;have ih:=Yo h3;refine⟨λt d h=>?_,λt d h he=>?_⟩
  .simp only[lk]at h;split at h
   .rename_i hb;cases h;rw[<-Nat.eq_of_beq_eq_true hb];exact qs h1
   .exact ih.td t d h
  .simp only[lk]at h;split at h
   .rename_i hb;cases h;rw[<-Nat.eq_of_beq_eq_true hb];rw[he]at h2;exact zu (by simpa using h2)
   .exact ih.eq t d h he
end
def Dd(r:Nat)(o:Option Nat->Option Nat):Option Nat->Option Nat:=λi=>match o i with
 |some b=>if b=r then none else some b
 |none=>none
theorem Yl{r:Nat}{o:Option Nat->Option Nat}{i:Option Nat}{b:Nat}(h:Dd r o i=some b):o i=some b:=by
 unfold Dd at h;split at h
 .rename_i b' hb;split at h
  .cases h
  .rw[hb];exact h
 .cases h
theorem Zl{r:Nat}{o:Option Nat->Option Nat}{i:Option Nat}{b:Nat}(h:o i=some b)(hb:b≠r):Dd r o i=some b:=by
 unfold Dd;rw[h];simp[hb]
theorem Blk.ne{w:World}{b r:Nat}{cs:List Value}(h:Blk w b cs){o:Obj}(ho:w.heap[r]? = some o)(hc:Go.Proofs.YtlfflhpmkoiemaaDoor.isC o=false):b≠r:=λe=>by
 subst e;rw[Blk.isC h ho]at hc;cases hc
theorem Zo{w:World}{b r i:Nat}{u:Value}(h:w.cell? ⟨b,i,none⟩=some u){o:Obj}(ho:w.heap[r]? = some o)(hc:isC o=false):b≠r:=λe=>by
 subst e;cases o<;>simp[World.cell?,ho,isC]at h hc
section
variable {w w':World}{F:Fz}{r:Nat}{B:Nat} (hp:Pk w r w') {o0:Obj} (ho:w.heap[r]? = some o0) (hc:isC o0=false)
include hp ho hc
theorem am(hl:Live F w):Ac F w w':=λb i hb=>by
 cases h:w.cell? ⟨b,i,none⟩ with
 |none=>have:=hl b i hb;rw[h]at this;cases this
 |some u=>rw[cell_of_heap (hp.block b (Zo h ho hc)),h]
theorem VR.obj(hl:Live F w){o:Option Nat->Option Nat}{av:AV}{v:Value}(h:VR F B w o av v):VR F B w' (Dd r o) av v:=by
 have hF:=am hp ho hc hl;have rc:∀ {lo:Nat}{c:C}{v:Value},RC F lo w c v->RC F lo w' c v:=λh=>h.poke hp hF
 have acc:∀ {lo:Nat}{i:Option Nat}{c:C}{v:Value},ka F lo w (o i) c v->ka F lo w' (Dd r o i) c v:=by
  rintro lo i c v ⟨h1,h2⟩;refine⟨rc h1,?_⟩;rcases h2 with h2|⟨t,xs,b,cap,cs,e1,e2,e3,e4,e5,e6⟩
  .exact .inl h2
  .exact .inr ⟨t,xs,b,cap,cs,e1,e2,Zl e3 (e4.ne ho hc),e4.same (hp.block b (e4.ne ho hc)),e5,e6⟩
 cases av with
 |dead=>trivial
 |v k c=>
  cases k with
  |sh=>exact rc h
  |fr=>exact rc h
  |acc f=>exact acc h
  |own f=>
   rcases h with h|⟨t,xs,b,cap,cs,vs,e1,e2,e3,e4,e5,hh,e6,e7,e8,e9⟩
   .exact .inl h
   exact .inr ⟨t,xs,b,cap,cs,vs,e1,e2,Zl e3 (e4.ne ho hc),e4.same (hp.block b (e4.ne ho hc)),e5,hh,e6,e7,e8,λi j x c hx hc=>rc (e9 i j x c hx hc)⟩
 |agg f cs=>obtain⟨vs,e,h⟩:=h;exact⟨vs,e,h.poke hp hF⟩
 |tup l=>obtain⟨vs,e,h⟩:=h;exact⟨vs,e,h.poke hp hF⟩
 |box cs=>
  obtain⟨b,vs,e1,e2,e3,e4,e5,e6⟩:=h;refine⟨b,vs,e1,Zl e2 (e3.ne ho hc),e3.same (hp.block b (e3.ne ho hc)),e4,e5,λj kc u hk hu=>?_⟩;have:=e6 j kc u hk hu;obtain⟨k,c⟩:=kc;cases k with
  |sh=>exact rc this
  |fr=>exact rc this
  |acc f=>exact acc this
  |own f=>exact this
 |cond k a=>exact h.elim
 |view s i=>exact h.elim
 |baddr s i=>exact h.elim
 |faddr f cs=>exact h.elim
 |oaddr s i j=>exact h.elim
theorem SR.obj(hl:Live F w){tm:Nat->Value}{g:Get}{ow:Nat->Option Nat->Option Nat}{n:Nat}:∀ {av:AV},SR F B w tm g ow n av->SR F B w' tm g (λs=>Dd r (ow s)) n av
 |.dead,_=>trivial
 |.v k c,h=>VR.obj (av:=.v k c) hp ho hc hl h
 |.agg f cs,h=>VR.obj (av:=.agg f cs) hp ho hc hl h
 |.tup l,h=>VR.obj (av:=.tup l) hp ho hc hl h
 |.box cs,h=>VR.obj (av:=.box cs) hp ho hc hl h
 |.cond k a,h=>⟨h.1,h.2.1,λhb=>SR.obj hl (h.2.2.1 hb),h.2.2.2⟩
 |.view m none,h=>h
 |.view m (some j),h=>by
  obtain⟨h0,cs,b',f,c,h1,h2,h3,h4⟩:=h;exact⟨h0,cs,b',f,c,h1,h2,h3,by rw[cell_of_heap (hp.block b' (Zo h4 ho hc))];exact h4⟩
 |.baddr m o,h=>h
 |.faddr f cs,h=>by
  obtain⟨b',o,vs,h1,h2,h3⟩:=h;have hF:=am hp ho hc hl;exact⟨b',o,vs,h1,h2.poke hp hF,λj v hv=>⟨(h3 j v hv).1,by rw[hF _ _ (h3 j v hv).1];exact(h3 j v hv).2⟩⟩
 |.oaddr m i o,h=>h
theorem fa.obj{IoB:List Nat}{F0:Fz}{e:Env}{tm:Nat->Value}{ow:Nat->Option Nat->Option Nat}(hs:fa B IoB F0 e tm w F ow):fa B IoB F0 e tm w' F (λs=>Dd r (ow s)):=⟨hs.sub,hs.new,λb o hb=>by rw[am hp ho hc hs.live b o hb];exact hs.live b o hb,λs i s' i' b h h'=>hs.inj s i s' i' b (Yl h) (Yl h'),
   λs i b h=>by rw[hp.size];exact hs.bd s i b (Yl h),λs=>(hs.sr s).obj hp ho hc hs.live⟩
end
structure MS(N:NP)(B:Nat)(IoB:List Nat)(W0:World)(F0:Fz)(obs:List (Nat×Obj))(e:Env)(a:Act)(w:World):Prop where
 sim:Sim N B IoB w F0 e a w
 kept:Kept B IoB W0 w
 ob:∀p∈obs,w.heap[p.1]? = some p.2/\isC p.2=false/\B<=p.1
 hB:B=W0.heap.size
section
variable {P:Program}{N:NP}{B:Nat}{IoB:List Nat}{W0:World}{F0:Fz}{obs:List (Nat×Obj)}{e:Env}{a:Act}{w:World}
theorem Sim.rebase(hs:Sim N B IoB W0 F0 e a w):Sim N B IoB w F0 e a w:=⟨hs.defers,hs.tmps,Nat.le_trans hs.base hs.kept.size,hs.f0,Kept.refl _ _ _,hs.rep⟩
theorem MS.of_sim{e':Env}{a':Act}{w':World}(h:MS N B IoB W0 F0 obs e a w)(hs:Sim N B IoB w F0 e' a' w'):MS N B IoB W0 F0 obs e' a' w':=⟨hs.rebase,h.kept.trans hs.kept,λp hp=>⟨hs.kept.obj _ _ (h.ob p hp).1 (h.ob p hp).2.1,(h.ob p hp).2⟩,h.hB⟩
theorem MS.reg{tt:TT}{sp:SP}(G:Good P tt sp){id:Nat}{ops:Array Oper}{draw:Bool}(hok:Zh sp N ops.toList draw=true){keep:List Nat}{e':Env}{ps:List Prop}
  (hr:Xf tt sp keep ops.toList draw e=some (e',ps)) (ho:ga ps) {Q:Exit->Act->World->Prop} (hQ:∀a w,MS N B IoB W0 F0 obs e' a w->Q .normal a w) (hs:MS N B IoB W0 F0 obs e a w):(Code.region id ops draw).wp P Q a w:=Lo G.htt G.hsp G.hm hok hr ho.all (λa w h=>hQ a w (hs.of_sim h)) hs.sim
theorem Tms.putK{a:Act}(h:Tms N IoB a.tmps){d:Nat}(hd:N.ok d=true)(v:Value):Tms ⟨N.n,N.r,(d,v)::N.k⟩ IoB (a.put (some d) v).tmps:=by
 have h1:=h.put hd v;refine⟨h1.size,h1.rd,λp hp=>?_⟩;rcases List.mem_cons.1 hp with rfl|hp
 .rw[xc a d v (by rw[h.size];exact NP.ok_lt hd),if_pos rfl]
 .exact h1.kp p hp
theorem MS.val(hs:MS N B IoB W0 F0 obs e a w){d:Nat}(hd:N.ok d=true){v:Value}{av:AV}(hfl:Pa av=true)(hav:∀F,Live F w->VR F B w (λ_=>none) av v) :
  MS ⟨N.n,N.r,(d,v)::N.k⟩ B IoB W0 F0 obs (put e d av) (a.put (some d) v) w:=by
 obtain⟨F,ow,hx⟩:=hs.sim.rep;refine⟨⟨hs.sim.defers,hs.sim.tmps.putK hd v,hs.sim.base,hs.sim.f0,Kept.refl _ _ _,F,λs=>if s=d then(λ_=>none) else ow s,?_⟩,hs.kept,hs.ob,hs.hB⟩;rw[show(λn=>(a.put (some d) v).tmps.getD n undef)=λn=>if n=d then v else a.tmps.getD n undef from funext (xc a d v (by rw[hs.sim.tmps.size];exact NP.ok_lt hd))];refine hx.put hs.sim.base (la.refl F w) hx.live (λi b h=>by simp at h) (λi i' b h=>by simp at h) (λg' _ _=>?_);rw[Bc hfl];simp only[if_true];exact hav F hx.live
theorem MS.alloc(hs:MS N B IoB W0 F0 obs e a w){d:Nat}(hd:N.ok d=true){v:Value}{o:Obj}(hc:isC o=false) :
  MS ⟨N.n,N.r,(d,v)::N.k⟩ B IoB W0 F0 ((w.heap.size,o)::obs) (put e d .dead) (a.put (some d) v) (w.alloc o):=by
 obtain⟨F,ow,hx⟩:=hs.sim.rep;have hh:=hs.sim.base;have hj:∀k,k<w.heap.size->(w.alloc o).heap[k]? = w.heap[k]?:=λk hk=>Lh o hk;have hg:la F w F (w.alloc o):=⟨rfl,rfl,rfl,by show w.heap.size<=(w.heap.push o).size;simp,hj,λ_ _ h=>h,λ_ _ h=>.inl h⟩;have hi:Kept B IoB w (w.alloc o):=⟨rfl,rfl,rfl,hg.size,λk hk _=>hj k (by omega),λk o' hk _=>by rw[hj k (Array.getElem?_eq_some_iff.1 hk).1];exact hk⟩;refine⟨⟨hs.sim.defers,hs.sim.tmps.putK hd v,Nat.le_trans hh hg.size,hs.sim.f0,Kept.refl _ _ _,F,λs=>if s=d then(λ_=>none) else ow s,?_⟩,hs.kept.trans hi,λp hp=>?_,hs.hB⟩
 .rw[show(λn=>(a.put (some d) v).tmps.getD n undef)=λn=>if n=d then v else a.tmps.getD n undef from funext (xc a d v (by rw[hs.sim.tmps.size];exact NP.ok_lt hd))];refine hx.put hh hg (λb i hb=>by rw[hg.live hx.live b i hb];exact hx.live b i hb) (λi b h=>by simp at h) (λi i' b h=>by simp at h) (λg' _ _=>trivial)
 .rcases List.mem_cons.1 hp with rfl|hp
  .exact⟨by show(w.heap.push o)[w.heap.size]? = some o;simp,hc,hh⟩
  .exact⟨by rw[hj _ (Array.getElem?_eq_some_iff.1 (hs.ob p hp).1).1];exact(hs.ob p hp).1,(hs.ob p hp).2⟩
theorem MS.set(hs:MS N B IoB W0 F0 obs e a w){r:Nat}{o0:Obj}(hr:(r,o0)∈obs){w':World}(hp:Pk w r w'){obs':List (Nat×Obj)}
  (ho:∀p∈obs',(p∈obs/\p.1≠r)\/(p.1=r/\w'.heap[r]? = some p.2/\isC p.2=false)):MS N B IoB W0 F0 obs' e a w':=by
 obtain⟨h1,h2,h3⟩:=hs.ob _ hr;obtain⟨F,ow,hx⟩:=hs.sim.rep;refine⟨⟨hs.sim.defers,hs.sim.tmps,by rw[hp.size];exact hs.sim.base,hs.sim.f0,Kept.refl _ _ _,F,_,hx.obj hp h1 h2⟩,?_,λp hpp=>?_,hs.hB⟩
 .have hh:∀k,k<W0.heap.size->k≠r:=λk hk e=>by have:=hs.hB;simp only at h3;omega
  refine⟨hp.os.trans hs.kept.os,hp.tape.trans hs.kept.tape,hp.output.trans hs.kept.output,by rw[hp.size];exact hs.kept.size,λk hk hio=>?_,λk o hk hc=>?_⟩
  .rw[hp.block k (hh k (by have:=hs.hB;omega))];exact hs.kept.block k hk hio
  .rw[hp.block k (hh k (Array.getElem?_eq_some_iff.1 hk).1)];exact hs.kept.obj k o hk hc
 .rcases ho p hpp with⟨q1,q2⟩|⟨q1,q2,q3⟩
  .exact⟨by rw[hp.block _ q2];exact(hs.ob p q1).1,(hs.ob p q1).2⟩
  .exact⟨by rw[q1];exact q2,q3,by rw[q1];exact h3⟩
theorem MS.bool(hs:MS N B IoB W0 F0 obs e a w){t:Nat}{k:K}{b:Bool}(hg:ba e t=.v k (.bool b)):a.eval (.tmp t)=.bool b:=by
 obtain⟨F,ow,hx⟩:=hs.sim.rep;have hh:=hx.sr t;rw[hg]at hh;exact Yd (hh.avr (λ_ _ h=>by cases h))
theorem MS.drew(hs:MS N B IoB W0 F0 obs e a w)(m:Nat):MS N B IoB W0 F0 obs e a { w with drawn:=m }:=by
 have h:=hs.sim.drew m;exact hs.of_sim h
end
section
variable {P:Program}{ops:Array Oper}{Q:Exit->Act->World->Prop}
end
def Au(ks:List Int):List Value:=ks.map (Value.int .i64)
def cp(ks:List Int):Value:=.agg (Au ks).toArray
abbrev MP:=List (List Int×Int)
def Bu(i:Nat)(p:List Int×Int):MapEntry:={ key:=cp p.1,val:=.int .i64 p.2,born:=i }
def dp:Nat->MP->List MapEntry
 |_,[]=>[]
 |i,p::r=>Bu i p::dp (i+1) r
def ep(m:MP):Obj:=.map (dp 0 m).toArray m.length
section
variable {P:Program}{K n:Nat}
def Cu(n:Nat)(m:MP):Prop:=∀p∈m,p.1.length=n
def Du(P:Program)(K n:Nat):Prop:=∀(b:Bool) (w:World) (ks:List Int),ks.length=n->(Instr.checkKey b 10000 K (cp ks)).run P w=.ok () w
structure Eu(P:Program)(T K E n:Nat):Prop where
 u:P.underlying T=some (.map K E)
 k:∃fs,P.underlying K=some (.struct fs)
 eq:jl P K n
 ck:Du P K n
 z:∀w,(zeroValue E).run P w=.ok (.int .i64 0) w
variable {T E:Nat} (M:Eu P T K E n) {w:World}{r:Nat}{m:MP} (hr:w.heap[r]? = some (ep m)) (hm:Cu n m) {ks:List Int} (hk:ks.length=n)
include M hr
include hm hk
omit hm hk in
end
def Fu(r:Nat)(m:MP)(S:List Nat):Obj:=.mapIter (some r) m.length S.toArray m.length
section
variable {P:Program}{w:World}{r it:Nat}{m:MP} (hr:w.heap[r]? = some (ep m)) {S:List Nat} (hit:w.heap[it]? = some (Fu r m S))
include hr hit
end
section
variable {P:Program}
end
section
variable {P:Program}{a:Act}{w:World}{o:Oper}
end
section
variable {P:Program}{N:NP}{B:Nat}{IoB:List Nat}{W0:World}{F0:Fz}{obs:List (Nat×Obj)}{e:Env}{a:Act}{w:World}{Q:Exit->Act->World->Prop}
theorem MS.weak{e':Env}(h:ya e e')(hs:MS N B IoB W0 F0 obs e a w):MS N B IoB W0 F0 obs e' a w:=⟨h _ _ _ _ _ _ _ hs.sim,hs.kept,hs.ob,hs.hB⟩
theorem MS.k(hs:MS N B IoB W0 F0 obs e a w){s:Nat}{v:Value}(h:(s,v)∈N.k):a.tmps.getD s undef=v:=hs.sim.tmps.kp _ h
theorem MS.o(hs:MS N B IoB W0 F0 obs e a w){r:Nat}{o:Obj}(h:(r,o)∈obs):w.heap[r]? = some o:=(hs.ob _ h).1
theorem MS.tmps(hs:MS N B [] W0 F0 obs e a w){D:List Nat}(hfl:ce e=true)(hd:∀d∈D,wa (ba e d)=true/\Nf d N.k=true)(hr:N.r=none){a':Act}(hdf:a'.defers=[])(hsz:a'.tmps.size=a.tmps.size)
  (heq:∀n,n ∉ D->a'.tmps.getD n undef=a.tmps.getD n undef):MS N B [] W0 F0 obs e a' w:=by
 obtain⟨F,ow,hx⟩:=hs.sim.rep;refine⟨⟨hdf,⟨hsz.trans hs.sim.tmps.size,(λs h=>by rw[hr]at h;cases h),λp hp=>?_⟩,hs.sim.base,hs.sim.f0,hs.sim.kept,F,ow,⟨hx.sub,hx.new,hx.live,hx.inj,λs i b h=>?_,λn=>?_⟩⟩,hs.kept,hs.ob,hs.hB⟩
 .rw[heq p.1 (λh=>Zk (hd p.1 h).2 p hp rfl)];exact hs.sim.tmps.kp p hp
 .have:=hx.bd s i b h;exact⟨this.1,this.2.elim .inl (λh=>by simp at h)⟩
 .have h1:=hx.sr n;by_cases hn:n∈D
  .have h2:=(hd n hn).1;cases hg:ba e n with
   |dead=>trivial
   |_=>rw[hg]at h2;simp[wa]at h2
  .have hf:=fi hfl n;rw[Bc hf]at h1⊢;simp only[heq n hn];exact h1
end
section
variable {P:Program}{tt:TT}{sp:SP}{B:Nat}{IoB:List Nat}{F0:Fz}{N:NP}{W0:World}
end
def Ty.nol:Ty->Bool
 |.lrow=>false
 |.litem=>false
 |.sess=>false
 |_=>true
def noL:C->Bool
 |.lst t _=>t.nol
 |_=>true
theorem Su{t:Ty}(ht:t.nol=true){x:t.T}{j:Nat}{c:C}(h:(cells t x)[j]? = some c):noL c=true:=by
 cases t<;>simp[Ty.nol]at ht
 all_goals
  (match j,h with
   |0,h=>simp[cells]at h;subst h;rfl
   |1,h=>first|(simp[cells]at h;done)|(simp[cells]at h;subst h;rfl)
   |2,h=>first|(simp[cells]at h;done)|(simp[cells]at h;subst h;rfl)
   |3,h=>first|(simp[cells]at h;done)|(simp[cells]at h;subst h;rfl)
   |4,h=>first|(simp[cells]at h;done)|(simp[cells]at h;subst h;rfl)
   |j+5,h=>simp[cells]at h)
def lp:Value->Bool
 |.slice _ _ _=>true
 |_=>false
theorem Tu{F:Fz}{lo:Nat}{w:World}{t:Ty}(ht:t.nol=true){x:t.T}{c:C}{v:Value}(h:(cells t x)[0]? = some c)(hr:RC F lo w c v):lp v=false:=by
 cases t<;>simp[Ty.nol]at ht<;>simp[cells]at h<;>subst h<;>cases hr<;>rfl
theorem RC.drop{F:Fz}{w:World}{b:Nat}(hb:∀o u,F b o->w.cell? ⟨b,o,none⟩=some u->lp u=true){lo:Nat}{c:C}{v:Value}(h:RC F lo w c v):noL c=true->RC (λb' o=>F b' o/\b'≠b) lo w c v:=by
 induction h with
 |int k n=>exact λ_=>.int k n
 |bool b=>exact λ_=>.bool b
 |str s=>exact λ_=>.str s
 |nl t=>exact λ_=>.nl t
 |nil t=>exact λ_=>.nil t
 |lst t xs b2 o cap vs hb2 hcap hf hc hr ih=>
  intro hn;have hn:t.nol=true:=hn;refine .lst t xs b2 o cap vs hb2 hcap (λi j hi hj=>⟨hf i j hi hj,λe=>?_⟩) hc (λi j x c hx hcc=>ih i j x c hx hcc (Su hn hcc));subst e;have hp:=Je t;have h1:=hb _ _ (hf i 0 hi hp) (hc i 0 hi hp);have hh:(cells t xs[i])[0]? = some ((cells t xs[i])[0]'(by rw[Zb];exact hp)):=List.getElem?_eq_getElem _;rw[Tu hn hh (hr i 0 _ _ (List.getElem?_eq_getElem hi) hh)]at h1;cases h1
section
variable {P:Program}{N:NP}{B:Nat}{IoB:List Nat}{W0:World}{F0:Fz}{obs:List (Nat×Obj)}{e:Env}{a:Act}{w:World}
theorem MS.freeze(hs:MS N B IoB W0 F0 obs e a w)(s:Nat):MS N B IoB W0 F0 obs (de e s) a w:=by
 obtain⟨F,ow,hx⟩:=hs.sim.rep;obtain⟨F',hi,hh⟩:=hx.freeze hs.sim.base s;exact⟨⟨hs.sim.defers,hs.sim.tmps,hs.sim.base,hs.sim.f0,hs.sim.kept,F',hi,hh⟩,hs.kept,hs.ob,hs.hB⟩
end
abbrev OkF(P:Program)(tt:TT)(fn:Func)(F:Fnn)(R:Type)(fr:Fr){A X Y Z:Type}(S:Sa R A X Y Z):Prop:=Ob P tt ⟨fn.ntmps,F.rd,[]⟩ fr (dc fn) F S
abbrev AV.B(l:List Int):AV:=.box (l.map λi=>(.fr,.i i))
abbrev AV.R(b:LB)(p:Int):AV:=.box [(.sh,.lst .byte b),(.fr,.i p)]
abbrev rvF(F:Fnn):F.rt.T->RV:=λq=>(some (F.rt.av q),.dead)
abbrev rvR(F:Fnn)(b:LB):F.rt.T×Int->RV:=λq=>(some (F.rt.av q.1),.R b q.2)
abbrev bs(l:List UInt8):ByteArray:=⟨l.toArray⟩
abbrev pE(p:Plan):Plan:=.mk p.Kind p.Num p.Kids
def pcT{R A X Y Z:Type}(t:Tr R A X Y Z)(path:List Nat)(env:Env)(rv:R->RV)(pn:A->Env:=by exact nE)(px:X->Nat×Env:=by exact nE)(py:Y->Nat×Env:=by exact nE)(pz:Z->Nat×Env:=by exact nE):Sa R A X Y Z:=⟨t.val,t.ob,path,env,rv,pn,px,py,pz⟩
def pcR{R A X Y Z:Type}(t:Tr R A X Y Z)(path:List Nat)(I:A->Env)(s:A)(rv:R->RV)(px:X->Nat×Env:=by exact nE)(py:Y->Nat×Env:=by exact nE)(pz:Z->Nat×Env:=by exact nE):Sa R A X Y Z:=⟨t.val,t.ob,path,I s,rv,I,px,py,pz⟩
noncomputable def pcL{σ R X Y Z:Type}[Inhabited R](S:σ->Sa R σ X Y Z)(s:σ):Sa R Empty X Y Z:=lpS (S s) (lpV (λs=>Ia (S s).o) s) (LpT (λs=>Ia (S s).o) (λs=>(S s).ob) s)
def Sb:Operand->Nat
 |.tmp t=>Nat.shiftLeft 1 t
 |_=>0
def ui:List Operand->Nat
 |[]=>0
 |x::r=>Nat.lor (Sb x) (ui r)
def wi:Option Operand->Nat
 |some x=>Sb x
 |none=>0
def np:List (Nat×Operand)->Nat
 |[]=>0
 |x::r=>Nat.lor (Sb x.2) (np r)
def Uu:Callee->Nat
 |.value f=>Sb f
 |.invoke r _=>Sb r
 |.builtin _=>0
def opM:Op->Nat
 |.move x|.assign x|.box _ x|.load _ x|.unOp _ _ x|.convert _ _ x|.makeInterface _ x|.fieldAddr _ x _|.field _ x _|.range _ x|.next x _|.entry x|.extract x _|.nilCheck x=>Sb x
 |.store _ x y|.binOp _ _ x y _|.makeSlice _ x y|.indexAddr _ x y|.index _ x y|.lookup _ x y _|.mapEntry _ x y=>Nat.lor (Sb x) (Sb y)
 |.pick x y z|.insert _ x y z|.mapUpdate _ x y z|.entryStore _ x y z=>Nat.lor (Sb x) (Nat.lor (Sb y) (Sb z))
 |.build _ ps|.buildSlice _ _ ps=>np ps.toList
 |.makeFunc _ a b=>Nat.lor (ui a.toList) (ui b.toList)
 |.makeMap _ x=>wi x
 |.slice _ x a b c=>Nat.lor (Sb x) (Nat.lor (wi a) (Nat.lor (wi b) (wi c)))
 |.call c=>Nat.lor (Uu c.callee) (ui c.args.toList)
 |_=>0
def lessM(a b:Nat):Nat:=Nat.xor a (Nat.land a b)
def qp:List Oper->Nat->Nat->Nat->Nat
 |[],m,n,out=>Nat.lor n (lessM out m)
 |o::r,m,n,out=>qp r (match o.dst with
  |some d=>Nat.lor m (Nat.shiftLeft 1 d)
  |none=>m) (Nat.lor n (lessM (opM o.op) m)) out
def rp:List (Nat×Nat)->Nat->Nat
 |[],_=>0
 |(i,a)::l,n=>match Nat.beq i n with
  |true=>a
  |false=>rp l n
def Ed(ret:Nat):Code->Nat->List (Nat×Nat)->Nat
 |.region _ ops _,out,_=>qp ops.toList 0 0 out
 |.exit i,_,ex=>rp ex i
 |.ret,_,_=>ret
 |.seq a b,out,ex=>Ed ret a (Ed ret b out ex) ex
 |.cond c a b,out,ex=>Nat.lor (Sb c) (Nat.lor (Ed ret a out ex) (Ed ret b out ex))
 |.block i a,out,ex=>Ed ret a out ((i,out)::ex)
 |.loop a,_,ex=>Ed ret a 0 ex
 |_,out,_=>out
def fm:Nat->Nat->Nat->List Nat
 |0,_,_=>[]
 |f+1,i,m=>match Nat.testBit m i with
  |true=>i::fm f (i+1) m
  |false=>fm f (i+1) m
def re(ret n:Nat):Code->Nat->List (Nat×Nat)->List (Nat×List Nat)->List (Nat×List Nat)
 |.region id _ _,out,_,k=>(id,fm n 0 out)::k
 |.seq a b,out,ex,k=>re ret n a (Ed ret b out ex) ex (re ret n b out ex k)
 |.cond _ a b,out,ex,k=>re ret n a out ex (re ret n b out ex k)
 |.block i a,out,ex,k=>re ret n a out ((i,out)::ex) k
 |.loop a,_,ex,k=>re ret n a (Ed ret a 0 ex) ex k
 |_,_,_,k=>k
def rsM:List ResultVar->Nat
 |[]=>0
 |.tmp t::r=>Nat.lor (Nat.shiftLeft 1 t) (rsM r)
 |.cell t _::r=>Nat.lor (Nat.shiftLeft 1 t) (rsM r)
def Vu(F:Fnn):Nat:=match F.rd with
 |some d=>Nat.lor (rsM F.rs) (Nat.shiftLeft 1 d)
 |none=>rsM F.rs
def kpF(n:Nat)(F:Fnn)(c:Code):List (Nat×List Nat):=re (Vu F) n c 0 [] []
section
variable {P:Program}{tt:TT}{N:NP}{sp:SP}{fr:Fr}{C:Code}{F:Fnn}{R:Type}
section
variable {A X Y Z:Type} [Dft A] [Dft X] [Dft Y] [Dft Z] {t:Tr R A X Y Z}{path:List Nat}{env:Env}{rv:R->RV}{pn:A->Env}{px:X->Nat×Env}{py:Y->Nat×Env}{pz:Z->Nat×Env}
theorem gm(G:Good P tt sp)(subs:pe R)(hs:Ue P tt N fr C F subs)
  (h:runT tt sp N F (kpF N.n F C) [] [] subs (Qa C path) path env (kn0 pn) (kx0 px py pz)=t.toE rv pn px py pz:=by kernel_rfl):Ob P tt N fr C F (pcT t path env rv pn px py pz):=em G subs hs _ [] [] t rfl rfl h
theorem Ja(G:Good P tt sp)(S:Env->mi R)(hs:∀e,Ob P tt N fr C F (S e).S)
  (h:runT tt sp N F (kpF N.n F C) [] [] [S] (Qa C path) path env (kn0 pn) (kx0 px py pz)=t.toE rv pn px py pz:=by kernel_rfl):Ob P tt N fr C F (pcT t path env rv pn px py pz):=em G [S] ⟨hs,trivial⟩ _ [] [] t rfl rfl h
theorem Ea(G:Good P tt sp)(h:runT tt sp N F (kpF N.n F C) [] [] [] (Qa C path) path env (kn0 pn) (kx0 px py pz)=t.toE rv pn px py pz:=by kernel_rfl):Ob P tt N fr C F (pcT t path env rv pn px py pz):=em G [] trivial _ [] [] t rfl rfl h
end
theorem fc{σ X Y Z:Type}[Inhabited R]{Sr:σ->Sa R σ X Y Z}{s0:σ}(hb:∀s,Ob P tt N fr C F (Sr s))(hpn:∀s,(Sr s).pn=λs'=>(Sr s').env:=by exact λ_=>rfl)
  (hp:∀s,(Sr s).path=0::(Sr s0).path.tail/\(Sr s).rv=(Sr s0).rv/\(Sr s).px=(Sr s0).px/\(Sr s).py=(Sr s0).py/\(Sr s).pz=(Sr s0).pz:=by exact λ_=>⟨rfl,rfl,rfl,rfl,rfl⟩)
  (hc:si (Qa C (Sr s0).path.tail)=true:=by kernel_rfl):Ob P tt N fr C F (pcL Sr s0):=Pu Sr s0 hpn hp hc hb
end
@[reducible] def Cur:List PT->Type->Type
  |[],T=>T
  |p::r,T=>p.T->Cur r T
@[reducible] def unc {T:Type}:(l:List PT)->Cur l T->va l->T
  |[],v,_=>v
  |_::r,v,x=>unc r (v x.1) x.2
abbrev spF(pts:List PT)(rt:RT)(v:Cur pts rt.T)(p:Cur pts Prop):Spec:=⟨pts,rt,false,λx=>(unc pts v x,0),λx=>unc pts p x⟩
abbrev spR(pts:List PT)(rt:RT)(v:Cur pts (rt.T×Int))(p:Cur pts Prop):Spec:=⟨pts,rt,true,λx=>unc pts v x,λx=>unc pts p x⟩
section
variable {P:Program}{tt:TT}{sp:SP}
theorem Oa{pts:List PT}{F:Fnn}{o:va pts->Oc Empty F.rt.T Empty Empty Empty}{ob:va pts->Prop}{f:Nat}{fn:Func}(G:Good P tt sp)
  (h:∀(x:va pts) (fr:Fr),OkF P tt fn F F.rt.T fr (Sa.mk (o x) (ob x) [] (La pts x 0) (λq=>(some (F.rt.av q),.dead)) nE nE nE nE)) (hF:(P.funcs[f]?,fn.name == "runtime.NumGoroutine",fn.body,fn.results,Nat.ble pts.length fn.ntmps,ra pts 0)=(some fn,false,some (dc fn),F.rs.toArray,true,F.rd):=by kernel_rfl) (hn:F.rd=none:=by exact rfl):Con P f ⟨pts,F.rt,false,λx=>(ocR (o x),0),ob⟩:=by
 obtain⟨rs,rt,rd,fz⟩:=F;cases hn;simp only[Prod.mk.injEq]at hF;obtain⟨h1,h2,h3,h4,h5,h6⟩:=hF;exact Qu G h1 h2 h3 h4 h5 (λ_=>h6) h6 (λx=>Sa.mk (o x) (ob x) [] (La pts x 0) (λq=>(some (rt.av q),.dead)) nE nE nE nE) (λ_=>⟨rfl,rfl,rfl,rfl,rfl⟩) h
theorem xi{pts:List PT}{F:Fnn}{k:Nat}{o:va pts->Oc Empty (F.rt.T×Int) Empty Empty Empty}{ob:va pts->Prop}{f:Nat}{fn:Func}(G:Good P tt sp)(bs:va pts->List Int)
  (h:∀(x:va pts) (fr:Fr),OkF P tt fn F (F.rt.T×Int) fr (Sa.mk (o x) (ob x) [] (La pts x 0) (λq=>(some (F.rt.av q.1),.box [(.sh,.lst .byte (bs x)),(.fr,.int .i64 q.2)])) nE nE nE nE)) (hF:(P.funcs[f]?,fn.name == "runtime.NumGoroutine",fn.body,fn.results,Nat.ble pts.length fn.ntmps,ra pts 0)=(some fn,false,some (dc fn),F.rs.toArray,true,F.rd):=by kernel_rfl) (hn:F.rd=some k:=by exact rfl) (hr:je F.rt=false:=by exact rfl)
  (hb:∀x,rdB pts x=some (bs x):=by exact λ_=>rfl):Con P f ⟨pts,F.rt,true,λx=>ocR (o x),ob⟩:=by
 obtain⟨rs,rt,rd,fz⟩:=F;cases hn;simp only[Prod.mk.injEq]at hF;obtain⟨h1,h2,h3,h4,h5,h6⟩:=hF;exact Ru G h1 h2 h3 h4 h5 (λh=>by rw[show je rt=false from hr]at h;cases h) h6 bs hb (λx=>Sa.mk (o x) (ob x) [] (La pts x 0) (λq=>(some (rt.av q.1),.box [(.sh,.lst .byte (bs x)),(.fr,.int .i64 q.2)])) nE nE nE nE) (λ_=>⟨rfl,rfl,rfl,rfl,rfl⟩) h
end
section
open Go Go.ChangeShapes Go.WideShapes Go.ChangeAt Go.RowKit
theorem Good.nil{P:Program}{tt:TT}(h:Ya P tt)(hm:P.follows .mixedOrders=true):Good P tt []:=⟨h,(λf s h=>by cases h),hm⟩
theorem Good.cons{P:Program}{tt:TT}{n:Nat}{d:Spec}{r:SP}(h:Con P n d)(G:Good P tt r):Good P tt ((n,d)::r):=⟨G.htt,λf s hs=>by
   simp only[spk]at hs;cases hb:Nat.beq n f with
   |true=>
    rw[hb]at hs;cases hs;rw[<-Nat.eq_of_beq_eq_true hb];exact h
   |false=>rw[hb]at hs;exact G.hsp f s hs,G.hm⟩
theorem Zy{P:Program}{W:World}{r:Reach}{base:Nat}{t e:TypeId}{a:Addr}{len cap:Nat}(ht:P.underlying t=some (.slice e))(h:Value.okWide P W r base t (.slice (some a) len cap)):a.spot=none:=by
 simp only[Value.okWide,ht,Cell.okWide,Cell.ok]at h;exact h.2.2.2.1
theorem az{P:Program}{H:Type}{enc:TypeId×Value->H}{W:World}{base:Nat}{r:Reach}{t e:TypeId}(ht:P.underlying t=some (.slice e))(he:P.underlying e=some (.int .u8))(hce:P.cellsOf e=1)
  {v0:Value}{d0:DataW H}{q1:List MemPlace} (h0:DataW.Trod enc P W 0 (λ_=>true) true t v0 d0 q1) (hok:Value.okWide P W r base t v0) :
  ∃(c:List Int) (F:Fz),(∀x∈c,0<=x/\x<=255)/\Live F W/\RC F 0 W (.lst .byte c) v0/\∀W':World,Below W.heap.size W W'->DataW.Trod enc P W' 0 (λx=>decide (x<W.heap.size)) true t v0 d0 q1:=by
 obtain⟨a0,len,cap,rfl⟩:=okWide_slice ht hok;obtain⟨fuel,hf⟩:=h0;rcases open_ints ht he hce hf with⟨hp,hx⟩|⟨a,hw,hh,zs,hp,_,hl,hm,hz,hx,hn,hv⟩
 .simp[Value.cells]at hp;obtain⟨rfl,rfl,rfl⟩:=hp;simp only[Prod.mk.injEq]at hx;obtain⟨rfl,rfl⟩:=hx;exact⟨[],λ_ _=>False,λx hx=>by simp at hx,λ_ _ h=>h.elim,.nil _,λW' _=>shut_slice_nil ht⟩
 simp[Value.cells]at hp;obtain⟨rfl,rfl,rfl⟩:=hp;simp only[Prod.mk.injEq]at hx;obtain⟨rfl,rfl⟩:=hx;simp only[if_true]at hz;have hr:=Zy ht hok;obtain⟨b,off,hy⟩:=a;have hr:hy=none:=hr;subst hr;have ho:∀j,j<zs.length->W.cell? ⟨b,off+j,none⟩=some (.int .u8 (zs.getD j 0)):=λj hj=>by rw[<-add_plain];exact hn j hj
 have hu:∀x∈zs,0<=x/\x<=255:=λx hx=>by
  have:=hv x hx;simpa [Lit.wf,IntKind.min,IntKind.max,IntKind.signed,IntKind.bits] using this
 have hs:(zs.take len).length=len:=by rw[List.length_take];omega
 refine⟨zs.take len,λb' o=>b'=b/\off<=o/\o<off+len,λx hx=>hu x (List.mem_of_mem_take hx),?_,?_,?_⟩
 .rintro b' o ⟨rfl,h1,h2⟩;have:=ho (o - off) (by omega);rw[show off+(o - off)=o by omega]at this;rw[this];rfl
 .have hq:=RC.lst (F:=λb' o=>b'=b/\off<=o/\o<off+len) (lo:=0) (w:=W) .byte (zs.take len) b off cap (λi _=>.int .u8 (zs.getD i 0)) (Nat.zero_le _) (by rw[hs];exact hl)
   (λi j hi hj=>?_) (λi j hi hj=>?_) (λi j x c hx hc=>?_)
  .rw[hs]at hq;exact hq
  .have hi:i<(zs.take len).length:=hi;rw[hs]at hi;have hj:j<1:=hj;exact⟨rfl,by omega,by show off+(i*1+j)<off+len;omega⟩
  .have hi:i<(zs.take len).length:=hi;rw[hs]at hi;have hj:j<1:=hj;have:j=0:=by omega
   subst this;show W.cell? ⟨b,off+(i*1+0),none⟩=_;rw[show off+(i*1+0)=off+i by omega];exact ho i (by omega)
  .match j,hc with
   |0,hc=>
    simp[cells]at hc;subst hc;have hx:(zs.take len)[i]? = some x:=hx
    have hi:i<len:=by
     have:=(List.getElem?_eq_some_iff.1 hx).1;omega
    rw[List.getElem?_take,if_pos hi]at hx;show RC _ _ _ (.int .u8 x) (.int .u8 (zs.getD i 0));rw[List.getD_eq_getElem?_getD,hx];exact .int _ _
   |j+1,hc=>simp[cells]at hc
 .intro W' hk
  have ha:=shut_ints' (enc:=enc) (P:=P) (w:=W') (base:=0) (spare:=λx=>decide (x<W.heap.size)) (held:=true) (b:=b) (off:=off) (len:=len) (cap:=cap) (zs:=zs) 0
   ht he hce (Nat.zero_le _) hl hm ?_ (λi hi=>?_) hv
  .exact⟨2,ha⟩
  .by_cases h0:zs.length=0
   .have h1:len=0:=by omega
    have h2:cap=0:=by omega
    rw[h0,h1,h2];simp
   .have hb:b<W.heap.size:=World.block_lt_of_cell? _ _ (ho 0 (by omega));simp[hb,hz]
  .have hb:b<W.heap.size:=World.block_lt_of_cell? _ _ (ho i hi);rw[World.cell?_of_block (w:=W) (hk.block b hb)];exact ho i hi
theorem mr{P:Program}{f:FuncId}{fn:Func}{s:ChangeSpec}{c:OpenClaim}
  (h1:(c.wf (OpenSpec.ofChange s))=true)
  (h2:(laidOutB P)=true)
  (h3:(mapsRowed P)=true)
  (h4:(fn.params.all (P.readableRec ·))=true)
  (h5:(namedTie P c.named s.vars)=true)
  (h6:((c.stops == []))=true)
  (h7:((P.stops == []))=true)
  (h8:((c.knobs == []))=true)
  (h9:((P.stopKnobs == []))=true)
  (h10:((c.inPlace == P.inPlace f))=true)
  (h11:((c.unfollowed == P.unfollowed f))=true)
  (h12:((c.recurses == P.recurses f))=true)
  (h13:((c.named == P.varsNamed f))=true)
  (h14:((c.maps == (fn.params.toList++s.plain.varTypes P).any (P.mapsRec ·)))=true)
  (h15:((c.ifaces == (fn.params.toList++s.plain.varTypes P).any (P.ifacesRec ·)))=true)
  (h16:((c.mapsOut == P.mapsAmong fn.resultTypes.toList))=true)
  (h17:((c.loops == (fn.params.toList++s.plain.varTypes P).any (P.loopsFrom ·)))=true)
  (h18:((c.wideKeys == (fn.params.toList++s.plain.varTypes P++fn.resultTypes.toList).any (P.wideKeysFrom ·)))=true)
  (h19:(s.vars.all (P.varReadable ·))=true)
  (h20:(fn.resultTypes.all (λt=>P.readableRec t&&decide (t<P.types.size)))=true)
  (h21:((c.ifacesOut == fn.resultTypes.toList.any (P.ifacesRec ·)))=true)
  (h22:((c.loopsOut == fn.resultTypes.toList.any (P.loopsFrom ·)))=true)
  (h23:((c.plainKeys == P.plainKeys))=true)
  (h24:(c.shortTexts.isNone)=true)
  (h25:(P.stopsHeard)=true)
  (h26:(P.mayEnter)=true)
  (h27:((c.lifted == P.liftsFinal))=true)
  (h28:((P.make == some c.make))=true)
  (h29:((c.kinds == (if c.domain.isEmpty then [] else fn.params.toList.map λt=>match P.underlying t with|some (.int k)=>some k|_=>none)))=true)
  (h30:((c.pinned == c.pinnedBy))=true)
  (h31:((c.veiled == (fn.params.toList++s.plain.varTypes P++fn.resultTypes.toList).any (P.veiledRec ·)))=true)
  (h32:(c.veiledFits P fn.params.toList (fn.params.toList++s.plain.varTypes P++fn.resultTypes.toList))=true):joinedFacts P f fn s c=true:=by
 unfold joinedFacts;simp only[Bool.and_eq_true];exact⟨⟨⟨⟨⟨⟨⟨⟨⟨⟨⟨⟨⟨⟨⟨⟨⟨⟨⟨⟨⟨⟨⟨⟨⟨⟨⟨⟨⟨⟨⟨h1,h2⟩,h3⟩,h4⟩,h5⟩,h6⟩,h7⟩,h8⟩,h9⟩,h10⟩,h11⟩,h12⟩,h13⟩,h14⟩,h15⟩,h16⟩,h17⟩,h18⟩,h19⟩,h20⟩,h21⟩,h22⟩,h23⟩,h24⟩,h25⟩,h26⟩,h27⟩,h28⟩,h29⟩,h30⟩,h31⟩,h32⟩
theorem nr{C:Checked}{os:Os}{H:Type}{enc:TypeId×Value->H}{f:FuncId}{fn:Func}{s:ChangeSpec}{conds:List PathCond}{laid:List (String×DataW Unit)}(own:ownKnob C.prog.godebug=none)(started:os.Started)(noInit:C.prog.inits.idxOf? f=none)(hfn:C.prog.funcs[f]? = some fn)
  (witness:∃(w:World) (tape:Tape) (i:Input),w.os=os/\(w.forCall tape i).Shaped C.prog/\i.vars=[]/\Input.okWide C.prog (w.forCall tape i) .any w.heap.size f i /\
    ((s.pre enc C.prog fn conds false (w.forCall tape i).memory i.args/\laidMetH C.prog laid (w.forCall tape i).memory)/\sizedMet enc C.prog fn (OpenSpec.ofChange s) false (w.forCall tape i).memory i.args)/\({}:Assume).holds C.prog (lone (Frame.enter C.prog f i.args .normal) [] (w.forCall tape i)))
  {t e r:TypeId} (hp:fn.params=#[t]) (hr:fn.resultTypes=#[r]) (ht:C.prog.underlying t=some (.slice e)) (he:C.prog.underlying e=some (.int .u8)) (hce:C.prog.cellsOf e=1) (hrb:C.prog.underlying r=some .bool)
  (hs:∀d,s.fn H [d]={ results:=[.lit (.bool true)],args:=[d] }) (hv:s.vars=[])
  {v:List Int->Bool}{p:List Int->Prop} (hcon:Con C.prog f ⟨[.lst .byte],.one .fr .bool,false,λx=>(v x.1,0),λx=>p x.1⟩) (h:∀c:List Int,(∀x∈c,0<=x/\x<=255)->p c/\v c=true) :
  ReturnsInHanded {} C os f .any (λw args=>(s.pre enc C.prog fn conds false w args/\laidMetH C.prog laid w)/\sizedMet enc C.prog fn (OpenSpec.ofChange s) false w args) (s.post enc C.prog fn false true false false):=by
 refine returnsInHanded_of_change_and (C:=C) (X:=λw _=>laidMetH C.prog laid w) (λ_ _ _ hh h=>h.of_heap hh) own started noInit hfn witness ?_;intro W base args ds gs before hz hW _ _ _ _;have hy:∀(j:Nat) t v,fn.params[j]? = some t->args[j]? = some v->Value.okWide C.prog W .any base t v:=hz;have hj:=hW;obtain⟨q1,q2,hi,hV,rfl,hn,_⟩:=hW;have hA:DataW.TrodAll enc C.prog W 0 (λ_=>true) true fn.params.toList args.toList ds q1:=hi;rw[hp]at hA hy;obtain⟨v0,d0,rfl,rfl,h0⟩:=trodAll_one hA;rw[hv]at hV;obtain⟨rfl,rfl⟩:=trodVars_none hV;obtain⟨c,F,hc,hl,hq,hu⟩:=az ht he hce h0 (hy 0 t v0 rfl rfl);obtain⟨h1,h2⟩:=h c hc;simp only[List.append_nil]at hj;refine(hcon.call (c,()) h1 W F [v0] none hl ⟨_,[],rfl,hq,rfl,rfl⟩).mono λe W' he=>?_;obtain⟨v1,F',ow,rfl,ho,_,_,ha,_⟩:=he;have ha:RC F' W.heap.size W' (.bool (v c)) v1:=ha;rw[h2]at ha;have hw:v1=.bool true:=by cases ha;rfl
 subst hw;have hm:Below W.heap.size W W':=⟨ho.os,ho.tape,ho.output,ho.size,λk hk=>ho.block k hk (by simp)⟩;refine⟨_,rfl,[d0],[],q1,[],q1,[],hj,?_,?_,?_,hm.frame _,λh=>by cases h⟩
 .rw[hr];show DataW.TrodAll enc C.prog W' _ _ _ [r] [.bool true] (s.fn H ([d0]++[])).results [];rw[List.append_nil,hs];exact trodAll_mk1 (shut_bool hrb true)
 .rw[hp];show DataW.TrodAll enc C.prog W' _ _ _ [t] [v0] (s.fn H ([d0]++[])).args q1;rw[List.append_nil,hs];exact trodAll_mk1 (hu W' hm)
 .rw[hv,List.append_nil,hs];exact rfl
end
end Go.Proofs.YtlfflhpmkoiemaaDoor
