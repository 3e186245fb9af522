/-
  'timesOf' and 'FlowTimes': the times of a set, in order; the times of a key's rows, closed under joins. 'FlowTimes' whole: the walk. What an aggregate makes of changes sums up, at each time, to what it makes of the sums. Batches joined, put together, negated: the program's functions and the reference's. Batches put together, negated, copied; aggregates of items: the program's functions and the reference's. Aggregates of items: the program's functions and the reference's. The times of a key's rows, closed under joins: the reference's function. Batches aggregated: the program's function and the reference's. Plans: when they are valid. What plans make of batches: the program's function and the reference's are the model's. What is drawn for a plan over batches: bounds. Laws of plans over batches: that they make batches; that what is taken away twice is there, and a plan and its taking away make nothing; that a plan makes of its parts what they make. No statement is proved here.
-/
import Derived.Test.YtiiidenbemkihaaGreatB1
namespace Go.Proofs.YtiiidenbemkihaaGreat
open Go
section
namespace Tg
open Go
theorem Eh{a b:Int}(h1 : -1000000000000<=a/\a<=1000000000000)(h2 : -1000000000000<=b/\b<=1000000000000):ar .add .i64 a b=a+b:=Zb (by omega)
theorem ttF:Ub Tryz.prog tt:=gm (by kernel_rfl)
theorem foF : Tryz.prog.follows .mixedOrders=true:=by kernel_rfl
theorem g0:Good Tryz.prog tt []:=.nil ttF foF
theorem gT:Con Tryz.prog 51 jl:=qQ (.nil ttF foF)
theorem Pag:Con Tryz.prog 55 jq:=FQ (.cons gT (.nil ttF foF))
theorem g1:Good Tryz.prog tt [(55,jq)]:=.cons Pag (.nil ttF foF)
theorem Qag:Con Tryz.prog 81 yq:=WQ (.cons gT (.nil ttF foF))
theorem g2:Good Tryz.prog tt [(81,yq)]:=.cons Qag (.nil ttF foF)
noncomputable def C7:Code:=ee Tryz.f165
abbrev LT(x:List Time):AV:=.v (.acc true) (.lst .time x)
abbrev N7(r:Nat):NP:=⟨27,none,[(0,.map (some r))]⟩
noncomputable def o8(i:Nat):Oper:=opN (opsOf (nav C7 [1,1,0,1,0,0,1,0,0,1,0,0,1,0,0,0])) i
theorem op8:(o8 0).op=.move (.tmp 0)/\(o8 0).dst=some 15/\(o8 0).guard=none/\(o8 4).op=.lookup 155 (.tmp 15) (.tmp 18) false/\(o8 4).dst=some 19/\(o8 4).guard=none /\
  (o8 1).guard=none/\(o8 2).guard=none/\(o8 3).guard=none/\(o8 1).dst=some 16/\(o8 2).dst=some 17/\(o8 3).dst=some 18:=⟨by kernel_rfl,by kernel_rfl,by kernel_rfl,by kernel_rfl,by kernel_rfl,by kernel_rfl,by kernel_rfl,by kernel_rfl,by kernel_rfl,by kernel_rfl,by kernel_rfl,by kernel_rfl⟩
theorem at8:List.range (opsOf (nav C7 [1,1,0,1,0,0,1,0,0,1,0,0,1,0,0,0])).size=[0,1,2,3,4]/\∀i,i<5->(opsOf (nav C7 [1,1,0,1,0,0,1,0,0,1,0,0,1,0,0,0]))[i]? = some (o8 i):=by
 refine⟨by kernel_rfl,λi hi=>?_⟩;rcases (show i=0\/i=1\/i=2\/i=3\/i=4 by omega) with rfl|rfl|rfl|rfl|rfl<;>kernel_rfl
noncomputable def Rag:TypeInfo:=(Tryz.prog.info? 32).get (by kernel_rfl)
noncomputable def sv4:TypeInfo:=(Tryz.prog.info? 4).get (by kernel_rfl)
noncomputable def fsT:Array Field:=match Tryz.prog.underlying 32 with
 |some (.struct fs)=>fs
 |_=>#[]
def ae(S:wa)(i:Int)(n:Nat):List Time:=((List.range n).filter λb:Nat=>decide ([i,(b:Int)]∈S)).map λb:Nat=>(⟨i,(b:Int)⟩ : Time)
def Rf(S:wa):Nat->List Time
 |0=>[]
 |n+1=>Rf S n++ae S n 8
def Nb(S:wa):List Time:=Rf S 8
theorem iT(S:wa)(i:Int)(n:Nat):(ae S i n).length<=n:=by
 unfold ae;rw[List.length_map];exact Nat.le_trans (List.length_filter_le _ _) (by simp)
theorem RI(S:wa):∀n,(Rf S n).length<=8*n
 |0=>by simp[Rf]
 |n+1=>by
  have h1:=RI S n;have h2:=iT S n 8;simp only[Rf,List.length_append];omega
theorem lT(S:wa)(i:Int)(n:Nat):ae S i (n+1)=ae S i n++(if [i,(n:Int)]∈S then [(⟨i,(n:Int)⟩ : Time)] else []):=by
 unfold ae;rw[List.range_succ,List.filter_append,List.map_append]
 congr 1
 by_cases h : [i,(n:Int)]∈S<;>simp[h]
theorem sty:bT Tryz.prog 155 32 4 2:=by
 refine⟨by kernel_rfl,⟨fsT,by kernel_rfl⟩,ttF.eq _ ⟨.struct [(0,1),(1,1)],2,[.int .i64 0,.int .i64 0],some .time,true⟩ (by kernel_rfl) rfl,
  lE (fs:=fsT) (i:=Rag) (by kernel_rfl) (by kernel_rfl) (by kernel_rfl) (by kernel_rfl),λw=>?_⟩
 have hi : Tryz.prog.info? 4=some sv4:=by kernel_rfl
 have hz:sv4.zero=some (.bool false):=by kernel_rfl
 simp[zeroValue,typeInfo,hi,hz]
def E7(l:List Time)(i j:Int):Env:=[(3,LT l),(4,.v .fr (.int .i64 i)),(5,.v .fr (.int .i64 j))]
def E7'(l:List Time)(i:Int):Env:=[(3,LT l),(4,.v .fr (.int .i64 i))]
set_option maxRecDepth 20000 in
theorem Sag{Q:Exit->Act->World->Prop}{B:Nat}{W0:World}{F0:Fz}{r:Nat}{S:wa}(hS:dc 2 S)(hW:W0.heap[r]? = some (Oa S)){l:List Time}{i j:Int}{a:Act}{w:World}(hs:MS (N7 r) B [] W0 F0 [] (E7 l i j) a w)
  (hQ:∀a w,MS (N7 r) B [] W0 F0 [] [(3,LT l),(4,.v .fr (.int .i64 i)),(5,.v .fr (.int .i64 j)),(19,.v .fr (.bool (decide ([i,j]∈S))))] a w->Q .normal a w):(nav C7 [1,1,0,1,0,0,1,0,0,1,0,0,1,0,0,0]).wp Tryz.prog Q a w:=by
 obtain⟨p0,d0,q0,p4,d4,q4,q1,q2,q3,d1,d2,d3⟩:=op8;refine Gc (by kernel_rfl) at8.1 ?_;rw[wpOps_cons];refine ra (at8.2 0 (by omega)) q0 ?_;refine Ra (Ae p0) ?_;rw[d0,wpOps_cons,hs.k (s:=0) (v:=.map (some r)) (by simp)];have h1:=hs.val (d:=15) (by kernel_rfl) (v:=.map (some r)) (av:=.dead) rfl (λ_ _=>trivial);refine ra (at8.2 1 (by omega)) q1 ?_;refine h1.stepF g0 (ops:=opsOf (nav C7 [1,1,0,1,0,0,1,0,0,1,0,0,1,0,0,0])) (e':=(16,.v .fr (.int .i64 i))::(15,.dead)::E7 l i j) (ps:=[]) q1 (by kernel_rfl) trivial (λd h=>by rw[d1]at h;cases h;kernel_rfl) (λa2 w2 h2=>?_);rw[wpOps_cons];refine ra (at8.2 2 (by omega)) q2 ?_;refine h2.stepF g0 (ops:=opsOf (nav C7 [1,1,0,1,0,0,1,0,0,1,0,0,1,0,0,0])) (e':=(17,.v .fr (.int .i64 j))::(16,.v .fr (.int .i64 i))::(15,.dead)::E7 l i j) (ps:=[]) q2 (by kernel_rfl) trivial (λd h=>by rw[d2]at h;cases h;kernel_rfl) (λa3 w3 h3=>?_);rw[wpOps_cons];refine ra (at8.2 3 (by omega)) q3 ?_;refine h3.stepF g0 (ops:=opsOf (nav C7 [1,1,0,1,0,0,1,0,0,1,0,0,1,0,0,0])) (e':=(18,.agg true [.int .i64 i,.int .i64 j])::(17,.v .fr (.int .i64 j))::(16,.v .fr (.int .i64 i))::(15,.dead)::E7 l i j) (ps:=[]) q3 (by kernel_rfl) trivial (λd h=>by rw[d3]at h;cases h;kernel_rfl) (λa4 w4 h4=>?_);rw[wpOps_cons];refine ra (at8.2 4 (by omega)) q4 ?_;have hm:w4.heap[r]? = some (Oa S):=h4.kept.obj _ _ hW rfl
 have hh:a4.tmps.getD 18 undef=Ha [i,j]:=by
  obtain⟨F,ow,hx⟩:=h4.sim.rep;obtain⟨vs,h1,h2⟩:=hx.sr 18;have h1:a4.tmps.getD 18 undef=.agg vs.toArray:=h1;rw[h1];cases h2 with
  |cons c1 h2=>cases h2 with
   |cons c2 h2=>cases h2;cases c1;cases c2;rfl
 refine Ra (Vs p4 (by rw[h4.k (s:=15) (v:=.map (some r)) (by simp),hh];exact cT sty hm hS rfl)) ?_;rw[d4];have h5:=h4.val (d:=19) (by kernel_rfl) (v:=.bool (decide ([i,j]∈S))) (av:=.v .fr (.bool (decide ([i,j]∈S)))) rfl (λ_ _=>.bool _);refine sc _ (hQ _ _ ?_);exact(h5.weak (xa.cast (pat:=[(3,.same),(4,.same),(5,.same),(19,.same)]) (by kernel_rfl) (by kernel_rfl))).forget rfl rfl (λp hp=>by simp at hp⊢;simp[hp]) (λp hp=>hp)
set_option maxRecDepth 20000 in
theorem Tag{Q:Exit->Act->World->Prop}{B:Nat}{W0:World}{F0:Fz}{r:Nat}{S:wa}(hS:dc 2 S)(hW:W0.heap[r]? = some (Oa S)){l:List Time}(hl:l.length<=100){i:Int}{a:Act}{w:World}(hs:MS (N7 r) B [] W0 F0 [] (E7 l i 0) a w)
  (hQ:∀a w,MS (N7 r) B [] W0 F0 [] (E7' (l++ae S i 8) i) a w->Q .normal a w):(nav C7 [1,1,0,1,0,0,1,0,0,1]).wp Tryz.prog Q a w:=by
 refine Nc (c1:=nav C7 [1,1,0,1,0,0,1,0,0,1,0]) (id:=2) (by kernel_rfl) ?_;rw[show nav C7 [1,1,0,1,0,0,1,0,0,1,0]=.loop (nav C7 [1,1,0,1,0,0,1,0,0,1,0,0]) by kernel_rfl];refine We (σ:=Nat) (λj a w=>j<=8/\MS (N7 r) B [] W0 F0 [] (E7 (l++ae S i j) i j) a w) (λj=>8 - j) ?_ 0 ⟨by omega,by simpa [ae] using hs⟩;rintro j a w ⟨hj,hs⟩;refine ma (c1:=nav C7 [1,1,0,1,0,0,1,0,0,1,0,0,0]) (c2:=nav C7 [1,1,0,1,0,0,1,0,0,1,0,0,1]) (by kernel_rfl) ?_;refine ma (c1:=nav C7 [1,1,0,1,0,0,1,0,0,1,0,0,0,0]) (c2:=nav C7 [1,1,0,1,0,0,1,0,0,1,0,0,0,1]) (by kernel_rfl) ?_;refine MS.regC g0 (keep:=[3,4,5,12]) (e':=[(3,LT (l++ae S i j)),(4,.v .fr (.int .i64 i)),(5,.v .fr (.int .i64 j)),(12,.v .fr (.bool (cmp .leq j 7)))]) (ps:=[]) (by kernel_rfl) trivial hs (λa w hs=>?_);show(nav C7 [1,1,0,1,0,0,1,0,0,1,0,0,0,1]).wp _ _ a w;refine ld (o:=.tmp 12) (c1:=nav C7 [1,1,0,1,0,0,1,0,0,1,0,0,0,1,0]) (c2:=nav C7 [1,1,0,1,0,0,1,0,0,1,0,0,0,1,1]) (by kernel_rfl) (hs.bool (k:=.fr) rfl) (λht=>Md (by kernel_rfl) ?_) (λhf=>jg (i:=2) (by kernel_rfl) ?_)
 .have hk:j<=7:=by
   have:=of_decide_eq_true (show decide ((j:Int)<=7)=true from ht);omega
  have hh:∀ {a:Act}{w:World},MS (N7 r) B [] W0 F0 [] (E7 (l++ae S i (j+1)) i j) a w->(nav C7 [1,1,0,1,0,0,1,0,0,1,0,0,1,1]).wp Tryz.prog (λe a' w'=>Exit.then (λa' w'=>∃s',8 - s'<8 - j/\(s'<=8/\MS (N7 r) B [] W0 F0 [] (E7 (l++ae S i s') i s') a' w')) (Exit.inBlock 2 Q) e a' w') a w:=λhs=>by
   refine MS.regC g0 (keep:=[3,4,5]) (e':=E7 (l++ae S i (j+1)) i (ar .add .i64 j 1)) (ps:=[]) (by kernel_rfl) trivial hs (λa w hs=>?_);refine⟨j+1,by omega,by omega,?_⟩;rw[Eh (by omega) (by omega)]at hs;exact hs
  show(nav C7 [1,1,0,1,0,0,1,0,0,1,0,0,1]).wp _ _ a w;refine ma (c1:=nav C7 [1,1,0,1,0,0,1,0,0,1,0,0,1,0]) (c2:=nav C7 [1,1,0,1,0,0,1,0,0,1,0,0,1,1]) (by kernel_rfl) ?_;refine Nc (c1:=nav C7 [1,1,0,1,0,0,1,0,0,1,0,0,1,0,0]) (id:=3) (by kernel_rfl) ?_;refine ma (c1:=nav C7 [1,1,0,1,0,0,1,0,0,1,0,0,1,0,0,0]) (c2:=nav C7 [1,1,0,1,0,0,1,0,0,1,0,0,1,0,0,1]) (by kernel_rfl) ?_;refine Sag hS hW (hs.weak (xa.cast (e':=E7 (l++ae S i j) i j) (pat:=[(3,.same),(4,.same),(5,.same)]) (by kernel_rfl) (by kernel_rfl))) (λa w hs=>?_);show(nav C7 [1,1,0,1,0,0,1,0,0,1,0,0,1,0,0,1]).wp _ _ a w;refine ld (o:=.tmp 19) (c1:=nav C7 [1,1,0,1,0,0,1,0,0,1,0,0,1,0,0,1,0]) (c2:=nav C7 [1,1,0,1,0,0,1,0,0,1,0,0,1,0,0,1,1]) (by kernel_rfl) (hs.bool (k:=.fr) rfl) (λht=>?_) (λhf=>Md (by kernel_rfl) ?_)
  .have hm : [i,(j:Int)]∈S:=of_decide_eq_true ht;have hlen:=iT S i j;refine MS.regC g0 (keep:=[3,4,5]) (e':=E7 (l++ae S i j++[⟨i,j⟩]) i j) (ps:=[lim (ba .time (l++ae S i j)) (ba .time [(⟨i,j⟩ : Time)])]) (by kernel_rfl) ⟨by simp[lim,ba];omega,trivial⟩ hs (λa w hs=>?_);refine hh ?_;rw[lT,if_pos hm,<-List.append_assoc];exact hs
  .have hm:¬ [i,(j:Int)]∈S:=of_decide_eq_false hf;refine hh ?_;rw[lT,if_neg hm,List.append_nil];exact hs.weak (xa.cast (pat:=[(3,.same),(4,.same),(5,.same)]) (by kernel_rfl) (by kernel_rfl))
 .have hi:j=8:=by
   have:=of_decide_eq_false (show decide ((j:Int)<=7)=false from hf);omega
  subst hi;show Exit.inBlock 2 Q (.exit 2) a w;simp only[Exit.inBlock,if_true];exact hQ a w (hs.weak (xa.cast (pat:=[(3,.same),(4,.same)]) (by kernel_rfl) (by kernel_rfl)))
set_option maxRecDepth 20000 in
theorem Uag{Q:Exit->Act->World->Prop}{B:Nat}{W0:World}{F0:Fz}{r:Nat}{S:wa}(hS:dc 2 S)(hW:W0.heap[r]? = some (Oa S)){a:Act}{w:World}(hs:MS (N7 r) B [] W0 F0 [] (E7' [] 0) a w)
  (hQ:∀a w,MS (N7 r) B [] W0 F0 [] [(3,LT (Nb S))] a w->Q .normal a w):(nav C7 [1,1,0,1]).wp Tryz.prog Q a w:=by
 refine Nc (c1:=nav C7 [1,1,0,1,0]) (id:=0) (by kernel_rfl) ?_;rw[show nav C7 [1,1,0,1,0]=.loop (nav C7 [1,1,0,1,0,0]) by kernel_rfl];refine We (σ:=Nat) (λi a w=>i<=8/\MS (N7 r) B [] W0 F0 [] (E7' (Rf S i) i) a w) (λi=>8 - i) ?_ 0 ⟨by omega,hs⟩;rintro i a w ⟨hi,hs⟩;refine ma (c1:=nav C7 [1,1,0,1,0,0,0]) (c2:=nav C7 [1,1,0,1,0,0,1]) (by kernel_rfl) ?_;refine ma (c1:=nav C7 [1,1,0,1,0,0,0,0]) (c2:=nav C7 [1,1,0,1,0,0,0,1]) (by kernel_rfl) ?_;refine MS.regC g0 (keep:=[3,4,8]) (e':=[(3,LT (Rf S i)),(4,.v .fr (.int .i64 i)),(8,.v .fr (.bool (cmp .leq i 7)))]) (ps:=[]) (by kernel_rfl) trivial hs (λa w hs=>?_);show(nav C7 [1,1,0,1,0,0,0,1]).wp _ _ a w;refine ld (o:=.tmp 8) (c1:=nav C7 [1,1,0,1,0,0,0,1,0]) (c2:=nav C7 [1,1,0,1,0,0,0,1,1]) (by kernel_rfl) (hs.bool (k:=.fr) rfl) (λht=>Md (by kernel_rfl) ?_) (λhf=>jg (i:=0) (by kernel_rfl) ?_)
 .have hj:i<=7:=by
   have:=of_decide_eq_true (show decide ((i:Int)<=7)=true from ht);omega
  have hlen:=RI S i;show(nav C7 [1,1,0,1,0,0,1]).wp _ _ a w;refine ma (c1:=nav C7 [1,1,0,1,0,0,1,0]) (c2:=nav C7 [1,1,0,1,0,0,1,1]) (by kernel_rfl) ?_;refine Nc (c1:=nav C7 [1,1,0,1,0,0,1,0,0]) (id:=1) (by kernel_rfl) ?_;refine ma (c1:=nav C7 [1,1,0,1,0,0,1,0,0,0]) (c2:=nav C7 [1,1,0,1,0,0,1,0,0,1]) (by kernel_rfl) ?_;refine MS.regC g0 (keep:=[3,4,5]) (e':=E7 (Rf S i) i 0) (ps:=[]) (by kernel_rfl) trivial hs (λa w hs=>?_);refine Tag hS hW (by omega) hs (λa w hs=>?_);show(nav C7 [1,1,0,1,0,0,1,1]).wp _ _ a w;refine MS.regC g0 (keep:=[3,4]) (e':=E7' (Rf S (i+1)) (ar .add .i64 i 1)) (ps:=[]) (by kernel_rfl) trivial hs (λa w hs=>?_);refine⟨i+1,by omega,by omega,?_⟩;rw[Eh (by omega) (by omega)]at hs;exact hs
 .have hh:i=8:=by
   have:=of_decide_eq_false (show decide ((i:Int)<=7)=false from hf);omega
  subst hh;show Exit.inBlock 0 Q (.exit 0) a w;simp only[Exit.inBlock,if_true];exact hQ a w (hs.weak (xa.cast (pat:=[(3,.same)]) (by kernel_rfl) (by kernel_rfl)))
set_option maxRecDepth 20000 in
theorem tim{w0:World}{r:Nat}{S:wa}(hS:dc 2 S)(hr:w0.heap[r]? = some (Oa S)){F:Fz}(hF:Live F w0):Calls Tryz.prog 165 #[.map (some r)] w0 (λe w'=>∃v F',e=.returned v/\RC F' w0.heap.size w' (.lst .time (Nb S)) v/\Pa F w0 F' w'/\Live F' w'):=by
 refine calls_of_wp (fn:=Tryz.f165) (c:=C7) (by kernel_rfl) (by kernel_rfl) ?_;have hn:(Tryz.f165).ntmps=27:=by kernel_rfl
 rw[hn]
 have hj:Sim (N7 r) w0.heap.size [] w0 F [] { tmps:=#[.map (some r)]++Array.replicate (27 - (#[Value.map (some r)]).size) undef,defers:=[] } w0:=by
  refine⟨rfl,⟨by simp,(λs h=>by cases h),λp hp=>?_⟩,Nat.le_refl _,(λb o h=>⟨hF.lt h,by simp⟩),Kept.refl _ _ _,F,λ_ _=>none,⟨λ_ _ h=>h,λ_ _ h=>.inl h,hF,λs i s' i' b h=>(by cases h),λs i b h=>(by cases h),λs=>trivial⟩⟩;have hp:p=(0,.map (some r)):=by simpa using hp
  subst hp;show(#[Value.map (some r)]++Array.replicate 26 undef).getD 0 undef=.map (some r);rw[Array.getD_eq_getD_getElem?,Array.getElem?_append_left (by simp)];simp
 have hh:=MS.of hj rfl;refine ma (c1:=nav C7 [0]) (c2:=nav C7 [1]) (by kernel_rfl) ?_;refine MS.regC g0 (keep:=[]) (e':=[]) (ps:=[]) (by kernel_rfl) trivial hh (λa w hs=>?_);show(nav C7 [1]).wp _ _ a w;refine ma (c1:=nav C7 [1,0]) (c2:=nav C7 [1,1]) (by kernel_rfl) ?_;refine MS.regC g0 (keep:=[3]) (e':=[(3,LT [])]) (ps:=[]) (by kernel_rfl) trivial hs (λa w hs=>?_);show(nav C7 [1,1]).wp _ _ a w;refine ma (c1:=nav C7 [1,1,0]) (c2:=nav C7 [1,1,1]) (by kernel_rfl) ?_;refine ma (c1:=nav C7 [1,1,0,0]) (c2:=nav C7 [1,1,0,1]) (by kernel_rfl) ?_;refine MS.regC g0 (keep:=[3,4]) (e':=E7' [] 0) (ps:=[]) (by kernel_rfl) trivial hs (λa w hs=>?_);refine Uag hS hr hs (λa w hs=>?_);show(nav C7 [1,1,1]).wp _ _ a w;refine ma (c1:=nav C7 [1,1,1,0]) (c2:=nav C7 [1,1,1,1]) (by kernel_rfl) ?_;refine MS.regC g0 (keep:=[2]) (e':=[(2,LT (Nb S))]) (ps:=[]) (by kernel_rfl) trivial hs (λa w hs=>?_);refine Pi (by kernel_rfl) ?_;have ht:=hs.to;obtain⟨F',ow,hx⟩:=ht.rep;have h2:RC F' w0.heap.size w (.lst .time (Nb S)) (a.tmps.getD 2 undef):=(show ya F' (lof w0.heap.size true) w (ow 2 none) (.lst .time (Nb S)) (a.tmps.getD 2 undef) from hx.sr 2).1
 have hi:=Ls (P:=Tryz.prog) (w:=w) (tmps:=a.tmps) (fn:=Tryz.f165) (rs:=[.tmp 2]) (by kernel_rfl) (vs:=[a.tmps.getD 2 undef]) rfl (λj rv v h h'=>by
  cases j with
  |zero=>simp only[List.getElem?_cons_zero,Option.some.injEq]at h h';subst h;subst h';rfl
  |succ j=>simp at h)
 exact⟨ht.defers,_,hi,_,F',rfl,h2,⟨ht.kept.os,ht.kept.tape,ht.kept.output,ht.kept.size,λk hk=>ht.kept.block k hk (by simp),hx.sub,λb o h=>(hx.new b o h).imp_right λh=>h.elim id (λh=>by simp at h)⟩,hx.live⟩
noncomputable def C8:Code:=ee Tryz.f136
abbrev N8(r:Nat):NP:=⟨61,none,[(5,.map (some r))]⟩
noncomputable def q3(i:Nat):Oper:=opN (opsOf (nav C8 [1,1,0])) i
noncomputable def q13(i:Nat):Oper:=opN (opsOf (nav C8 [1,1,1,1,0,1,0,0,1,0,1,0])) i
noncomputable def q26(i:Nat):Oper:=opN (opsOf (nav C8 [1,1,1,1,1,0])) i
theorem ops3:(q3 0).op=.makeMap 155 none/\(q3 0).dst=some 18/\(q3 0).guard=none/\(q3 1).op=.assign (.tmp 18)/\(q3 1).dst=some 5/\(q3 1).guard=none /\
  List.range (opsOf (nav C8 [1,1,0])).size=[0,1]/\(opsOf (nav C8 [1,1,0]))[0]? = some (q3 0)/\(opsOf (nav C8 [1,1,0]))[1]? = some (q3 1):=⟨by kernel_rfl,by kernel_rfl,by kernel_rfl,by kernel_rfl,by kernel_rfl,by kernel_rfl,by kernel_rfl,by kernel_rfl,by kernel_rfl⟩
theorem Vag:(q13 0).op=.move (.tmp 5)/\(q13 0).dst=some 34/\(q13 0).guard=none/\(q13 1).op=.call ⟨.value (.func 165),#[.tmp 34],#[155]⟩/\(q13 1).dst=some 35/\(q13 1).guard=none/\(q13 2).dst=some 9/\(q13 2).guard=none /\
  List.range (opsOf (nav C8 [1,1,1,1,0,1,0,0,1,0,1,0])).size=[0,1,2]/\(opsOf (nav C8 [1,1,1,1,0,1,0,0,1,0,1,0]))[0]? = some (q13 0)/\(opsOf (nav C8 [1,1,1,1,0,1,0,0,1,0,1,0]))[1]? = some (q13 1)/\(opsOf (nav C8 [1,1,1,1,0,1,0,0,1,0,1,0]))[2]? = some (q13 2):=⟨by kernel_rfl,by kernel_rfl,by kernel_rfl,by kernel_rfl,by kernel_rfl,by kernel_rfl,by kernel_rfl,by kernel_rfl,by kernel_rfl,by kernel_rfl,by kernel_rfl,by kernel_rfl⟩
theorem Wag:(q26 0).op=.move (.tmp 5)/\(q26 0).dst=some 59/\(q26 0).guard=none/\(q26 1).op=.call ⟨.value (.func 165),#[.tmp 59],#[155]⟩/\(q26 1).dst=some 60/\(q26 1).guard=none/\(q26 2).dst=some 4/\(q26 2).guard=none /\
  List.range (opsOf (nav C8 [1,1,1,1,1,0])).size=[0,1,2]/\(opsOf (nav C8 [1,1,1,1,1,0]))[0]? = some (q26 0)/\(opsOf (nav C8 [1,1,1,1,1,0]))[1]? = some (q26 1)/\(opsOf (nav C8 [1,1,1,1,1,0]))[2]? = some (q26 2):=⟨by kernel_rfl,by kernel_rfl,by kernel_rfl,by kernel_rfl,by kernel_rfl,by kernel_rfl,by kernel_rfl,by kernel_rfl,by kernel_rfl,by kernel_rfl,by kernel_rfl,by kernel_rfl⟩
def se(k:Int):List Row->wa->wa
 |[],S=>S
 |x::r,S=>se k r (if x.Key=k then Fd S (tK x.At) else S)
def mT(x:Row):AV:=.box [(.fr,.int .i64 x.Key),(.fr,.int .i64 x.Val),(.fr,.int .i64 x.At.A),(.fr,.int .i64 x.At.B),(.fr,.int .i64 x.Diff)]
def EA(xs:List Row)(k i:Int):Env:=[(1,.v .fr (.int .i64 k)),(19,.v .sh (.lst .row xs)),(20,.v .fr (.int .i64 (ba .row xs))),(21,.v .fr (.int .i64 i))]
def EB(xs:List Row)(k i:Int)(x:Row):Env:=[(1,.v .fr (.int .i64 k)),(7,mT x),(19,.v .sh (.lst .row xs)),(20,.v .fr (.int .i64 (ba .row xs))),(21,.v .fr (.int .i64 i))]
theorem Xag{n:Nat}{S:wa}(h:dc n S){ks:List Int}(hk:ks.length=n):dc n (Fd S ks):=by
 unfold Fd;split
 .exact h
 .intro p hp;rcases List.mem_append.1 hp with hp|hp
  .exact h p hp
  .simp at hp;subst hp;exact hk
noncomputable def r8(i:Nat):Oper:=opN (opsOf (nav C8 [1,1,1,0,1,0,0,1,1,0,0,1,1,0])) i
theorem Yag:(r8 0).op=.move (.tmp 5)/\(r8 0).dst=some 29/\(r8 0).guard=none/\(r8 1).dst=some 30/\(r8 1).guard=none/\(r8 2).dst=some 31/\(r8 2).guard=none /\
  (r8 3).op=.mapUpdate 155 (.tmp 29) (.tmp 31) (.const (.bool true))/\(r8 3).dst=none/\(r8 3).guard=none/\List.range (opsOf (nav C8 [1,1,1,0,1,0,0,1,1,0,0,1,1,0])).size=[0,1,2,3]:=⟨by kernel_rfl,by kernel_rfl,by kernel_rfl,by kernel_rfl,by kernel_rfl,by kernel_rfl,by kernel_rfl,by kernel_rfl,by kernel_rfl,by kernel_rfl,by kernel_rfl⟩
theorem xC:∀i,i<4->(opsOf (nav C8 [1,1,1,0,1,0,0,1,1,0,0,1,1,0]))[i]? = some (r8 i):=by
 intro i hi;rcases (show i=0\/i=1\/i=2\/i=3 by omega) with rfl|rfl|rfl|rfl<;>kernel_rfl
set_option maxRecDepth 20000 in
theorem Zag{Q:Exit->Act->World->Prop}{B:Nat}{W0:World}{F0:Fz}{r:Nat}{S:wa}(hS:dc 2 S){xs:List Row}{k i:Int}{x:Row}{a:Act}{w:World}(hs:MS (N8 r) B [] W0 F0 [(r,Oa S)] (EB xs k i x) a w)
  (hQ:∀a w,MS (N8 r) B [] W0 F0 [(r,Oa (Fd S (tK x.At)))] (EA xs k i) a w->Q .normal a w):(nav C8 [1,1,1,0,1,0,0,1,1,0,0,1,1,0]).wp Tryz.prog Q a w:=by
 obtain⟨p0,d0,q0,d1,q1,d2,q2,p3,d3,q3,hsz⟩:=Yag;refine Gc (by kernel_rfl) hsz ?_;rw[wpOps_cons];refine ra (xC 0 (by omega)) q0 ?_;refine Ra (Ae p0) ?_;rw[d0,wpOps_cons,hs.k (s:=5) (v:=.map (some r)) (by simp)];have h1:=hs.val (d:=29) (by kernel_rfl) (v:=.map (some r)) (av:=.dead) rfl (λ_ _=>trivial);refine ra (xC 1 (by omega)) q1 ?_;refine h1.stepF g0 (ops:=opsOf (nav C8 [1,1,1,0,1,0,0,1,1,0,0,1,1,0])) (e':=(30,.baddr 7 2)::(29,.dead)::EB xs k i x) (ps:=[]) q1 (by kernel_rfl) trivial (λd h=>by rw[d1]at h;cases h;kernel_rfl) (λa2 w2 h2=>?_);rw[wpOps_cons];refine ra (xC 2 (by omega)) q2 ?_;refine h2.stepF g0 (ops:=opsOf (nav C8 [1,1,1,0,1,0,0,1,1,0,0,1,1,0])) (e':=(31,.agg true [.int .i64 x.At.A,.int .i64 x.At.B])::(30,.baddr 7 2)::(29,.dead)::EB xs k i x) (ps:=[]) q2 (by kernel_rfl) trivial (λd h=>by rw[d2]at h;cases h;kernel_rfl) (λa3 w3 h3=>?_);rw[wpOps_cons];refine ra (xC 3 (by omega)) q3 ?_;have hm:w3.heap[r]? = some (Oa S):=h3.o (by simp)
 have hh:a3.tmps.getD 31 undef=Ha (tK x.At):=by
  obtain⟨F,ow,hx⟩:=h3.sim.rep;obtain⟨vs,h1,h2⟩:=hx.sr 31;have h1:a3.tmps.getD 31 undef=.agg vs.toArray:=h1;rw[h1];cases h2 with
  |cons c1 h2=>cases h2 with
   |cons c2 h2=>cases h2;cases c1;cases c2;rfl
 refine Oi (fT p3 (by rw[h3.k (s:=29) (v:=.map (some r)) (by simp),hh];exact dT sty hm hS rfl)) ?_;rw[d3];refine sc _ (hQ _ _ ?_)
 have h4:=h3.set (r:=r) (o0:=Oa S) (by simp) (zh w3 r (Oa (Fd S (tK x.At)))) (obs':=[(r,Oa (Fd S (tK x.At)))]) (λp hp=>by
  simp at hp;subst hp;exact .inr ⟨rfl,Ah hm,rfl⟩)
 have hw:xa ((31,.agg true [.int .i64 x.At.A,.int .i64 x.At.B])::(30,.baddr 7 2)::(29,.dead)::EB xs k i x) (EA xs k i):=by
  have he:mask (clean ((31,.agg true [.int .i64 x.At.A,.int .i64 x.At.B])::(30,.baddr 7 2)::(29,.dead)::EB xs k i x)) [1,19,20,21]=EA xs k i:=by kernel_rfl
  rw[<-he];exact λ_ _ _ _ _ _ _ hs=>hs.cleanMask _
 exact(h4.weak hw).forget rfl rfl (λp hp=>by simp at hp⊢;simp[hp]) (λp hp=>hp)
theorem SI(k:Int)(x:Row):∀(l:List Row) (S:wa),se k (l++[x]) S=if x.Key=k then Fd (se k l S) (tK x.At) else se k l S
 |[],_S=>rfl
 |_y::r,_S=>SI k x r _
theorem nT(k:Int):∀(l:List Row) (S:wa),dc 2 S->dc 2 (se k l S)
 |[],S,h=>h
 |x::r,S,h=>by
  simp only[se];refine nT k r _ ?_;split
  .exact Xag h rfl
  .exact h
set_option maxRecDepth 20000 in
theorem loopA{xs:List Row}{k:Int}(hlim:xs.length<=1000000){Q:Exit->Act->World->Prop}{B:Nat}{W0:World}{F0:Fz}{r:Nat}{a:Act}{w:World}(hs:MS (N8 r) B [] W0 F0 [(r,Oa [])] (EA xs k 0) a w)
  (hQ:∀a w,MS (N8 r) B [] W0 F0 [(r,Oa (se k xs []))] [] a w->Q .normal a w):(nav C8 [1,1,1,0,1]).wp Tryz.prog Q a w:=by
 refine Nc (c1:=nav C8 [1,1,1,0,1,0]) (id:=0) (by kernel_rfl) ?_;rw[show nav C8 [1,1,1,0,1,0]=.loop (nav C8 [1,1,1,0,1,0,0]) by kernel_rfl];refine We (σ:=Nat) (λi a w=>i<=xs.length/\MS (N8 r) B [] W0 F0 [(r,Oa (se k (xs.take i) []))] (EA xs k i) a w) (λi=>xs.length - i) ?_ 0 ⟨Nat.zero_le _,hs⟩;rintro i a w ⟨hi,hs⟩;refine ma (c1:=nav C8 [1,1,1,0,1,0,0,0]) (c2:=nav C8 [1,1,1,0,1,0,0,1]) (by kernel_rfl) ?_;refine MS.regC g0 (keep:=[1,19,20,21,22]) (e':=[(1,.v .fr (.int .i64 k)),(19,.v .sh (.lst .row xs)),(20,.v .fr (.int .i64 (ba .row xs))),(21,.v .fr (.int .i64 i)),(22,.v .fr (.bool (cmp .lss i (ba .row xs))))]) (ps:=[]) (by kernel_rfl) trivial hs (λa w hs=>?_);show(nav C8 [1,1,1,0,1,0,0,1]).wp _ _ a w;refine ma (c1:=nav C8 [1,1,1,0,1,0,0,1,0]) (c2:=nav C8 [1,1,1,0,1,0,0,1,1]) (by kernel_rfl) ?_;refine ld (o:=.tmp 22) (c1:=nav C8 [1,1,1,0,1,0,0,1,0,0]) (c2:=nav C8 [1,1,1,0,1,0,0,1,0,1]) (by kernel_rfl) (hs.bool (k:=.fr) rfl) (λht=>Md (by kernel_rfl) ?_) (λhf=>jg (i:=0) (by kernel_rfl) ?_)
 .have hl:i<xs.length:=by
   have:=of_decide_eq_true (show decide ((i:Int)<ba .row xs)=true from ht);unfold ba at this;omega
  have hm:xs.take (i+1)=xs.take i++[rd .row xs i]:=by
   rw[List.take_succ_eq_append_getElem hl]
   congr 2
   unfold rd;rw[List.getD_eq_getElem?_getD,show(i:Int).toNat=i from rfl,List.getElem?_eq_getElem hl];rfl
  have hh:∀ {a:Act}{w:World},MS (N8 r) B [] W0 F0 [(r,Oa (se k (xs.take (i+1)) []))] (EA xs k i) a w->(nav C8 [1,1,1,0,1,0,0,1,1,1]).wp Tryz.prog (λe a' w'=>Exit.then (λa' w'=>∃s',xs.length - s'<xs.length - i/\(s'<=xs.length/\MS (N8 r) B [] W0 F0 [(r,Oa (se k (xs.take s') []))] (EA xs k s') a' w')) (Exit.inBlock 0 Q) e a' w') a w:=λhs=>by
   refine MS.regC g0 (keep:=[1,19,20,21]) (e':=EA xs k (ar .add .i64 i 1)) (ps:=[]) (by kernel_rfl) trivial hs (λa w hs=>?_);refine⟨i+1,by omega,by omega,?_⟩;rw[Eh (by omega) (by omega)]at hs;exact hs
  show(nav C8 [1,1,1,0,1,0,0,1,1]).wp _ _ a w;refine ma (c1:=nav C8 [1,1,1,0,1,0,0,1,1,0]) (c2:=nav C8 [1,1,1,0,1,0,0,1,1,1]) (by kernel_rfl) ?_;refine Nc (c1:=nav C8 [1,1,1,0,1,0,0,1,1,0,0]) (id:=1) (by kernel_rfl) ?_;refine ma (c1:=nav C8 [1,1,1,0,1,0,0,1,1,0,0,0]) (c2:=nav C8 [1,1,1,0,1,0,0,1,1,0,0,1]) (by kernel_rfl) ?_;refine MS.regC g0 (keep:=[1,7,19,20,21]) (e':=EB xs k i (rd .row xs i)) (ps:=[inb i (ba .row xs)]) (by kernel_rfl) ⟨⟨by omega,by unfold ba;omega⟩,trivial⟩ hs (λa w hs=>?_);show(nav C8 [1,1,1,0,1,0,0,1,1,0,0,1]).wp _ _ a w;refine ma (c1:=nav C8 [1,1,1,0,1,0,0,1,1,0,0,1,0]) (c2:=nav C8 [1,1,1,0,1,0,0,1,1,0,0,1,1]) (by kernel_rfl) ?_;refine MS.regC g0 (keep:=[1,7,19,20,21,28]) (e':=[(1,.v .fr (.int .i64 k)),(7,mT (rd .row xs i)),(19,.v .sh (.lst .row xs)),(20,.v .fr (.int .i64 (ba .row xs))),(21,.v .fr (.int .i64 i)),(28,.v .fr (.bool (cmp .eql (rd .row xs i).Key k)))]) (ps:=[]) (by kernel_rfl) trivial hs (λa w hs=>?_);show(nav C8 [1,1,1,0,1,0,0,1,1,0,0,1,1]).wp _ _ a w;refine ld (o:=.tmp 28) (c1:=nav C8 [1,1,1,0,1,0,0,1,1,0,0,1,1,0]) (c2:=nav C8 [1,1,1,0,1,0,0,1,1,0,0,1,1,1]) (by kernel_rfl) (hs.bool (k:=.fr) rfl) (λht=>?_) (λhf=>Md (by kernel_rfl) ?_)
  .have hk:(rd .row xs i).Key=k:=by simpa [cmp] using ht
   refine Zag (xs:=xs) (k:=k) (i:=i) (x:=rd .row xs i) (nT k _ [] (λp hp=>by cases hp)) (hs.weak (xa.cast (e':=EB xs k i (rd .row xs i)) (pat:=[(1,.same),(7,.same),(19,.same),(20,.same),(21,.same)]) (by kernel_rfl) (by kernel_rfl))) (λa w hs=>?_);refine hh ?_;rw[hm,SI,if_pos hk];exact hs
  .have hk:¬ (rd .row xs i).Key=k:=by simpa [cmp] using hf
   refine hh ?_;rw[hm,SI,if_neg hk];exact hs.weak (xa.cast (pat:=[(1,.same),(19,.same),(20,.same),(21,.same)]) (by kernel_rfl) (by kernel_rfl))
 .have hj:xs.length<=i:=by
   have:=of_decide_eq_false (show decide ((i:Int)<ba .row xs)=false from hf);unfold ba at this;omega
  show Exit.inBlock 0 Q (.exit 0) a w;simp only[Exit.inBlock,if_true];refine hQ a w ?_;rw[List.take_of_length_le hj]at hs;exact hs.weak (xa.cast (pat:=[]) (by kernel_rfl) (by kernel_rfl))
theorem oT{N:NP}{B:Nat}{W0:World}{F0:Fz}{obs:List (Nat×Obj)}{e:Env}{a:Act}{w:World}(hs:MS N B [] W0 F0 obs e a w){r:Nat}{S:wa}(hS:dc 2 S)(hr:(r,Oa S)∈obs){o:Oper}{x d:Nat}
  (hop:o.op=.call ⟨.value (.func 165),#[.tmp x],#[155]⟩) (hx:a.tmps.getD x undef=.map (some r)) (hd:o.dst=some d) (hdN:N.ok d=true) {next:Act->World->Prop}{Q:Exit->Act->World->Prop}
  (hn:∀v w',MS ⟨N.n,N.r,(d,v)::N.k⟩ B [] W0 F0 obs (put e d (.v .fr (.lst .time (Nb S)))) (a.put (some d) v) w'->next (a.put (some d) v) w'):o.wp Tryz.prog a w next Q:=by
 have hj : Tryz.prog.funcs[165]? = some Tryz.f165:=by kernel_rfl
 have ho:((Tryz.f165).name == "runtime.NumGoroutine")=false:=by kernel_rfl
 have hh:(Tryz.f165).body.isNone=false:=by kernel_rfl
 have hu:(execOp a.eval o).run Tryz.prog w=.ok (.enter 165 #[.map (some r)]) w:=by
  obtain⟨dst,op,ty,pos,aft,gd⟩:=o;simp only[]at hop;subst hop;have hq:¬ (Tryz.f165).name="runtime.NumGoroutine":=by simpa using ho
  have hi:¬ (Tryz.f165).body=none:=by intro e;rw[e]at hh;simp at hh
  simp[execOp,resolve,Act.eval,Deferred.ofValue,invoke,callFunc,hj,hq,hi,hx]
 unfold Oper.wp;rw[hu,Oper.upon_enter];obtain⟨F,ow,hv⟩:=hs.sim.rep;refine(tim hS (hs.o hr) (F:=F) hv.live).mono ?_;rintro e' w' ⟨v,F',rfl,ht,hg,hl⟩;show next (a.put o.dst v) w';rw[hd];refine hn v w' ?_
 have hm:Kept B [] w w':=⟨hg.os,hg.tape,hg.output,hg.size,λk hk _=>hg.block k (Nat.lt_of_lt_of_le hk hs.sim.base),λk o hk _=>by
  rw[hg.block k (Array.getElem?_eq_some_iff.1 hk).1];exact hk⟩
 refine⟨⟨hs.sim.defers,hs.sim.tmps.putK hdN v,Nat.le_trans hs.sim.base hg.size,hs.sim.f0,Kept.refl _ _ _,F',λs=>if s=d then(λ_=>none) else ow s,?_⟩,hs.kept.trans hm,λp hp=>⟨hm.obj _ _ (hs.ob p hp).1 (hs.ob p hp).2.1,(hs.ob p hp).2⟩,hs.hB⟩;rw[show(λn=>(a.put (some d) v).tmps.getD n undef)=λn=>if n=d then v else a.tmps.getD n undef from funext (Ga a d v (by rw[hs.sim.tmps.size];exact NP.ok_lt hdN))];refine hv.put hs.sim.base hg hl (λi b h=>by simp at h) (λi i' b h=>by simp at h) (λg' _ _=>?_);show RC F' B w' _ (if d=d then v else _);rw[if_pos rfl];exact ht.mono (λ_ _ h=>h) hs.sim.base (λ_ _ _=>rfl)
abbrev TL(l:List Time):AV:=.v .fr (.lst .time l)
def Hl(t:Time):AV:=.box [(.fr,.int .i64 t.A),(.fr,.int .i64 t.B)]
def EJ(l:List Time)(b:Bool)(i:Int)(s:Time)(j:Int):Env:=[(8,.v .fr (.bool b)),(9,TL l),(11,Hl s),(36,TL l),(37,.v .fr (.int .i64 (ba .time l))),(38,.v .fr (.int .i64 i)),(42,TL l),(43,.v .fr (.int .i64 (ba .time l))),(44,.v .fr (.int .i64 j))]
def EI(l:List Time)(b:Bool)(i:Int):Env:=[(8,.v .fr (.bool b)),(9,TL l),(36,TL l),(37,.v .fr (.int .i64 (ba .time l))),(38,.v .fr (.int .i64 i))]
def Sf(st:wa×Bool)(t:Time):wa×Bool:=if tK t∈st.1 then st else(st.1++[tK t],true)
theorem aah{st:wa×Bool}(h:dc 2 st.1)(t:Time):dc 2 (Sf st t).1:=by
 unfold Sf;split
 .exact h
 .intro p hp;rcases List.mem_append.1 hp with hp|hp
  .exact h p hp
  .simp at hp;subst hp;rfl
def EK(l:List Time)(b:Bool)(i:Int)(s:Time)(j:Int)(t:Time):Env:=(14,Hl t)::EJ l b i s j
noncomputable def r21(i:Nat):Oper:=opN (opsOf (nav C8 [1,1,1,1,0,1,0,0,1,0,1,1,1,0,0,1,1,0,0,1,1,0,0,1,1,0,0,1,1,0])) i
noncomputable def r22(i:Nat):Oper:=opN (opsOf (nav C8 [1,1,1,1,0,1,0,0,1,0,1,1,1,0,0,1,1,0,0,1,1,0,0,1,1,0,0,1,1,1,0,0])) i
theorem bah:(r21 0).op=.move (.tmp 5)/\(r21 0).dst=some 51/\(r21 0).guard=none/\(r21 1).dst=some 52/\(r21 1).guard=none/\(r21 2).op=.lookup 155 (.tmp 51) (.tmp 52) false/\(r21 2).dst=some 53/\(r21 2).guard=none/\(r21 3).dst=some 54/\(r21 3).guard=none /\
  List.range (opsOf (nav C8 [1,1,1,1,0,1,0,0,1,0,1,1,1,0,0,1,1,0,0,1,1,0,0,1,1,0,0,1,1,0])).size=[0,1,2,3]/\(opsOf (nav C8 [1,1,1,1,0,1,0,0,1,0,1,1,1,0,0,1,1,0,0,1,1,0,0,1,1,0,0,1,1,0]))[0]? = some (r21 0)/\(opsOf (nav C8 [1,1,1,1,0,1,0,0,1,0,1,1,1,0,0,1,1,0,0,1,1,0,0,1,1,0,0,1,1,0]))[1]? = some (r21 1)/\(opsOf (nav C8 [1,1,1,1,0,1,0,0,1,0,1,1,1,0,0,1,1,0,0,1,1,0,0,1,1,0,0,1,1,0]))[2]? = some (r21 2)/\(opsOf (nav C8 [1,1,1,1,0,1,0,0,1,0,1,1,1,0,0,1,1,0,0,1,1,0,0,1,1,0,0,1,1,0]))[3]? = some (r21 3):=⟨by kernel_rfl,by kernel_rfl,by kernel_rfl,by kernel_rfl,by kernel_rfl,by kernel_rfl,by kernel_rfl,by kernel_rfl,by kernel_rfl,by kernel_rfl,by kernel_rfl,by kernel_rfl,by kernel_rfl,by kernel_rfl,by kernel_rfl⟩
set_option maxRecDepth 20000 in
theorem cah{Q:Exit->Act->World->Prop}{B:Nat}{W0:World}{F0:Fz}{r:Nat}{S:wa}(hS:dc 2 S){l:List Time}{b:Bool}{i j:Int}{s t:Time}{a:Act}{w:World}(hs:MS (N8 r) B [] W0 F0 [(r,Oa S)] (EK l b i s j t) a w)
  (hQ:∀a w,MS (N8 r) B [] W0 F0 [(r,Oa S)] ((54,.v .fr (.bool (!decide (tK t∈S))))::EK l b i s j t) a w->Q .normal a w):(nav C8 [1,1,1,1,0,1,0,0,1,0,1,1,1,0,0,1,1,0,0,1,1,0,0,1,1,0,0,1,1,0]).wp Tryz.prog Q a w:=by
 obtain⟨p0,d0,q0,d1,q1,p2,d2,q2,d3,q3,hsz,a0,a1,a2,a3⟩:=bah;refine Gc (by kernel_rfl) hsz ?_;rw[wpOps_cons];refine ra a0 q0 ?_;refine Ra (Ae p0) ?_;rw[d0,wpOps_cons,hs.k (s:=5) (v:=.map (some r)) (by simp)];have h1:=hs.val (d:=51) (by kernel_rfl) (v:=.map (some r)) (av:=.dead) rfl (λ_ _=>trivial);refine ra a1 q1 ?_;refine h1.stepF g0 (ops:=opsOf (nav C8 [1,1,1,1,0,1,0,0,1,0,1,1,1,0,0,1,1,0,0,1,1,0,0,1,1,0,0,1,1,0])) (e':=(52,.agg true [.int .i64 t.A,.int .i64 t.B])::(51,.dead)::EK l b i s j t) (ps:=[]) q1 (by kernel_rfl) trivial (λd h=>by rw[d1]at h;cases h;kernel_rfl) (λa' w' h2=>?_);rw[wpOps_cons];refine ra a2 q2 ?_;have hm:w'.heap[r]? = some (Oa S):=h2.o (by simp)
 have hh:a'.tmps.getD 52 undef=Ha (tK t):=by
  obtain⟨F,ow,hx⟩:=h2.sim.rep;obtain⟨vs,h1,h2⟩:=hx.sr 52;have h1:a'.tmps.getD 52 undef=.agg vs.toArray:=h1;rw[h1];cases h2 with
  |cons c1 h2=>cases h2 with
   |cons c2 h2=>cases h2;cases c1;cases c2;rfl
 refine Ra (Vs p2 (by rw[h2.k (s:=51) (v:=.map (some r)) (by simp),hh];exact cT sty hm hS rfl)) ?_;rw[d2,wpOps_cons];have h3:=h2.val (d:=53) (by kernel_rfl) (v:=.bool (decide (tK t∈S))) (av:=.v .fr (.bool (decide (tK t∈S)))) rfl (λ_ _=>.bool _);refine ra a3 q3 ?_;refine h3.stepF g0 (ops:=opsOf (nav C8 [1,1,1,1,0,1,0,0,1,0,1,1,1,0,0,1,1,0,0,1,1,0,0,1,1,0,0,1,1,0])) (e':=(54,.v .fr (.bool (!decide (tK t∈S))))::(53,.v .fr (.bool (decide (tK t∈S))))::(52,.agg true [.int .i64 t.A,.int .i64 t.B])::(51,.dead)::EK l b i s j t) (ps:=[]) q3 (by kernel_rfl) trivial (λd h=>by rw[d3]at h;cases h;kernel_rfl) (λa'' w'' h4=>?_);refine sc _ (hQ _ _ ?_);exact(h4.weak (xa.cast (pat:=[(54,.same),(14,.same),(8,.same),(9,.same),(11,.same),(36,.same),(37,.same),(38,.same),(42,.same),(43,.same),(44,.same)]) (by kernel_rfl) (by kernel_rfl))).forget rfl rfl (λp hp=>by simp at hp⊢;simp[hp]) (λp hp=>hp)
theorem dah:(r22 0).op=.move (.tmp 5)/\(r22 0).dst=some 55/\(r22 0).guard=none/\(r22 1).dst=some 56/\(r22 1).guard=none/\(r22 2).op=.mapUpdate 155 (.tmp 55) (.tmp 56) (.const (.bool true))/\(r22 2).dst=none/\(r22 2).guard=none /\
  List.range (opsOf (nav C8 [1,1,1,1,0,1,0,0,1,0,1,1,1,0,0,1,1,0,0,1,1,0,0,1,1,0,0,1,1,1,0,0])).size=[0,1,2]/\(opsOf (nav C8 [1,1,1,1,0,1,0,0,1,0,1,1,1,0,0,1,1,0,0,1,1,0,0,1,1,0,0,1,1,1,0,0]))[0]? = some (r22 0)/\(opsOf (nav C8 [1,1,1,1,0,1,0,0,1,0,1,1,1,0,0,1,1,0,0,1,1,0,0,1,1,0,0,1,1,1,0,0]))[1]? = some (r22 1)/\(opsOf (nav C8 [1,1,1,1,0,1,0,0,1,0,1,1,1,0,0,1,1,0,0,1,1,0,0,1,1,0,0,1,1,1,0,0]))[2]? = some (r22 2):=⟨by kernel_rfl,by kernel_rfl,by kernel_rfl,by kernel_rfl,by kernel_rfl,by kernel_rfl,by kernel_rfl,by kernel_rfl,by kernel_rfl,by kernel_rfl,by kernel_rfl,by kernel_rfl⟩
set_option maxRecDepth 20000 in
theorem eah{Q:Exit->Act->World->Prop}{B:Nat}{W0:World}{F0:Fz}{r:Nat}{S:wa}(hS:dc 2 S){l:List Time}{b:Bool}{i j:Int}{s t:Time}{a:Act}{w:World}(hs:MS (N8 r) B [] W0 F0 [(r,Oa S)] (EK l b i s j t) a w)
  (hQ:∀a w,MS (N8 r) B [] W0 F0 [(r,Oa (Fd S (tK t)))] (EJ l b i s j) a w->Q .normal a w):(nav C8 [1,1,1,1,0,1,0,0,1,0,1,1,1,0,0,1,1,0,0,1,1,0,0,1,1,0,0,1,1,1,0,0]).wp Tryz.prog Q a w:=by
 obtain⟨p0,d0,q0,d1,q1,p2,d2,q2,hsz,a0,a1,a2⟩:=dah;refine Gc (by kernel_rfl) hsz ?_;rw[wpOps_cons];refine ra a0 q0 ?_;refine Ra (Ae p0) ?_;rw[d0,wpOps_cons,hs.k (s:=5) (v:=.map (some r)) (by simp)];have h1:=hs.val (d:=55) (by kernel_rfl) (v:=.map (some r)) (av:=.dead) rfl (λ_ _=>trivial);refine ra a1 q1 ?_;refine h1.stepF g0 (ops:=opsOf (nav C8 [1,1,1,1,0,1,0,0,1,0,1,1,1,0,0,1,1,0,0,1,1,0,0,1,1,0,0,1,1,1,0,0])) (e':=(56,.agg true [.int .i64 t.A,.int .i64 t.B])::(55,.dead)::EK l b i s j t) (ps:=[]) q1 (by kernel_rfl) trivial (λd h=>by rw[d1]at h;cases h;kernel_rfl) (λa' w' h2=>?_);rw[wpOps_cons];refine ra a2 q2 ?_;have hm:w'.heap[r]? = some (Oa S):=h2.o (by simp)
 have hh:a'.tmps.getD 56 undef=Ha (tK t):=by
  obtain⟨F,ow,hx⟩:=h2.sim.rep;obtain⟨vs,h1,h2⟩:=hx.sr 56;have h1:a'.tmps.getD 56 undef=.agg vs.toArray:=h1;rw[h1];cases h2 with
  |cons c1 h2=>cases h2 with
   |cons c2 h2=>cases h2;cases c1;cases c2;rfl
 refine Oi (fT p2 (by rw[h2.k (s:=55) (v:=.map (some r)) (by simp),hh];exact dT sty hm hS rfl)) ?_;rw[d2];refine sc _ (hQ _ _ ?_)
 have h4:=h2.set (r:=r) (o0:=Oa S) (by simp) (zh w' r (Oa (Fd S (tK t)))) (obs':=[(r,Oa (Fd S (tK t)))]) (λp hp=>by
  simp at hp;subst hp;exact .inr ⟨rfl,Ah hm,rfl⟩)
 exact(h4.weak (xa.cast (pat:=[(8,.same),(9,.same),(11,.same),(36,.same),(37,.same),(38,.same),(42,.same),(43,.same),(44,.same)]) (by kernel_rfl) (by kernel_rfl))).forget rfl rfl (λp hp=>by simp at hp⊢;simp[hp]) (λp hp=>hp)
def fc(l:List Time)(s:Time)(st:wa×Bool):wa×Bool:=l.foldl (λst t=>Sf st (gb s t)) st
def Ie(l:List Time)(ss:List Time)(st:wa×Bool):wa×Bool:=ss.foldl (λst s=>fc l s st) st
def rnd(S:wa):wa×Bool:=Ie (Nb S) (Nb S) (S,false)
theorem fah(l:List Time)(s t:Time)(st:wa×Bool):fc (l++[t]) s st=Sf (fc l s st) (gb s t):=by unfold fc;rw[List.foldl_append];rfl
theorem gah(l ss:List Time)(s:Time)(st:wa×Bool):Ie l (ss++[s]) st=fc l s (Ie l ss st):=by unfold Ie;rw[List.foldl_append];rfl
theorem UI:∀(l:List Time) (s:Time) (st:wa×Bool),dc 2 st.1->dc 2 (fc l s st).1
 |[],_,_,h=>h
 |t::l,s,st,h=>UI l s (Sf st (gb s t)) (aah h _)
theorem pT(l:List Time):∀(ss:List Time) (st:wa×Bool),dc 2 st.1->dc 2 (Ie l ss st).1
 |[],_,h=>h
 |s::ss,st,h=>pT l ss (fc l s st) (UI l s st h)
def oi(S:wa)(t:Time):Bool:=decide (tK t∈S)
theorem VI(S:wa):∀n,Rf S n=yc (oi S) n
 |0=>rfl
 |n+1=>by
  simp only[Rf,yc,VI S n];rfl
theorem WI{S:wa}{t:Time}:t∈Nb S↔tK t∈S/\za t=true:=by
 unfold Nb;rw[VI,wC];simp only[oi,za,decide_eq_true_eq];exact⟨λh=>⟨h.1,by omega⟩,λh=>⟨h.1,by omega⟩⟩
def mu(S:wa):Nat:=cnt (oi S) allT
def GoodS(xs:List Row)(k:Int)(S:wa):Prop:=∀p∈S,∃t,p=tK t/\za t=true/\jT xs k t=true
structure Uf(xs:List Row)(k:Int)(S0:wa)(st:wa×Bool)(D:Time->Time->Prop):Prop where
 sub:∀p∈S0,p∈st.1
 good:GoodS xs k st.1
 same:st.2=false->st.1=S0/\∀s t,D s t->tK (gb s t)∈S0
 less:st.2=true->mu st.1<mu S0
theorem hah{s t:Time}(hs:za s=true)(ht:za t=true):za (gb s t)=true:=by
 simp only[za,gb,Bj,decide_eq_true_eq] at *;refine⟨?_,?_,?_,?_⟩<;>split<;>omega
theorem Uf.add{xs:List Row}{k:Int}{S0:wa}{st:wa×Bool}{D:Time->Time->Prop}(h:Uf xs k S0 st D){s t:Time}(hs:za s=true/\jT xs k s=true)(ht:za t=true/\jT xs k t=true) :
  Uf xs k S0 (Sf st (gb s t)) (λa b=>D a b\/(a=s/\b=t)):=by
 have hh:=hah hs.1 ht.1;unfold Sf;split
 .rename_i hm;exact⟨h.sub,h.good,λhf=>⟨(h.same hf).1,λa b hab=>hab.elim ((h.same hf).2 a b) λe=>by rw[e.1,e.2,<-(h.same hf).1];exact hm⟩,h.less⟩
 .rename_i hm;refine⟨λp hp=>List.mem_append.2 (.inl (h.sub p hp)),λp hp=>?_,λhf=>(by cases hf),λ_=>?_⟩
  .rcases List.mem_append.1 hp with hp|hp
   .exact h.good p hp
   .simp at hp;exact⟨_,hp,hh,TS hs.2 ht.2⟩
  .have h1:mu (st.1++[tK (gb s t)])<mu st.1:=cnt_lt (y:=gb s t) (λx _ hx=>by simp only[oi,decide_eq_true_eq]at hx⊢;exact List.mem_append.2 (.inl hx)) (WS.2 hh) (by simpa [oi] using hm) (by simp[oi])
   cases hb:st.2 with
   |true=>exact Nat.lt_trans h1 (h.less hb)
   |false=>rw[(h.same hb).1]at h1⊢;exact h1
theorem Uf.mono{xs:List Row}{k:Int}{S0:wa}{st:wa×Bool}{D D':Time->Time->Prop}(h:Uf xs k S0 st D)(hd:∀a b,D' a b->D a b):Uf xs k S0 st D':=⟨h.sub,h.good,λhf=>⟨(h.same hf).1,λa b hab=>(h.same hf).2 a b (hd a b hab)⟩,h.less⟩
theorem qT{xs:List Row}{k:Int}{S0:wa}{s:Time}(hs:za s=true/\jT xs k s=true):∀(l:List Time) (st:wa×Bool) (D:Time->Time->Prop),(∀t∈l,za t=true/\jT xs k t=true)->Uf xs k S0 st D ->
  Uf xs k S0 (fc l s st) (λa b=>D a b\/(a=s/\b∈l))
 |[],st,D,_,h=>h.mono λa b hab=>hab.elim id λe=>by cases e.2
 |t::l,st,D,hl,h=>(qT hs l (Sf st (gb s t)) _ (λu hu=>hl u (by simp[hu])) (h.add hs (hl t (by simp)))).mono λa b hab=>by
  rcases hab with hab|⟨e1,e2⟩
  .exact .inl (.inl hab)
  .rcases List.mem_cons.1 e2 with rfl|e2
   .exact .inl (.inr ⟨e1,rfl⟩)
   .exact .inr ⟨e1,e2⟩
theorem rT{xs:List Row}{k:Int}{S0:wa}{l:List Time}(hl:∀t∈l,za t=true/\jT xs k t=true):∀(ss:List Time) (st:wa×Bool) (D:Time->Time->Prop),(∀t∈ss,za t=true/\jT xs k t=true)->Uf xs k S0 st D ->
  Uf xs k S0 (Ie l ss st) (λa b=>D a b\/(a∈ss/\b∈l))
 |[],st,D,_,h=>h.mono λa b hab=>hab.elim id λe=>by cases e.1
 |s::ss,st,D,hss,h=>(rT hl ss (fc l s st) _ (λu hu=>hss u (by simp[hu])) (qT (hss s (by simp)) l st D hl h)).mono λa b hab=>by
  rcases hab with hab|⟨e1,e2⟩
  .exact .inl (.inl hab)
  .rcases List.mem_cons.1 e1 with rfl|e1
   .exact .inl (.inr ⟨rfl,e2⟩)
   .exact .inr ⟨e1,e2⟩
theorem sT{xs:List Row}{k:Int}{S:wa}(h:GoodS xs k S):∀t∈Nb S,za t=true/\jT xs k t=true:=λt ht=>by
 obtain⟨h1,h2⟩:=WI.1 ht;obtain⟨u,e,_,h3⟩:=h _ h1;rw[uC e];exact⟨by rw[<-uC e];exact h2,h3⟩
theorem iah{xs:List Row}{k:Int}{S:wa}(h:GoodS xs k S):Uf xs k S (rnd S) (λa b=>a∈Nb S/\b∈Nb S):=(rT (sT h) (Nb S) (S,false) (λ_ _=>False) (sT h) ⟨λ_ hp=>hp,h,λ_=>⟨rfl,λ_ _ h=>h.elim⟩,λhf=>by cases hf⟩).mono λ_ _ hab=>.inr hab
def pr(xs:List Row)(k:Int)(S:wa):Prop:=∀x∈xs,x.Key=k->tK x.At∈S
def XI(S:wa):Prop:=∀s t,s∈Nb S->t∈Nb S->tK (gb s t)∈S
theorem jah{xs:List Row}{k:Int}{S:wa}(h1:GoodS xs k S)(h2:pr xs k S)(h3:XI S):Nb S=yc (jT xs k) 8:=by
 unfold Nb;rw[VI];refine JI λa b ha hb=>?_;rw[Bool.eq_iff_iff];constructor
 .intro h;simp only[oi,decide_eq_true_eq]at h;obtain⟨u,e,_,h4⟩:=h1 _ h;rw[uC e];exact h4
 .intro h
  have hM:∀t:Time,tK t∈S->t∈Nb S:=λt ht=>by
   obtain⟨u,e,h5,_⟩:=h1 _ ht;rw[<-uC e]at h5;exact WI.2 ⟨ht,h5⟩
  have:=US (M:=λt=>tK t∈S) h2 (λs t hs ht=>h3 s t (hM s hs) (hM t ht)) h;simpa [oi] using this
theorem YI(k:Int):∀(xs:List Row) (S:wa) (p:List Int),p∈se k xs S↔p∈S\/∃x∈xs,x.Key=k/\p=tK x.At
 |[],S,p=>by simp[se]
 |x::r,S,p=>by
  rw[se,YI k r];by_cases hk:x.Key=k
  .have hi:p∈Fd S (tK x.At)↔p∈S\/p=tK x.At:=by
    unfold Fd;split
    .rename_i hm;exact⟨.inl,λh=>h.elim id λe=>e▸hm⟩
    .simp
   rw[if_pos hk,hi];constructor
   .rintro ((h|h)|⟨y,h1,h2,h3⟩)
    .exact .inl h
    .exact .inr ⟨x,by simp,hk,h⟩
    .exact .inr ⟨y,by simp[h1],h2,h3⟩
   .rintro (h|⟨y,h1,h2,h3⟩)
    .exact .inl (.inl h)
    .rcases List.mem_cons.1 h1 with rfl|h1
     .exact .inl (.inr h3)
     .exact .inr ⟨y,h1,h2,h3⟩
  .rw[if_neg hk];constructor
   .rintro (h|⟨y,h1,h2,h3⟩)
    .exact .inl h
    .exact .inr ⟨y,by simp[h1],h2,h3⟩
   .rintro (h|⟨y,h1,h2,h3⟩)
    .exact .inl h
    .rcases List.mem_cons.1 h1 with rfl|h1
     .exact absurd h2 hk
     .exact .inr ⟨y,h1,h2,h3⟩
end Tg
namespace Tg
open Go
set_option maxRecDepth 20000 in
theorem kah{Q:Exit->Act->World->Prop}{B:Nat}{W0:World}{F0:Fz}{r:Nat}{S:wa}(hS:dc 2 S){l:List Time}(hlen:l.length<=64)(hl:∀t∈l,za t=true){b:Bool}{i:Int}{s:Time}(hs0:za s=true){a:Act}{w:World}(hs:MS (N8 r) B [] W0 F0 [(r,Oa S)] (EJ l b i s 0) a w)
  (hQ:∀a w,MS (N8 r) B [] W0 F0 [(r,Oa (fc l s (S,b)).1)] (EI l (fc l s (S,b)).2 i) a w->Q .normal a w):(nav C8 [1,1,1,1,0,1,0,0,1,0,1,1,1,0,0,1,1,0,0,1,1]).wp Tryz.prog Q a w:=by
 refine Nc (c1:=nav C8 [1,1,1,1,0,1,0,0,1,0,1,1,1,0,0,1,1,0,0,1,1,0]) (id:=6) (by kernel_rfl) ?_;rw[show nav C8 [1,1,1,1,0,1,0,0,1,0,1,1,1,0,0,1,1,0,0,1,1,0]=.loop (nav C8 [1,1,1,1,0,1,0,0,1,0,1,1,1,0,0,1,1,0,0,1,1,0,0]) by kernel_rfl];refine We (σ:=Nat) (λj a w=>j<=l.length/\MS (N8 r) B [] W0 F0 [(r,Oa (fc (l.take j) s (S,b)).1)] (EJ l (fc (l.take j) s (S,b)).2 i s j) a w) (λj=>l.length - j) ?_ 0 ⟨Nat.zero_le _,hs⟩;rintro j a w ⟨hj,hs⟩;refine ma (c1:=nav C8 [1,1,1,1,0,1,0,0,1,0,1,1,1,0,0,1,1,0,0,1,1,0,0,0]) (c2:=nav C8 [1,1,1,1,0,1,0,0,1,0,1,1,1,0,0,1,1,0,0,1,1,0,0,1]) (by kernel_rfl) ?_;refine MS.regC g0 (keep:=[8,9,11,36,37,38,42,43,44,45]) (e':=[(8,.v .fr (.bool (fc (l.take j) s (S,b)).2)),(9,TL l),(11,Hl s),(36,TL l),(37,.v .fr (.int .i64 (ba .time l))),(38,.v .fr (.int .i64 i)),(42,TL l),(43,.v .fr (.int .i64 (ba .time l))),(44,.v .fr (.int .i64 j)),(45,.v .fr (.bool (cmp .lss j (ba .time l))))]) (ps:=[]) (by kernel_rfl) trivial hs (λa w hs=>?_);show(nav C8 [1,1,1,1,0,1,0,0,1,0,1,1,1,0,0,1,1,0,0,1,1,0,0,1]).wp _ _ a w;refine ma (c1:=nav C8 [1,1,1,1,0,1,0,0,1,0,1,1,1,0,0,1,1,0,0,1,1,0,0,1,0]) (c2:=nav C8 [1,1,1,1,0,1,0,0,1,0,1,1,1,0,0,1,1,0,0,1,1,0,0,1,1]) (by kernel_rfl) ?_;refine ld (o:=.tmp 45) (c1:=nav C8 [1,1,1,1,0,1,0,0,1,0,1,1,1,0,0,1,1,0,0,1,1,0,0,1,0,0]) (c2:=nav C8 [1,1,1,1,0,1,0,0,1,0,1,1,1,0,0,1,1,0,0,1,1,0,0,1,0,1]) (by kernel_rfl) (hs.bool (k:=.fr) rfl) (λht=>Md (by kernel_rfl) ?_) (λhf=>jg (i:=6) (by kernel_rfl) ?_)
 .have hn:j<l.length:=by
   have:=of_decide_eq_true (show decide ((j:Int)<ba .time l)=true from ht);unfold ba at this;omega
  have hq:rd .time l j=l[j]:=by
   unfold rd;rw[List.getD_eq_getElem?_getD,show(j:Int).toNat=j from rfl,List.getElem?_eq_getElem hn];rfl
  have hu:l.take (j+1)=l.take j++[rd .time l j]:=by rw[List.take_succ_eq_append_getElem hn,hq]
  have hp:za (rd .time l j)=true:=by rw[hq];exact hl _ (List.getElem_mem hn)
  have hk:=UI (l.take j) s (S,b) hS;have ho:fc (l.take (j+1)) s (S,b)=Sf (fc (l.take j) s (S,b)) (gb s (rd .time l j)):=by rw[List.take_succ_eq_append_getElem hn,fah,<-hq]
  generalize fc (l.take j) s (S,b)=st at hs hk ho;generalize htt:rd .time l j=t at ho hp
  have hh:∀ {a:Act}{w:World},MS (N8 r) B [] W0 F0 [(r,Oa (fc (l.take (j+1)) s (S,b)).1)] (EJ l (fc (l.take (j+1)) s (S,b)).2 i s j) a w->(nav C8 [1,1,1,1,0,1,0,0,1,0,1,1,1,0,0,1,1,0,0,1,1,0,0,1,1,1]).wp Tryz.prog (λe a' w'=>Exit.then (λa' w'=>∃s',l.length - s'<l.length - j/\(s'<=l.length/\MS (N8 r) B [] W0 F0 [(r,Oa (fc (l.take s') s (S,b)).1)] (EJ l (fc (l.take s') s (S,b)).2 i s s') a' w')) (Exit.inBlock 6 Q) e a' w') a w:=λhs=>by
   refine MS.regC g0 (keep:=[8,9,11,36,37,38,42,43,44]) (e':=EJ l (fc (l.take (j+1)) s (S,b)).2 i s (ar .add .i64 j 1)) (ps:=[]) (by kernel_rfl) trivial hs (λa w hs=>?_);refine⟨j+1,by omega,by omega,?_⟩;rw[Eh (by omega) (by omega)]at hs;exact hs
  show(nav C8 [1,1,1,1,0,1,0,0,1,0,1,1,1,0,0,1,1,0,0,1,1,0,0,1,1]).wp _ _ a w;refine ma (c1:=nav C8 [1,1,1,1,0,1,0,0,1,0,1,1,1,0,0,1,1,0,0,1,1,0,0,1,1,0]) (c2:=nav C8 [1,1,1,1,0,1,0,0,1,0,1,1,1,0,0,1,1,0,0,1,1,0,0,1,1,1]) (by kernel_rfl) ?_;refine Nc (c1:=nav C8 [1,1,1,1,0,1,0,0,1,0,1,1,1,0,0,1,1,0,0,1,1,0,0,1,1,0,0]) (id:=7) (by kernel_rfl) ?_;refine ma (c1:=nav C8 [1,1,1,1,0,1,0,0,1,0,1,1,1,0,0,1,1,0,0,1,1,0,0,1,1,0,0,0]) (c2:=nav C8 [1,1,1,1,0,1,0,0,1,0,1,1,1,0,0,1,1,0,0,1,1,0,0,1,1,0,0,1]) (by kernel_rfl) ?_;refine MS.regC g0 (keep:=[13,8,9,11,36,37,38,42,43,44]) (e':=(13,Hl (rd .time l j))::EJ l st.2 i s j) (ps:=[inb j (ba .time l)]) (by kernel_rfl) ⟨⟨by omega,by unfold ba;omega⟩,trivial⟩ hs (λa w hs=>?_);rw[htt]at hs;show(nav C8 [1,1,1,1,0,1,0,0,1,0,1,1,1,0,0,1,1,0,0,1,1,0,0,1,1,0,0,1]).wp _ _ a w;refine ma (c1:=nav C8 [1,1,1,1,0,1,0,0,1,0,1,1,1,0,0,1,1,0,0,1,1,0,0,1,1,0,0,1,0]) (c2:=nav C8 [1,1,1,1,0,1,0,0,1,0,1,1,1,0,0,1,1,0,0,1,1,0,0,1,1,0,0,1,1]) (by kernel_rfl) ?_;refine MS.regC g2 (keep:=[14,8,9,11,36,37,38,42,43,44]) (e':=(14,Hl (wq s t))::EJ l st.2 i s j) (ps:=[xq s t]) (by kernel_rfl) ⟨(JF hs0 hp).1,trivial⟩ hs (λa w hs=>?_);rw[(JF hs0 hp).2]at hs;show(nav C8 [1,1,1,1,0,1,0,0,1,0,1,1,1,0,0,1,1,0,0,1,1,0,0,1,1,0,0,1,1]).wp _ _ a w;refine ma (c1:=nav C8 [1,1,1,1,0,1,0,0,1,0,1,1,1,0,0,1,1,0,0,1,1,0,0,1,1,0,0,1,1,0]) (c2:=nav C8 [1,1,1,1,0,1,0,0,1,0,1,1,1,0,0,1,1,0,0,1,1,0,0,1,1,0,0,1,1,1]) (by kernel_rfl) ?_;refine cah (S:=st.1) hk (l:=l) (b:=st.2) (i:=i) (j:=j) (s:=s) (t:=gb s t) hs (λa w hs=>?_);show(nav C8 [1,1,1,1,0,1,0,0,1,0,1,1,1,0,0,1,1,0,0,1,1,0,0,1,1,0,0,1,1,1]).wp _ _ a w;refine ld (o:=.tmp 54) (c1:=nav C8 [1,1,1,1,0,1,0,0,1,0,1,1,1,0,0,1,1,0,0,1,1,0,0,1,1,0,0,1,1,1,0]) (c2:=nav C8 [1,1,1,1,0,1,0,0,1,0,1,1,1,0,0,1,1,0,0,1,1,0,0,1,1,0,0,1,1,1,1]) (by kernel_rfl) (hs.bool (k:=.fr) rfl) (λht=>?_) (λhf=>Md (by kernel_rfl) ?_)
  .have hm:¬ tK (gb s t)∈st.1:=by simpa using ht
   have hr:=hs.weak (xa.cast (e':=EK l st.2 i s j (gb s t)) (pat:=[(14,.same),(8,.same),(9,.same),(11,.same),(36,.same),(37,.same),(38,.same),(42,.same),(43,.same),(44,.same)]) (by kernel_rfl) (by kernel_rfl));refine ma (c1:=nav C8 [1,1,1,1,0,1,0,0,1,0,1,1,1,0,0,1,1,0,0,1,1,0,0,1,1,0,0,1,1,1,0,0]) (c2:=nav C8 [1,1,1,1,0,1,0,0,1,0,1,1,1,0,0,1,1,0,0,1,1,0,0,1,1,0,0,1,1,1,0,1]) (by kernel_rfl) ?_;refine eah (S:=st.1) hk (l:=l) (b:=st.2) (i:=i) (j:=j) (s:=s) (t:=gb s t) hr (λa w hs=>?_);show(nav C8 [1,1,1,1,0,1,0,0,1,0,1,1,1,0,0,1,1,0,0,1,1,0,0,1,1,0,0,1,1,1,0,1]).wp _ _ a w;refine MS.regC g0 (keep:=[8,9,11,36,37,38,42,43,44]) (e':=EJ l true i s j) (ps:=[]) (by kernel_rfl) trivial hs (λa w hs=>?_);refine hh ?_;rw[ho];unfold Sf;rw[if_neg hm];unfold Fd at hs;rw[if_neg hm]at hs;exact hs
  .have hm:tK (gb s t)∈st.1:=by simpa using hf
   refine hh ?_;rw[ho];unfold Sf;rw[if_pos hm];exact hs.weak (xa.cast (pat:=[(8,.same),(9,.same),(11,.same),(36,.same),(37,.same),(38,.same),(42,.same),(43,.same),(44,.same)]) (by kernel_rfl) (by kernel_rfl))
 .have hi:l.length<=j:=by
   have:=of_decide_eq_false (show decide ((j:Int)<ba .time l)=false from hf);unfold ba at this;omega
  show Exit.inBlock 6 Q (.exit 6) a w;simp only[Exit.inBlock,if_true];refine hQ a w ?_;rw[List.take_of_length_le hi]at hs;exact hs.weak (xa.cast (pat:=[(8,.same),(9,.same),(36,.same),(37,.same),(38,.same)]) (by kernel_rfl) (by kernel_rfl))
set_option maxRecDepth 20000 in
theorem lah{Q:Exit->Act->World->Prop}{B:Nat}{W0:World}{F0:Fz}{r:Nat}{S:wa}(hS:dc 2 S){l:List Time}(hlen:l.length<=64)(hl:∀t∈l,za t=true){b:Bool}{a:Act}{w:World}(hs:MS (N8 r) B [] W0 F0 [(r,Oa S)] (EI l b 0) a w)
  (hQ:∀a w,MS (N8 r) B [] W0 F0 [(r,Oa (Ie l l (S,b)).1)] [(8,.v .fr (.bool (Ie l l (S,b)).2))] a w->Q .normal a w):(nav C8 [1,1,1,1,0,1,0,0,1,0,1,1,1]).wp Tryz.prog Q a w:=by
 refine Nc (c1:=nav C8 [1,1,1,1,0,1,0,0,1,0,1,1,1,0]) (id:=4) (by kernel_rfl) ?_;rw[show nav C8 [1,1,1,1,0,1,0,0,1,0,1,1,1,0]=.loop (nav C8 [1,1,1,1,0,1,0,0,1,0,1,1,1,0,0]) by kernel_rfl];refine We (σ:=Nat) (λi a w=>i<=l.length/\MS (N8 r) B [] W0 F0 [(r,Oa (Ie l (l.take i) (S,b)).1)] (EI l (Ie l (l.take i) (S,b)).2 i) a w) (λi=>l.length - i) ?_ 0 ⟨Nat.zero_le _,hs⟩;rintro i a w ⟨hi,hs⟩;refine ma (c1:=nav C8 [1,1,1,1,0,1,0,0,1,0,1,1,1,0,0,0]) (c2:=nav C8 [1,1,1,1,0,1,0,0,1,0,1,1,1,0,0,1]) (by kernel_rfl) ?_;refine MS.regC g0 (keep:=[8,9,36,37,38,39]) (e':=[(8,.v .fr (.bool (Ie l (l.take i) (S,b)).2)),(9,TL l),(36,TL l),(37,.v .fr (.int .i64 (ba .time l))),(38,.v .fr (.int .i64 i)),(39,.v .fr (.bool (cmp .lss i (ba .time l))))]) (ps:=[]) (by kernel_rfl) trivial hs (λa w hs=>?_);show(nav C8 [1,1,1,1,0,1,0,0,1,0,1,1,1,0,0,1]).wp _ _ a w;refine ma (c1:=nav C8 [1,1,1,1,0,1,0,0,1,0,1,1,1,0,0,1,0]) (c2:=nav C8 [1,1,1,1,0,1,0,0,1,0,1,1,1,0,0,1,1]) (by kernel_rfl) ?_;refine ld (o:=.tmp 39) (c1:=nav C8 [1,1,1,1,0,1,0,0,1,0,1,1,1,0,0,1,0,0]) (c2:=nav C8 [1,1,1,1,0,1,0,0,1,0,1,1,1,0,0,1,0,1]) (by kernel_rfl) (hs.bool (k:=.fr) rfl) (λht=>Md (by kernel_rfl) ?_) (λhf=>jg (i:=4) (by kernel_rfl) ?_)
 .have hk:i<l.length:=by
   have:=of_decide_eq_true (show decide ((i:Int)<ba .time l)=true from ht);unfold ba at this;omega
  have ho:rd .time l i=l[i]:=by
   unfold rd;rw[List.getD_eq_getElem?_getD,show(i:Int).toNat=i from rfl,List.getElem?_eq_getElem hk];rfl
  have hn:za (rd .time l i)=true:=by rw[ho];exact hl _ (List.getElem_mem hk)
  have hj:=pT l (l.take i) (S,b) hS;have hm:Ie l (l.take (i+1)) (S,b)=fc l (rd .time l i) (Ie l (l.take i) (S,b)):=by rw[List.take_succ_eq_append_getElem hk,gah,<-ho]
  generalize Ie l (l.take i) (S,b)=st at hs hj hm;generalize htt:rd .time l i=s at hm hn;show(nav C8 [1,1,1,1,0,1,0,0,1,0,1,1,1,0,0,1,1]).wp _ _ a w;refine ma (c1:=nav C8 [1,1,1,1,0,1,0,0,1,0,1,1,1,0,0,1,1,0]) (c2:=nav C8 [1,1,1,1,0,1,0,0,1,0,1,1,1,0,0,1,1,1]) (by kernel_rfl) ?_;refine Nc (c1:=nav C8 [1,1,1,1,0,1,0,0,1,0,1,1,1,0,0,1,1,0,0]) (id:=5) (by kernel_rfl) ?_;refine ma (c1:=nav C8 [1,1,1,1,0,1,0,0,1,0,1,1,1,0,0,1,1,0,0,0]) (c2:=nav C8 [1,1,1,1,0,1,0,0,1,0,1,1,1,0,0,1,1,0,0,1]) (by kernel_rfl) ?_;refine MS.regC g0 (keep:=[8,9,11,36,37,38]) (e':=[(8,.v .fr (.bool st.2)),(9,TL l),(11,Hl (rd .time l i)),(36,TL l),(37,.v .fr (.int .i64 (ba .time l))),(38,.v .fr (.int .i64 i))]) (ps:=[inb i (ba .time l)]) (by kernel_rfl) ⟨⟨by omega,by unfold ba;omega⟩,trivial⟩ hs (λa w hs=>?_);rw[htt]at hs;show(nav C8 [1,1,1,1,0,1,0,0,1,0,1,1,1,0,0,1,1,0,0,1]).wp _ _ a w;refine ma (c1:=nav C8 [1,1,1,1,0,1,0,0,1,0,1,1,1,0,0,1,1,0,0,1,0]) (c2:=nav C8 [1,1,1,1,0,1,0,0,1,0,1,1,1,0,0,1,1,0,0,1,1]) (by kernel_rfl) ?_;refine MS.regC g0 (keep:=[8,9,11,36,37,38,42,43,44]) (e':=EJ l st.2 i s 0) (ps:=[]) (by kernel_rfl) trivial hs (λa w hs=>?_);refine kah (S:=st.1) hj hlen hl hn hs (λa w hs=>?_);show(nav C8 [1,1,1,1,0,1,0,0,1,0,1,1,1,0,0,1,1,1]).wp _ _ a w;have hs:MS (N8 r) B [] W0 F0 [(r,Oa (fc l s st).1)] (EI l (fc l s st).2 i) a w:=hs;refine MS.regC g0 (keep:=[8,9,36,37,38]) (e':=EI l (fc l s st).2 (ar .add .i64 i 1)) (ps:=[]) (by kernel_rfl) trivial hs (λa w hs=>?_);refine⟨i+1,by omega,by omega,?_⟩;rw[Eh (by omega) (by omega)]at hs;rw[hm];exact hs
 .have hh:l.length<=i:=by
   have:=of_decide_eq_false (show decide ((i:Int)<ba .time l)=false from hf);unfold ba at this;omega
  show Exit.inBlock 4 Q (.exit 4) a w;simp only[Exit.inBlock,if_true];refine hQ a w ?_;rw[List.take_of_length_le hh]at hs;exact hs.weak (xa.cast (pat:=[(8,.same)]) (by kernel_rfl) (by kernel_rfl))
set_option maxRecDepth 20000 in
theorem mah{Q:Exit->Act->World->Prop}{B:Nat}{W0:World}{F0:Fz}{r:Nat}{S:wa}(hS:dc 2 S){a:Act}{w:World}(hs:MS (N8 r) B [] W0 F0 [(r,Oa S)] [(8,.v .fr (.bool false))] a w)
  (hQ:∀a w,MS (N8 r) B [] W0 F0 [(r,Oa S)] [(8,.v .fr (.bool false)),(9,TL (Nb S))] a w->Q .normal a w):(nav C8 [1,1,1,1,0,1,0,0,1,0,1,0]).wp Tryz.prog Q a w:=by
 obtain⟨p0,d0,hh,p1,d1,hi,d2,hj,hsz,a0,a1,a2⟩:=Vag;refine Gc (by kernel_rfl) hsz ?_;rw[wpOps_cons];refine ra a0 hh ?_;refine Ra (Ae p0) ?_;rw[d0,wpOps_cons,hs.k (s:=5) (v:=.map (some r)) (by simp)];have h1:=hs.val (d:=34) (by kernel_rfl) (v:=.map (some r)) (av:=.dead) rfl (λ_ _=>trivial);refine ra a1 hi ?_;refine oT h1 hS (r:=r) (by simp) p1 (h1.k (s:=34) (v:=.map (some r)) (by simp)) d1 (by kernel_rfl) (λv w' h2=>?_);rw[wpOps_cons];refine ra a2 hj ?_;refine h2.stepF g0 (ops:=opsOf (nav C8 [1,1,1,1,0,1,0,0,1,0,1,0])) (e':=[(9,TL (Nb S)),(35,TL (Nb S)),(34,.dead),(8,.v .fr (.bool false))]) (ps:=[]) hj (by kernel_rfl) trivial (λd h=>by rw[d2]at h;cases h;kernel_rfl) (λa3 w3 h3=>?_);refine sc _ (hQ _ _ ?_);exact(h3.weak (xa.cast (pat:=[(8,.same),(9,.same)]) (by kernel_rfl) (by kernel_rfl))).forget rfl rfl (λp hp=>by simp at hp⊢;simp[hp]) (λp hp=>hp)
set_option maxRecDepth 20000 in
theorem nah{Q:Exit->Act->World->Prop}{B:Nat}{W0:World}{F0:Fz}{r:Nat}{S:wa}(hS:dc 2 S){a:Act}{w:World}(hs:MS (N8 r) B [] W0 F0 [(r,Oa S)] [] a w)
  (hQ:∀a w,MS (N8 r) B [] W0 F0 [(r,Oa S)] [(4,TL (Nb S))] a w->Q .normal a w):(nav C8 [1,1,1,1,1,0]).wp Tryz.prog Q a w:=by
 obtain⟨p0,d0,hh,p1,d1,hi,d2,hj,hsz,a0,a1,a2⟩:=Wag;refine Gc (by kernel_rfl) hsz ?_;rw[wpOps_cons];refine ra a0 hh ?_;refine Ra (Ae p0) ?_;rw[d0,wpOps_cons,hs.k (s:=5) (v:=.map (some r)) (by simp)];have h1:=hs.val (d:=59) (by kernel_rfl) (v:=.map (some r)) (av:=.dead) rfl (λ_ _=>trivial);refine ra a1 hi ?_;refine oT h1 hS (r:=r) (by simp) p1 (h1.k (s:=59) (v:=.map (some r)) (by simp)) d1 (by kernel_rfl) (λv w' h2=>?_);rw[wpOps_cons];refine ra a2 hj ?_;refine h2.stepF g0 (ops:=opsOf (nav C8 [1,1,1,1,1,0])) (e':=[(4,TL (Nb S)),(60,TL (Nb S)),(59,.dead)]) (ps:=[]) hj (by kernel_rfl) trivial (λd h=>by rw[d2]at h;cases h;kernel_rfl) (λa3 w3 h3=>?_);refine sc _ (hQ _ _ ?_);exact(h3.weak (xa.cast (pat:=[(4,.same)]) (by kernel_rfl) (by kernel_rfl))).forget rfl rfl (λp hp=>by simp at hp⊢;simp[hp]) (λp hp=>hp)
theorem oah(S:wa):(Nb S).length<=64:=RI S 8
set_option maxRecDepth 20000 in
theorem pah{xs:List Row}{k:Int}{Q:Exit->Act->World->Prop}{B:Nat}{W0:World}{F0:Fz}{r:Nat}{S:wa}(hS:GoodS xs k S)(hH:pr xs k S){a:Act}{w:World}(hs:MS (N8 r) B [] W0 F0 [(r,Oa S)] [(8,.v .fr (.bool true))] a w)
  (hQ:∀S a w,GoodS xs k S->pr xs k S->XI S->MS (N8 r) B [] W0 F0 [(r,Oa S)] [] a w->Q .normal a w):(nav C8 [1,1,1,1,0,1]).wp Tryz.prog Q a w:=by
 have hh:∀ {S:wa},GoodS xs k S->dc 2 S:=λh p hp=>by obtain⟨t,rfl,_⟩:=h p hp;rfl
 refine Nc (c1:=nav C8 [1,1,1,1,0,1,0]) (id:=2) (by kernel_rfl) ?_;rw[show nav C8 [1,1,1,1,0,1,0]=.loop (nav C8 [1,1,1,1,0,1,0,0]) by kernel_rfl];refine We (σ:=wa×Bool) (λst a w=>(GoodS xs k st.1/\pr xs k st.1/\(st.2=false->XI st.1))/\MS (N8 r) B [] W0 F0 [(r,Oa st.1)] [(8,.v .fr (.bool st.2))] a w) (λst=>2*mu st.1+st.2.toNat) ?_ (S,true) ⟨⟨hS,hH,λh=>by cases h⟩,hs⟩;rintro⟨S,b⟩ a w ⟨⟨hS,hH,hC⟩,hs⟩;refine ma (c1:=nav C8 [1,1,1,1,0,1,0,0,0]) (c2:=nav C8 [1,1,1,1,0,1,0,0,1]) (by kernel_rfl) ?_;refine ma (c1:=nav C8 [1,1,1,1,0,1,0,0,0,0]) (c2:=nav C8 [1,1,1,1,0,1,0,0,0,1]) (by kernel_rfl) ?_;refine MS.regC g0 (keep:=[33]) (e':=[(33,.v .fr (.bool b))]) (ps:=[]) (by kernel_rfl) trivial hs (λa w hs=>?_);show(nav C8 [1,1,1,1,0,1,0,0,0,1]).wp _ _ a w;refine ld (o:=.tmp 33) (c1:=nav C8 [1,1,1,1,0,1,0,0,0,1,0]) (c2:=nav C8 [1,1,1,1,0,1,0,0,0,1,1]) (by kernel_rfl) (hs.bool (k:=.fr) rfl) (λht=>Md (by kernel_rfl) ?_) (λhf=>jg (i:=2) (by kernel_rfl) ?_)
 .subst ht;show(nav C8 [1,1,1,1,0,1,0,0,1]).wp _ _ a w;refine Nc (c1:=nav C8 [1,1,1,1,0,1,0,0,1,0]) (id:=3) (by kernel_rfl) ?_;refine ma (c1:=nav C8 [1,1,1,1,0,1,0,0,1,0,0]) (c2:=nav C8 [1,1,1,1,0,1,0,0,1,0,1]) (by kernel_rfl) ?_;refine MS.regC g0 (keep:=[8]) (e':=[(8,.v .fr (.bool false))]) (ps:=[]) (by kernel_rfl) trivial hs (λa w hs=>?_);show(nav C8 [1,1,1,1,0,1,0,0,1,0,1]).wp _ _ a w;refine ma (c1:=nav C8 [1,1,1,1,0,1,0,0,1,0,1,0]) (c2:=nav C8 [1,1,1,1,0,1,0,0,1,0,1,1]) (by kernel_rfl) ?_;refine mah (hh hS) hs (λa w hs=>?_);show(nav C8 [1,1,1,1,0,1,0,0,1,0,1,1]).wp _ _ a w;refine ma (c1:=nav C8 [1,1,1,1,0,1,0,0,1,0,1,1,0]) (c2:=nav C8 [1,1,1,1,0,1,0,0,1,0,1,1,1]) (by kernel_rfl) ?_;refine MS.regC g0 (keep:=[8,9,36,37,38]) (e':=EI (Nb S) false 0) (ps:=[]) (by kernel_rfl) trivial hs (λa w hs=>?_);refine lah (hh hS) (oah S) (λt ht=>(WI.1 ht).2) hs (λa w hs=>?_);have hs:MS (N8 r) B [] W0 F0 [(r,Oa (rnd S).1)] [(8,.v .fr (.bool (rnd S).2))] a w:=hs;have hI:=iah (S:=S) hS;refine⟨rnd S,?_,⟨hI.good,λx hx hk=>hI.sub _ (hH x hx hk),λhf=>?_⟩,hs⟩
  .show 2*mu (rnd S).1+(rnd S).2.toNat<2*mu S+true.toNat;cases hb:(rnd S).2 with
   |true=>
    have:=hI.less hb;simp only[Bool.toNat_true];omega
   |false=>
    rw[(hI.same hb).1];simp
  .obtain⟨e,h2⟩:=hI.same hf;intro s t hs ht;rw[e]at hs ht⊢;exact h2 s t ⟨hs,ht⟩
 .subst hf;show Exit.inBlock 2 Q (.exit 2) a w;simp only[Exit.inBlock,if_true];exact hQ S a w hS hH (hC rfl) (hs.weak (xa.cast (pat:=[]) (by kernel_rfl) (by kernel_rfl)))
end Tg
open Tg in
set_option maxRecDepth 20000 in
theorem qah:Con Tryz.prog 136 RS:=by
 refine fm ttF (fn:=Tryz.f136) (c:=C8) (by kernel_rfl) (by kernel_rfl) (by kernel_rfl) (rs:=[.tmp 4]) (by kernel_rfl) (by kernel_rfl) (λ_=>rfl) ?_;intro x hx fr hk hl hj a w hs;obtain⟨B,IoB,W0,F0⟩:=fr;have hj:IoB=[]:=hj rfl;subst hj;obtain⟨xs,kk,u⟩:=x;have hx:xs.length<=1000000:=hx;obtain⟨q1,q2⟩:=yM xs (by omega);have hm:MS ⟨61,none,[]⟩ B [] W0 F0 [] [(0,.v .sh (.lst .row xs)),(1,.v .fr (.int .i64 kk))] a w:=(MS.of hs hk).forget (by kernel_rfl) rfl (λp h=>by cases h) (λp h=>by cases h);refine ma (c1:=nav C8 [0]) (c2:=nav C8 [1]) (by kernel_rfl) ?_;refine MS.regC g1 (keep:=[0,1]) (e':=[(0,.v .sh (.lst .row xs)),(1,.v .fr (.int .i64 kk))]) (ps:=[]) (by kernel_rfl) trivial hm (λa w hs=>?_);show(nav C8 [1]).wp _ _ a w;refine ma (c1:=nav C8 [1,0]) (c2:=nav C8 [1,1]) (by kernel_rfl) ?_;refine ma (c1:=nav C8 [1,0,0]) (c2:=nav C8 [1,0,1]) (by kernel_rfl) ?_;refine MS.regC g1 (keep:=[0,1,17]) (e':=[(0,.v .sh (.lst .row xs)),(1,.v .fr (.int .i64 kk)),(17,.v .fr (.bool (!(gq xs))))]) (ps:=[iq xs]) (by kernel_rfl) ⟨q1,trivial⟩ hs (λa w hs=>?_);show(nav C8 [1,0,1]).wp _ _ a w;refine ld (o:=.tmp 17) (c1:=nav C8 [1,0,1,0]) (c2:=nav C8 [1,0,1,1]) (by kernel_rfl) (hs.bool (k:=.fr) rfl) (λht=>?_) (λhf=>Md (by kernel_rfl) ?_)
 .have hn:¬ Gb xs=true:=by
   intro h;rw[q2,h]at ht;cases ht
  refine ma (c1:=nav C8 [1,0,1,0,0]) (c2:=nav C8 [1,0,1,0,1]) (by kernel_rfl) ?_;refine MS.regC g1 (keep:=[4]) (e':=[(4,.v .fr (.nl .time))]) (ps:=[]) (by kernel_rfl) trivial hs (λa w hs=>?_);refine Pi (by kernel_rfl) ?_;refine⟨[(4,.v .fr (.nl .time))],?_,?_⟩
  .exact (hs.forget (N':=⟨(Tryz.f136).ntmps,none,[]⟩) (obs':=[]) (by kernel_rfl) rfl (λp h=>by cases h) (λp h=>by cases h)).to
  .have hv:db xs kk=[]:=by unfold db;rw[if_neg hn]
   refine⟨?_,trivial⟩;show _=some (RT.av (.one .fr (.lst .time)) (db xs kk));rw[hv];rfl
 have hn:Gb xs=true:=by
  rw[q2]at hf;cases h:Gb xs with
  |true=>rfl
  |false=>rw[h]at hf;cases hf
 show(nav C8 [1,1]).wp _ _ a w;refine ma (c1:=nav C8 [1,1,0]) (c2:=nav C8 [1,1,1]) (by kernel_rfl) ?_;obtain⟨p0,d0,hh,p1,d1,hi,hsz,a0,a1⟩:=ops3;refine Gc (by kernel_rfl) hsz ?_;rw[wpOps_cons];refine ra a0 hh ?_;refine Ra (vE p0) ?_;rw[d0,wpOps_cons];have h1:=hs.alloc (d:=18) (by kernel_rfl) (v:=.map (some w.heap.size)) (o:=.map #[] 0) rfl;refine ra a1 hi ?_;refine Ra (Us p1) ?_;rw[d1,h1.k (s:=18) (v:=.map (some w.heap.size)) (by simp)];have h2:=h1.val (d:=5) (by kernel_rfl) (v:=.map (some w.heap.size)) (av:=.dead) rfl (λ_ _=>trivial);have h3:MS (N8 w.heap.size) B [] W0 F0 [(w.heap.size,Oa [])] [(0,.v .sh (.lst .row xs)),(1,.v .fr (.int .i64 kk))] _ _:=(h2.weak (xa.cast (pat:=[(0,.same),(1,.same)]) (by kernel_rfl) (by kernel_rfl))).forget rfl rfl (λp hp=>by simp at hp⊢;simp[hp]) (λp hp=>hp);generalize w.heap.size=r at h3;clear h1 h2;refine sc _ ?_;show(nav C8 [1,1,1]).wp _ _ _ _;generalize w.alloc (.map #[] 0)=w1 at h3⊢;generalize (a.put (some 18) _).put (some 5) _=a1 at h3⊢;refine ma (c1:=nav C8 [1,1,1,0]) (c2:=nav C8 [1,1,1,1]) (by kernel_rfl) ?_;refine ma (c1:=nav C8 [1,1,1,0,0]) (c2:=nav C8 [1,1,1,0,1]) (by kernel_rfl) ?_;refine MS.regC Tg.g0 (keep:=[1,19,20,21]) (e':=EA xs kk 0) (ps:=[]) (by kernel_rfl) trivial h3 (λa w hs=>?_);refine loopA hx hs (λa w hs=>?_)
 have hG:GoodS xs kk (se kk xs []):=λp hp=>by
  rcases (YI kk xs [] p).1 hp with h|⟨y,h1,h2,h3⟩
  .cases h
  .exact⟨y.At,h3,Lf ((bb hn).2 y h1),SS h1 h2⟩
 have hH:pr xs kk (se kk xs []):=λy h1 h2=>(YI kk xs [] _).2 (.inr ⟨y,h1,h2,rfl⟩);show(nav C8 [1,1,1,1]).wp _ _ a w;refine ma (c1:=nav C8 [1,1,1,1,0]) (c2:=nav C8 [1,1,1,1,1]) (by kernel_rfl) ?_;refine ma (c1:=nav C8 [1,1,1,1,0,0]) (c2:=nav C8 [1,1,1,1,0,1]) (by kernel_rfl) ?_;refine MS.regC Tg.g0 (keep:=[8]) (e':=[(8,.v .fr (.bool true))]) (ps:=[]) (by kernel_rfl) trivial hs (λa w hs=>?_);refine pah hG hH hs (λS a w hG hH hC hs=>?_);show(nav C8 [1,1,1,1,1]).wp _ _ a w;refine ma (c1:=nav C8 [1,1,1,1,1,0]) (c2:=nav C8 [1,1,1,1,1,1]) (by kernel_rfl) ?_;refine nah (λp hp=>by obtain⟨t,rfl,_⟩:=hG p hp;rfl) hs (λa w hs=>?_);show(nav C8 [1,1,1,1,1,1]).wp _ _ a w;refine Pi (by kernel_rfl) ?_;have hv:db xs kk=Nb S:=by unfold db;rw[if_pos hn,jah hG hH hC]
 refine⟨[(4,TL (Nb S))],?_,?_⟩
 .exact (hs.forget (N':=⟨(Tryz.f136).ntmps,none,[]⟩) (obs':=[]) (by kernel_rfl) rfl (λp h=>by cases h) (λp h=>by cases h)).to
 .refine⟨?_,trivial⟩;show _=some (RT.av (.one .fr (.lst .time)) (db xs kk));rw[hv];rfl
end
section
open Go Tg
theorem Canon.filter{s:List Item}(h:Canon s)(φ:Item->Bool):Canon (s.filter φ):=⟨h.1.sublist List.filter_sublist,λx hx=>h.2 x (List.mem_filter.1 hx).1⟩
theorem HX(kind k:Int):ab kind k []=[]:=by
 unfold ab;split
 .rfl
 .split<;>rfl
def Pg(kind:Int)(s:List Item):List Item:=(List.range 4).flatMap λk:Nat=>ab kind k (s.filter λx=>decide (x.Key=k))
theorem Canon.append{s u:List Item}(hs:Canon s)(hu:Canon u)(h:∀x∈s,∀y∈u,x.Key<y.Key):Canon (s++u):=by
 refine⟨List.pairwise_append.2 ⟨hs.1,hu.1,λx hx y hy=>?_⟩,λx hx=>(List.mem_append.1 hx).elim (hs.2 x) (hu.2 x)⟩;have:=h x hx y hy;simp[kI,ltK,this]
theorem bj(f:Nat->List Item):(List.range 4).flatMap f=f 0++(f 1++(f 2++(f 3++[]))):=rfl
theorem MW{a b m0:List Row}{x:Row}{n i:Int}(hb:Gb b=true)(hx:Ab x=true)(hm0:m0.length<=160000) :
  (zq b m0 x a n i (ba .row b)).ob/\(zq b m0 x a n i (ba .row b)).o=.x (m0++b.flatMap (mc x)):=by
 obtain⟨hl,hm⟩:=bb hb
 have k:Ea (λs:LR×Int=>sA b m0 x a n i (ba .row b) s.1 s.2) (m0,0) (.x (m0++b.flatMap (mc x))):=by
  refine la.fold b (λi b=>(b,(i:Int))) (λl=>m0++l.flatMap (mc x)) (by simp) (λl y r hy=>?_) ?_
  .obtain⟨hlen,hq,hi,ho⟩:=Qa (t:=.row) hy;have hp:=hm y (by rw[hy];simp);obtain⟨v1,v2⟩:=JW (rk hx).2 (rk hp).2;obtain⟨t1,t2⟩:=JF (Lf hx) (Lf hp);have hj:=Et x l;have hn:∀z,lim (ba .row (m0++l.flatMap (mc x))) (ba .row [z]):=λz=>yb (t:=.row) (show(m0++l.flatMap (mc x)).length<1099511627776 by rw[List.length_append];omega);simp only[sA,rA,XQ,pcT,Tr.val,Tr.ob,da,ho,hq,Ia (l:=l) (by omega),v2,t2,EM hx hp,xb];rw[HM];by_cases hk:x.Key=y.Key
   .exact⟨by simp[hi,hn,v1,t1],by simp[ka,mc,hk]⟩
   .exact⟨by simp[hi,hn,hk],by simp[ka,mc,hk]⟩
  .have hh:cmp .lss (b.length:Int) (ba .row b)=false:=Na (t:=.row);simp only[sA,Tr.val,Tr.ob,hh];exact⟨by simp,rfl⟩
 exact⟨k.t,k.v⟩
theorem Rm{a b:List Row}(ha:a.length<=400)(hb:b.length<=400):(jc a b).length<=160000:=Nat.le_trans (FM b a) (Nat.mul_le_mul ha hb)
theorem PW{a b:List Row}(ha:Gb a=true)(hb:Gb b=true):yA a b/\xA a b=Mf (Ka (jc a b)):=by
 obtain⟨hl,hm⟩:=bb ha;obtain⟨hk,ho⟩:=bb hb
 have k:Ea (λs:LR×Int=>uA b a (ba .row a) s.1 s.2) ([],0) (.x (jc a b)):=by
  refine la.fold a (λi m=>(m,(i:Int))) (λl=>jc l b) rfl (λl x r hx=>?_) ?_
  .obtain⟨hlen,hq,hi,hn⟩:=Qa (t:=.row) hx;have hp:=hm x (by rw[hx];simp);obtain⟨c1,c2⟩:=MW (a:=a) (n:=ba .row a) (i:=(l.length:Int)) hb hp (Rm (a:=l) (b:=b) (by omega) hk);simp only[uA,tA,ZQ,pcT,Tr.val,Tr.ob,da,hn,hq,Ia (l:=l) (by omega),c2];rw[GM];exact⟨by simp[hi,c1],rfl⟩
  .have hh:cmp .lss (a.length:Int) (ba .row a)=false:=Na (t:=.row);simp only[uA,Tr.val,Tr.ob,hh];exact⟨by simp,rfl⟩
 have a2:(Aq b a (ba .row a)).o=.x (jc a b):=k.v;have b2:(Aq b a (ba .row a)).ob:=k.t;have hj:=Rm (a:=a) (b:=b) hl hk;obtain⟨q1,q2⟩:=Qm (xs:=jc a b) (by omega) λx hx=>(Kt hm ho x hx).1;simp only[yA,xA,wA,vA,cR,pcT,Tr.val,Tr.ob,da,a2,q2,ocR];exact⟨by simp[b2,q1],by unfold Mf;split<;>rfl⟩
theorem QW{a b:List Row}(ha:Gb a=true)(hb:Gb b=true):kw a b/\jw a b=Ka (jc a b):=by
 obtain⟨hl,hm⟩:=bb ha;obtain⟨hp,ht⟩:=bb hb
 have k4:∀(l:List Row) (x:Row) (r m0:List Row),a=l++x::r->m0.length<=160000->Ea (λs:LR×Int=>dw a b m0 (l.length:Int) s.1 s.2) (m0,0) (.x (m0++b.flatMap (mc x))):=by
  intro l x r m0 hx hs;obtain⟨_,hz,hj,_⟩:=Qa (t:=.row) hx;have hu:=hm x (by rw[hx];simp);generalize (l.length:Int)=i at hz hj;refine la.fold b (λi b=>(b,(i:Int))) (λl=>m0++l.flatMap (mc x)) (by simp) (λl y r hy=>?_) ?_
  .obtain⟨hlen,hw,hi,hr⟩:=Qa (t:=.row) hy;have hv:=ht y (by rw[hy];simp);obtain⟨v1,v2⟩:=LW (rk hu).2 (rk hv).2;obtain⟨t1,t2⟩:=DM (Lf hu) (Lf hv);have hn:=Et x l;have hq:∀z,lim (ba .row (m0++l.flatMap (mc x))) (ba .row [z]):=λz=>yb (t:=.row) (show(m0++l.flatMap (mc x)).length<1099511627776 by rw[List.length_append];omega);simp only[dw,cw,GO,pcT,Tr.val,Tr.ob,da,hr,hw,hz,Ia (l:=l) (by omega),v2,t2,EM hu hv,xb];rw[HM];by_cases hk:x.Key=y.Key
   .exact⟨by simp[hi,hj,hq,v1,t1],by simp[ka,mc,hk]⟩
   .exact⟨by simp[hi,hj,hq,hk],by simp[ka,mc,hk]⟩
  .have hh:cmp .lss (b.length:Int) (ba .row b)=false:=Na (t:=.row);simp only[dw,Tr.val,Tr.ob,hh];exact⟨by simp,rfl⟩
 have k:Ea (λs:LR×Int=>fw a b s.1 s.2) ([],0) (.x (jc a b)):=by
  refine la.fold a (λi m=>(m,(i:Int))) (λl=>jc l b) rfl (λl x r hx=>?_) ?_
  .obtain⟨hlen,_,_,hr⟩:=Qa (t:=.row) hx;have k:=k4 l x r (jc l b) hx (Rm (a:=l) (b:=b) (by omega) hp);have c2:(yo a b (jc l b) (l.length:Int)).o=.x (jc l b++b.flatMap (mc x)):=k.v;have c1:(yo a b (jc l b) (l.length:Int)).ob:=k.t;simp only[fw,ew,LO,pcT,Tr.val,Tr.ob,hr,Ia (l:=l) (by omega),c2];rw[GM];exact⟨by simp[c1],rfl⟩
  .have hh:cmp .lss (a.length:Int) (ba .row a)=false:=Na (t:=.row);simp only[fw,Tr.val,Tr.ob,hh];exact⟨by simp,rfl⟩
 have a2:(zo a b).o=.x (jc a b):=k.v;have b2:(zo a b).ob:=k.t;have ho:=Rm (a:=a) (b:=b) hl hp;obtain⟨q1,q2⟩:=Mg (jc a b) (by omega) λx hx=>(Kt hm ht x hx).1;simp only[kw,jw,iw,gw,NO,pcT,Tr.val,Tr.ob,da,a2,q2,ocR];exact⟨by simp[b2,q1],trivial⟩
theorem RW{a b:List Row}(ha:a.length<1000000000)(hb:b.length<1000000000):jA a b/\iA a b=a++b:=by
 simp only[jA,iA,gA,Tr.val,Tr.ob,da,List.nil_append,ocR];refine⟨⟨⟨?_,?_,trivial⟩,trivial⟩,trivial⟩<;>simp only[lim,ba,List.length_nil]<;>omega
theorem SW{a:List Row}(ha:a.length<1000000000):Uz a/\Tz a=a:=by
 simp only[Uz,Tz,Sz,Tr.val,Tr.ob,da,ocR];refine⟨⟨⟨⟨rfl,by simp only[ba];omega⟩,trivial⟩,trivial⟩,?_⟩;have h:Int.toNat (ba .row a)=a.length:=by simp[ba]
 rw[h,List.length_replicate,List.take_of_length_le (Nat.le_refl _),List.drop_of_length_le (by rw[List.length_replicate];exact Nat.le_refl _),List.append_nil]
theorem TW{a:List Row}(hl:a.length<1000000):pA a/\oA a=Va a:=by
 have k:Ea (λs:LR×Int=>lA a (ba .row a) s.1 s.2) (a,0) (.x (Va a)):=by
  refine la.fold a (λi b=>(b,(i:Int))) (λl=>Va l++a.drop l.length) (by simp[Va]) (λl x r hx=>?_) ?_
  .have hlen:a.length=l.length+(r.length+1):=by rw[hx];simp
   have hd:a.drop l.length=x::r:=by rw[hx];simp
   have hh:a.drop (l++[x]).length=r:=by rw[hx];simp
   have hn:(Va l).length=l.length:=by simp[Va]
   have ho:rd .row (Va l++x::r) (l.length:Int)=x:=by rw[<-hn];exact Xi
   have hj:inb (l.length:Int) (ba .row (Va l++x::r)):=by rw[<-hn];exact Yi (t:=.row)
   have hm:cmp .lss (l.length:Int) (ba .row a)=true:=by rw[hx];exact WL
   have hp:List.set (Va l++x::r) (Int.toNat (l.length:Int)) (og x)=Va (l++[x])++r:=by
    rw[show Int.toNat (l.length:Int)=(Va l).length by rw[hn];rfl,List.set_append_right _ _ (Nat.le_refl _),Nat.sub_self];simp[Va]
   simp only[hd,hh,lA,Tr.val,Tr.ob,da,hm,ho,Ia (l:=l) (by omega)];refine⟨by simp[hj],?_⟩;show Lp.go (List.set (Va l++x::r) (Int.toNat (l.length:Int)) (og x),_)=_;rw[hp]
  .have hi:cmp .lss (a.length:Int) (ba .row a)=false:=Na (t:=.row);simp only[lA,Tr.val,Tr.ob,da,hi];exact⟨by simp,by simp[ka]⟩
 have a2:(vq a (ba .row a)).o=.x (Va a):=k.v;have b2:(vq a (ba .row a)).ob:=k.t;have hk:lim (ba .row ([]:List Row)) (ba .row a):=by simp only[lim,ba,List.length_nil];omega
 simp only[pA,oA,nA,mA,TQ,pcT,Tr.val,Tr.ob,da,List.nil_append,a2,ocR];exact⟨by simp[b2,hk],trivial⟩
theorem UW{x y z:Row}(h1:Jf x y)(h2:Jf y z):Jf x z:=Fg h1 h2
theorem IM:∀(xs:List Row) (y:Option Row),ub Pd y xs=true->xs.Pairwise Jf/\(∀x∈xs,x.Diff≠0)/\∀z,y=some z->∀x∈xs,Jf z x
 |[],_,_=>⟨.nil,by simp,by simp⟩
 |x::r,y,h=>by
  simp only[ub,Bool.and_eq_true,Bool.not_eq_true']at h;obtain⟨h1,h2,h3⟩:=IM r (some x) h.2
  have hx:x.Diff≠0:=by
   have:=h.1;cases y<;>simp[Pd]at this
   .exact this
   .exact this.1
  refine⟨List.pairwise_cons.2 ⟨h3 x rfl,h1⟩,λz hz=>?_,λz hz w hw=>?_⟩
  .rcases List.mem_cons.1 hz with rfl|hz
   .exact hx
   .exact h2 z hz
  .subst hz
   have hh:Jf z x:=by
    have:=h.1;simp[Pd]at this;exact this.2
   rcases List.mem_cons.1 hw with rfl|hw
   .exact hh
   .exact UW hh (h3 x rfl w hw)
theorem JM{xs:List Row}(h1:xs.Pairwise Jf)(h2:∀x∈xs,x.Diff≠0/\InR x.Diff):Ka xs=xs:=by
 have h3:qc (chR xs)=chR xs:=CX (n:=4) (List.pairwise_map.2 h1) (Gm xs) λp hp=>by
  obtain⟨x,hx,rfl⟩:=List.mem_map.1 hp;exact h2 x hx
 unfold Ka;rw[h3,kW]
theorem Tm{xs:List Row}(h:Ca xs=true):xs.Pairwise Jf/\(∀x∈xs,x.Diff≠0)/\∀x∈xs,Ab x=true:=by
 simp only[Ca,Bool.and_eq_true]at h;obtain⟨h1,h2,_⟩:=IM xs none h.1;exact⟨h1,h2,(bb h.2).2⟩
theorem MM{xs:List Row}(h:Ca xs=true):Ka xs=xs:=by
 obtain⟨h1,h2,h3⟩:=Tm h;exact JM h1 λx hx=>⟨h2 x hx,Oe (h3 x hx)⟩
theorem NM{x:Row}(h:Ab x=true)(_h0:x.Diff≠0):Ab (og x)=true/\(og x).Diff=-x.Diff:=by
 simp only[Ab,decide_eq_true_eq]at h;have e:IntKind.wrap .i64 (0 - x.Diff)=-x.Diff:=by rw[rF (by unfold InR;omega)];omega
 refine⟨?_,e⟩;simp only[Ab,og,e,decide_eq_true_eq];omega
theorem OM{xs:List Row}(h:Ca xs=true):Ca (Va xs)=true:=by
 obtain⟨h1,h2,h3⟩:=Tm h;have hr:=(bb (je h)).1
 have hp:(Va xs).Pairwise Jf:=by
  unfold Va;rw[List.pairwise_map];exact h1
 unfold Ca;rw[HF (Va xs) none hp (λx hx=>?_) (λz hz=>by cases hz),Bool.true_and]
 .simp only[Gb,Bool.and_eq_true,decide_eq_true_eq,List.all_eq_true];refine⟨λx hx=>?_,by simpa [Va] using hr⟩;obtain⟨y,hy,rfl⟩:=List.mem_map.1 hx;exact(NM (h3 y hy) (h2 y hy)).1
 .obtain⟨y,hy,rfl⟩:=List.mem_map.1 hx;rw[(NM (h3 y hy) (h2 y hy)).2];have:=h2 y hy;omega
theorem PM(xs:List Row)(hl:xs.length<1000000000):uo xs/\ro xs=if Ca xs=true then xs else []:=by
 obtain⟨b1,b2⟩:=Pm xs hl;simp only[uo,ro,Vv,Tr.val,Tr.ob,da,b2];cases Ca xs<;>simp[b1,ocR]
theorem QM{a:List Row}(h:Ca a=true):xo a/\qj a=Va a:=by
 have hr:=je h;obtain⟨hl,hm⟩:=bb hr;obtain⟨r1,r2⟩:=Om a (by omega);have hn:=OM h
 have k:Ea (λs:LR×Int=>Yv a s.1 s.2) ([],0) (.x (Va a)):=by
  refine la.fold a (λi b=>(b,(i:Int))) (λl=>Va l) rfl (λl x r hx=>?_) ?_
  .obtain⟨hlen,hp,hi,hk⟩:=Qa (t:=.row) hx;have ho:(Va l).length=l.length:=by simp[Va]
   have hj:∀y,lim (ba .row (Va l)) (ba .row [y]):=λy=>yb (t:=.row) (show(Va l).length<1099511627776 by omega);simp only[Yv,Tr.val,Tr.ob,da,hk,hp,r2,hr,Ia (l:=l) (by omega)];exact⟨by simp[hi,hj,r1],by simp[ka,Va,og]⟩
  .have hh:cmp .lss (a.length:Int) (ba .row a)=false:=Na (t:=.row);simp only[Yv,Tr.val,Tr.ob,da,hh];exact⟨by simp,rfl⟩
 have a2:(wo a).o=.x (Va a):=k.v;have b2:(wo a).ob:=k.t;have ho:(Va a).length=a.length:=by simp[Va]
 obtain⟨q1,q2⟩:=Mg (Va a) (by omega) (XF a);rw[MM hn]at q2;obtain⟨f1,f2⟩:=PM (Va a) (by omega);rw[if_pos hn]at f2;simp only[xo,qj,aw,Zv,EO,pcT,Tr.val,Tr.ob,da,a2,q2,f2,ocR];exact⟨by simp[b2,q1,q2,f1],trivial⟩
def La(k:Int)(s:List Item):List Item:=s.filter λx=>decide (x.Key=k)
theorem RM(k:Int)(l:List Item)(x:Item):La k (l++[x])=La k l++if x.Key=k then [x] else []:=by
 unfold La;rw[List.filter_append]
 congr 1
 by_cases h:x.Key=k<;>simp[h]
theorem SM(l:List Item)(x:Item):Fe (l++[x])=ar .add .i64 (Fe l) x.Count:=by unfold Fe;rw[List.foldl_append];rfl
theorem LF{ρ β:Type}[Inhabited ρ]{step:β×Int->Lp (β×Int) ρ}{ob:β×Int->Prop}(f:Nat->β){fin:ρ}(hgo:∀i:Nat,i<4->ob (f i,(i:Int))/\step (f i,(i:Int))=.go (f (i+1),((i+1:Nat):Int)))
  (hout:ob (f 4,((4:Nat):Int))/\step (f 4,((4:Nat):Int))=.out fin):la step ob (f 0,0) fin:=by
 refine la.fold (List.range 4) (λi b=>(b,(i:Int))) (λl=>f l.length) rfl (λl x r hx=>?_) ?_
 .have hlen:4=l.length+(r.length+1):=by have:=congrArg List.length hx;simpa using this
  have:=hgo l.length (by omega);rw[List.length_append,List.length_singleton];exact this
 .exact hout
theorem VW{s:List Item}(hl:s.length<1000000):XA s/\WA s=Pg 1 s:=by
 have k5:∀(y:List Item) (k:Int),Ea (λt:Int×Int=>JA s y k (ba .item s) t.1 t.2) (0,0) (.x (Fe (La k s))):=λy k=>by
  refine la.fold s (λi b=>(b,(i:Int))) (λl=>Fe (La k l)) rfl (λl x r hx=>?_) ?_
  .obtain⟨hlen,hp,hk,ho⟩:=Qa (t:=.item) hx;simp only[JA,IA,kR,pcT,Tr.val,Tr.ob,da,ho,hp,Ia (l:=l) (by omega),xb];rw[RM];by_cases h:x.Key=k
   .exact⟨by simp[hk],by simp[ka,h,SM]⟩
   .exact⟨by simp[hk],by simp[ka,h]⟩
  .have hj:cmp .lss (s.length:Int) (ba .item s)=false:=Na (t:=.item);simp only[JA,Tr.val,Tr.ob,hj];exact⟨by simp,rfl⟩
 have a5:∀y k,(Fq s y k (ba .item s)).o=.x (Fe (La k s)):=λy k=>(k5 y k).v;have b5:∀y k,(Fq s y k (ba .item s)).ob:=λy k=>(k5 y k).t
 have hlen:∀i:Nat,i<=4->((List.range i).flatMap λk:Nat=>ab 1 k (La k s)).length<=i:=λi _=>by
  induction i with
  |zero=>simp
  |succ i ih=>
   have:=ih (by omega);rw[List.range_succ,List.flatMap_append,List.length_append]
   have:(List.flatMap (λk:Nat=>ab 1 k (La k s)) [i]).length<=1:=by
    rw[List.flatMap_singleton];unfold ab;rw[if_pos rfl];split<;>simp
   omega
 have k2:Ea (λt:LI×Int=>SA s t.1 t.2) ([],0) (.x (Pg 1 s)):=by
  refine LF (λi=>(List.range i).flatMap λk:Nat=>ab 1 k (La k s)) (λi hi=>?_) ?_
  .have ho:cmp .lss (i:Int) 4=true:=by rw[Yb];simp;omega
   have hh:ar .add .i64 (i:Int) 1=((i+1:Nat):Int):=by rw[Zb (by omega)];omega
   have hm:=hlen i (by omega);have hn:∀y,lim (ba .item ((List.range i).flatMap λk:Nat=>ab 1 k (La k s))) (ba .item [y]):=λy=>yb (t:=.item) (by omega);simp only[SA,RA,nR,PA,mR,pcT,Tr.val,Tr.ob,da,ho,hh,a5,De];rw[List.range_succ,List.flatMap_append,List.flatMap_singleton];by_cases h:Fe (La i s)=0
   .exact⟨by simp[b5,h],by simp[ka,ab,h]⟩
   .exact⟨by simp[b5,h,hn],by simp[ka,ab,h,qk]⟩
  .have hj:cmp .lss ((4:Nat):Int) 4=false:=rfl;simp only[SA,Tr.val,Tr.ob,hj];exact⟨by simp,rfl⟩
 have a2:(Gq s).o=.x (Pg 1 s):=k2.v;have b2:(Gq s).ob:=k2.t;simp only[XA,WA,VA,UA,pR,pcT,Tr.val,Tr.ob,a2,ocR];exact⟨by simp[b2],trivial⟩
theorem WW{s:List Item}(hs:Canon s)(hk:∀x∈s,0<=x.Key/\x.Key<=3):s=(List.range 4).flatMap λk:Nat=>La k s:=by
 have hc:Canon ((List.range 4).flatMap λk:Nat=>La k s):=by
  have hm:∀(k:Nat) x,x∈La k s->x.Key=k:=λk x hx=>by simpa using(List.mem_filter.1 hx).2
  have h:∀k:Nat,Canon (La k s):=λk=>hs.filter _;rw[bj,List.append_nil];refine(h 0).append ((h 1).append ((h 2).append (h 3) λx hx y hy=>?_) λx hx y hy=>?_) λx hx y hy=>?_
  .rw[hm 2 x hx,hm 3 y hy];decide
  .rw[hm 1 x hx];rcases List.mem_append.1 hy with hy|hy
   .rw[hm 2 y hy];decide
   .rw[hm 3 y hy];decide
  .rw[hm 0 x hx];rcases List.mem_append.1 hy with hy|hy
   .rw[hm 1 y hy];decide
   .rcases List.mem_append.1 hy with hy|hy
    .rw[hm 2 y hy];decide
    .rw[hm 3 y hy];decide
 refine mF (lt:=λx y:Item=>ltK (kI x) (kI y)=true) (λx h=>by rw[Ef]at h;cases h) (λh1 h2=>Fg h1 h2) hs.1 hc.1 λx=>?_;simp only[List.mem_flatMap,List.mem_range,La,List.mem_filter,decide_eq_true_eq];constructor
 .intro hx;have:=hk x hx;exact⟨x.Key.toNat,by omega,hx,by omega⟩
 .rintro⟨k,_,hx,_⟩;exact hx
theorem XW(f:Nat->List Item):Ic ((List.range 4).flatMap f)=(List.range 4).flatMap λk=>Ic (f k):=by
 rw[bj,bj];unfold Ic;simp only[List.filter_append,List.map_append,List.filter_nil,List.map_nil]
theorem YW{k:Int}(s:List Item):Ic (La k s)=Jc k (La k s):=by
 unfold Ic Jc;refine List.map_congr_left λx hx=>?_;have:=(List.mem_filter.1 (List.mem_filter.1 hx).1).2;simp only[decide_eq_true_eq]at this;rw[this]
theorem UM{s:List Item}(hs:Canon s)(hk:∀x∈s,0<=x.Key/\x.Key<=3):Ic s=Pg 2 s:=by
 conv=>lhs;rw[WW hs hk]
 rw[XW];unfold Pg;rw[bj,bj];simp only[YW];rfl
def bc(out:List Item)(x:Item):List Item:=if out=[]\/(∃y,out.getLast? = some y/\y.Key≠x.Key) then out++[x] else out
theorem Gt{k:Int}:∀(l out:List Item),(∀x∈l,x.Key=k)->(∀y∈out,y.Key≠k)->l.foldl bc out=out++l.take 1
 |[],out,_,_=>by simp
 |x::l,out,hl,ho=>by
  have h1:bc out x=out++[x]:=by
   unfold bc;rw[if_pos];rcases last_cases out with⟨h,_⟩|⟨l',y,h,h2⟩
   .exact .inl h
   .exact .inr ⟨y,h2,by rw[hl x (by simp)];exact ho y (by rw[h];simp)⟩
  have h2:∀(m:List Item),(∀z∈m,z.Key=k)->m.foldl bc (out++[x])=out++[x]:=by
   intro m
   induction m with
   |nil=>intro _;rfl
   |cons z m ih=>
    intro hm
    have:bc (out++[x]) z=out++[x]:=by
     unfold bc;rw[if_neg];rintro (h|⟨y,h3,h4⟩)
     .simp at h
     .simp at h3;subst h3;exact h4 (by rw[hl x (by simp),hm z (by simp)])
    rw[List.foldl_cons,this];exact ih λw hw=>hm w (by simp[hw])
  rw[List.foldl_cons,h1,h2 l λz hz=>hl z (by simp[hz])];simp
theorem ZW{s:List Item}(hs:Canon s)(hk:∀x∈s,0<=x.Key/\x.Key<=3):(Ic s).foldl bc []=Pg 3 s:=by
 have hm:∀(k:Nat) x,x∈Jc k (La k s)->x.Key=k:=λk x hx=>by
  obtain⟨y,_,rfl⟩:=List.mem_map.1 hx;rfl
 have ht:∀(k:Nat) x,x∈(Jc k (La k s)).take 1->x.Key=k:=λk x hx=>hm k x (List.mem_of_mem_take hx);rw[UM hs hk];unfold Pg;rw[bj,bj,List.append_nil,List.append_nil];have e:∀k:Nat,ab 2 k (La k s)=Jc k (La k s):=λk=>by unfold ab;simp
 have e3:∀k:Nat,ab 3 k (La k s)=(Jc k (La k s)).take 1:=λk=>by unfold ab;simp
 show List.foldl bc [] (ab 2 (0:Nat) (La (0:Nat) s)++(ab 2 (1:Nat) (La (1:Nat) s)++(ab 2 (2:Nat) (La (2:Nat) s)++ab 2 (3:Nat) (La (3:Nat) s))))=ab 3 (0:Nat) (La (0:Nat) s)++(ab 3 (1:Nat) (La (1:Nat) s)++(ab 3 (2:Nat) (La (2:Nat) s)++ab 3 (3:Nat) (La (3:Nat) s)));simp only[e,e3]
 rw[List.foldl_append,List.foldl_append,List.foldl_append,Gt _ _ (hm 0) (λy hy=>by cases hy),List.nil_append,
  Gt _ _ (hm 1) (λy hy=>by rw[ht 0 y hy];decide),Gt _ _ (hm 2) (λy hy=>?_),Gt _ _ (hm 3) (λy hy=>?_)]
 .simp only[List.append_assoc]
 .rcases List.mem_append.1 hy with hy|hy
  .rcases List.mem_append.1 hy with hy|hy
   .rw[ht 0 y hy];decide
   .rw[ht 1 y hy];decide
  .rw[ht 2 y hy];decide
 .rcases List.mem_append.1 hy with hy|hy
  .rw[ht 0 y hy];decide
  .rw[ht 1 y hy];decide
theorem VM:∀(l out:List Item),(l.foldl bc out).length<=out.length+l.length
 |[],out=>by simp
 |x::l,out=>by
  have:=VM l (bc out x);have h2:(bc out x).length<=out.length+1:=by unfold bc;split<;>simp
  rw[List.foldl_cons,List.length_cons];omega
theorem aX{s:List Item}(hl:s.length<1000000):jB s/\iB s=(Ic s).foldl bc []:=by
 obtain⟨o1,o2⟩:=nM s (by omega);have hr:(Ic s).length<=s.length:=by unfold Ic;rw[List.length_map];exact List.length_filter_le _ _
 generalize hL:Ic s=L at o2 hr
 have k:Ea (λt:LI×Int=>dB L (ba .item L) t.1 t.2) ([],0) (.x (L.foldl bc [])):=by
  refine la.fold L (λi b=>(b,(i:Int))) (λl=>l.foldl bc []) rfl (λl x r hx=>?_) ?_
  .obtain⟨hlen,hs,hi,ho⟩:=Qa (t:=.item) hx;have hn:=VM l [];rw[List.length_nil]at hn;have hm:∀y,lim (ba .item (l.foldl bc [])) (ba .item [y]):=λy=>yb (t:=.item) (show(l.foldl bc []).length<1099511627776 by omega);rw[List.foldl_append];show _/\_=Lp.go (bc (l.foldl bc []) x,_);generalize l.foldl bc []=out at hn hm;simp only[dB,cB,tR,pcT,Tr.val,Tr.ob,da,ho,hs,Ia (l:=l) (by omega),xb,De];rcases last_cases out with⟨h,h2⟩|⟨l',y,h,h2⟩
   .subst h;have h0:ba .item ([]:List Item)=0:=rfl;simp only[h0];exact⟨by simp[hi];exact hm x,by simp[ka,bc]⟩
   .have hp:¬ ba .item out=0:=by rw[h];simp only[ba,List.length_append,List.length_singleton];omega
    have hu:ar .sub .i64 (ba .item out) 1=(l'.length:Int):=by
     rw[bf (by simp only[ba];omega),h];simp only[ba,List.length_append,List.length_singleton];omega
    have ht:rd .item out (l'.length:Int)=y:=by rw[h];exact Xi (r:=[])
    have hj:inb (l'.length:Int) (ba .item out):=by rw[h];exact Yi (t:=.item) (r:=[])
    simp only[hp,hu,ht];have hq:out≠[]:=by rw[h];simp
    by_cases hk:y.Key=x.Key
    .refine⟨by simp[hi,hj,hk],?_⟩
     have:bc out x=out:=by
      unfold bc;rw[if_neg];rintro (h3|⟨z,h3,h4⟩)
      .exact hq h3
      .rw[h2]at h3;cases h3;exact h4 hk
     rw[this];simp[ka,hk]
    .refine⟨by simp[hi,hj,hk,hm],?_⟩
     have:bc out x=out++[x]:=by
      unfold bc;rw[if_pos (.inr ⟨y,h2,hk⟩)]
     rw[this];simp[ka,hk]
  .have hh:cmp .lss (L.length:Int) (ba .item L)=false:=Na (t:=.item);simp only[dB,Tr.val,Tr.ob,hh];exact⟨by simp,rfl⟩
 have a2:(Mq L (ba .item L)).o=.x (L.foldl bc []):=k.v;have b2:(Mq L (ba .item L)).ob:=k.t;simp only[jB,iB,fB,eB,vR,pcT,Tr.val,Tr.ob,da,o2,a2,ocR];exact⟨by simp[b2,o1],trivial⟩
theorem cX{s:List Item}(hl:s.length<1000000)(hs:Canon s)(hk:∀x∈s,0<=x.Key/\x.Key<=3){kind:Int}(hkind:1<=kind/\kind<=3):mB s kind/\lB s kind=Pg kind s:=by
 obtain⟨c1,c2⟩:=VW hl;obtain⟨o1,o2⟩:=nM s (by omega);obtain⟨l1,l2⟩:=aX hl;rw[UM hs hk]at o2;rw[ZW hs hk]at l2;simp only[mB,lB,kB,Tr.val,Tr.ob,da,c2,o2,l2,xb];have hc:kind=1\/kind=2\/kind=3:=by omega
 rcases hc with rfl|rfl|rfl
 .exact⟨by simp[c1],by simp[ocR]⟩
 .exact⟨by simp[o1],by simp[ocR]⟩
 .exact⟨by simp[l1],by simp[ocR]⟩
theorem WM{k:Int}{s:List Item}(h:∀x∈s,x.Key=k):La k s=s:=List.filter_eq_self.2 λx hx=>by simpa using h x hx
theorem eX{k:Int}{s:List Item}(h:∀x∈s,x.Key≠k):La k s=[]:=List.filter_eq_nil_iff.2 λx hx=>by simpa using h x hx
theorem fX{kind:Int}{k:Nat}(hk:k<4){s:List Item}(h:∀x∈s,x.Key=k):Pg kind s=ab kind k s:=by
 have hn:∀j:Nat,j≠k->ab kind j (La j s)=[]:=λj hj=>by
  rw[eX λx hx=>by rw[h x hx];omega,HX]
 have hy:ab kind k (La k s)=ab kind k s:=by rw[WM h]
 show ab kind (0:Nat) (La (0:Nat) s)++(ab kind (1:Nat) (La (1:Nat) s)++(ab kind (2:Nat) (La (2:Nat) s)++(ab kind (3:Nat) (La (3:Nat) s)++[])))=_;have hc:k=0\/k=1\/k=2\/k=3:=by omega
 rcases hc with rfl|rfl|rfl|rfl
 .rw[hn 1 (by decide),hn 2 (by decide),hn 3 (by decide),hy];simp
 .rw[hn 0 (by decide),hn 2 (by decide),hn 3 (by decide),hy];simp
 .rw[hn 0 (by decide),hn 1 (by decide),hn 3 (by decide),hy];simp
 .rw[hn 0 (by decide),hn 1 (by decide),hn 2 (by decide),hy];simp
def Kc(kind k:Int)(s:List Item):List Item:=if kind=2 then Jc k s else if kind=3 then(Jc k s).take 1 else []
theorem It(k:Int)(l:List Item)(x:Item):Jc k (l++[x])=Jc k l++if 0<x.Count then [⟨k,x.Val,1⟩] else []:=by
 unfold Jc;rw[List.filter_append,List.map_append]
 congr 1
 by_cases h:0<x.Count<;>simp[h]
theorem XM(kind k:Int)(s:List Item):(Kc kind k s).length<=s.length:=by
 have h:(Jc k s).length<=s.length:=by unfold Jc;rw[List.length_map];exact List.length_filter_le _ _
 unfold Kc;split
 .exact h
 .split
  .rw[List.length_take];omega
  .simp
theorem iX{s:List Item}(hl:s.length<1000000){key kind:Int}(hkind:1<=kind/\kind<=3):cx s key kind/\ax s key kind=ab kind key (La key s):=by
 have k:Ea (λt:LI×Int×Int=>Ww s key kind t.1 t.2.1 t.2.2) ([],0,0) (.x (Kc kind key (La key s),Fe (La key s))):=by
  refine la.fold s (λi b=>(b.1,b.2,(i:Int))) (λl=>(Kc kind key (La key l),Fe (La key l))) (by simp[La,Kc,Jc,Fe]) (λl x r hx=>?_) ?_
  .obtain⟨hlen,hq,hj,hn⟩:=Qa (t:=.item) hx;have hk:(La key l).length<=l.length:=List.length_filter_le _ _;have ho:=XM kind key (La key l);have hm:∀y,lim (ba .item (Kc kind key (La key l))) (ba .item [y]):=λy=>yb (t:=.item) (show(Kc kind key (La key l)).length<1099511627776 by omega);simp only[Ww,Vw,mP,pcT,Tr.val,Tr.ob,da,hn,hq,Ia (l:=l) (by omega),xb,De,tc];rw[RM];by_cases h:x.Key=key
   .rw[if_pos h,SM];generalize hK:La key l=K at hm
    have hz:∀o:List Item,decide (ba .item o=0)=decide (o=[]):=λo=>by
     cases o with
     |nil=>rfl
     |cons a o=>
      have:¬ ba .item (a::o)=0:=by simp only[ba,List.length_cons];omega
      simp[this]
    have hc:kind=1\/kind=2\/kind=3:=by omega
    by_cases hp:0<x.Count
    .rcases hc with rfl|rfl|rfl
     .exact⟨by simp[hj,h,hp],by simp[ka,Kc,h,hp]⟩
     .refine⟨by simp[hj,h,hp];exact hm _,?_⟩;simp[ka,Kc,h,hp,It]
     .simp only[hz];refine⟨by simp[hj,h,hp];exact λ_=>hm _,?_⟩;have e3:∀s,Kc 3 key s=(Jc key s).take 1:=λs=>by simp[Kc]
      rw[e3,e3,It,if_pos hp];cases hO:Jc key K with
      |nil=>simp[ka,h,hp]
      |cons a O=>simp[ka,h,hp]
    .rcases hc with rfl|rfl|rfl
     .exact⟨by simp[hj,h,hp],by simp[ka,Kc,h,hp]⟩
     .exact⟨by simp[hj,h,hp],by simp[ka,Kc,h,hp,It]⟩
     .exact⟨by simp[hj,h,hp],by simp[ka,Kc,h,hp,It]⟩
   .rw[if_neg h,List.append_nil];exact⟨by simp[hj,h],by simp[ka,h]⟩
  .have hi:cmp .lss (s.length:Int) (ba .item s)=false:=Na (t:=.item);simp only[Ww,Tr.val,Tr.ob,hi];exact⟨by simp,rfl⟩
 have a2:(Ro s key kind).o=.x (Kc kind key (La key s),Fe (La key s)):=k.v;have b2:(Ro s key kind).ob:=k.t;have hk:(La key s).length<=s.length:=List.length_filter_le _ _;have ho:=XM kind key (La key s);have hm:∀y,lim (ba .item (Kc kind key (La key s))) (ba .item [y]):=λy=>yb (t:=.item) (show(Kc kind key (La key s)).length<1099511627776 by omega);have hh:∀n,UG n/\Uw n=qk n:=λn=>⟨⟨⟨by decide,by decide,trivial⟩,trivial⟩,rfl⟩;simp only[cx,ax,Zw,Xw,oP,Yw,pP,pcT,Tr.val,Tr.ob,da,a2,(hh _).2,xb,De];have hc:kind=1\/kind=2\/kind=3:=by omega
 rcases hc with rfl|rfl|rfl
 .by_cases h:Fe (La key s)=0
  .exact⟨by simp[b2,h],by simp[ocR,ab,Kc,h]⟩
  .exact⟨by simp[b2,h,hm,(hh _).1],by simp[ocR,ab,Kc,h]⟩
 .exact⟨by simp[b2],by simp[ocR,ab,Kc]⟩
 .exact⟨by simp[b2],by simp[ocR,ab,Kc]⟩
theorem la.while{σ ρ:Type}[Inhabited ρ]{step:σ->Lp σ ρ}{ob:σ->Prop}(I:σ->Prop)(m:σ->Nat){Q:ρ->Prop}
  (h:∀s,I s->ob s/\((∃s',step s=.go s'/\I s'/\m s'<m s)\/∃q,step s=.out q/\Q q)):∀(n:Nat) (s:σ),m s=n->I s->∃q,la step ob s q/\Q q:=by
 intro n
 induction n using Nat.strongRecOn with
 |_ n ih=>
  intro s hn hI;obtain⟨ho,⟨s',h1,h2,h3⟩|⟨q,h1,h2⟩⟩:=h s hI
  .obtain⟨q,hq,hQ⟩:=ih (m s') (by omega) s' rfl h2;exact⟨q,.go ho h1 hq,hQ⟩
  .exact⟨q,.out ho h1,h2⟩
theorem YM{ρ β:Type}[Inhabited ρ]{step:β×Int->Lp (β×Int) ρ}{ob:β×Int->Prop}(f:Nat->β){fin:ρ}(hgo:∀i:Nat,i<8->ob (f i,(i:Int))/\step (f i,(i:Int))=.go (f (i+1),((i+1:Nat):Int)))
  (hout:ob (f 8,((8:Nat):Int))/\step (f 8,((8:Nat):Int))=.out fin):la step ob (f 0,0) fin:=by
 refine la.fold (List.range 8) (λi b=>(b,(i:Int))) (λl=>f l.length) rfl (λl x r hx=>?_) ?_
 .have hlen:8=l.length+(r.length+1):=by have:=congrArg List.length hx;simpa using this
  have:=hgo l.length (by omega);rw[List.length_append,List.length_singleton];exact this
 .exact hout
theorem ZM{α:Type}:∀ {S L:List α},S.Nodup->(∀t∈S,t∈L)->S.length<=L.length
 |[],L,_,_=>by simp
 |x::S,L,h,hs=>by
  obtain⟨A,B,rfl⟩:=List.append_of_mem (hs x (by simp));have h':=List.nodup_cons.1 h
  have:=ZM (S:=S) (L:=A++B) h'.2 λt ht=>by
   have h1:=hs t (by simp[ht]);simp only[List.mem_append,List.mem_cons]at h1⊢;rcases h1 with h1|rfl|h1
   .exact .inl h1
   .exact absurd ht h'.1
   .exact .inr h1
  simp only[List.length_append,List.length_cons]at this⊢;omega
def Ib(l:List Time)(t:Time):Bool:=decide (t∈l)
theorem jX{s t:Time}:(decide (s.A=t.A)&&(decide (s.B=t.B)&&true))=decide (s=t):=by
 obtain⟨a,b⟩:=s;obtain⟨c,d⟩:=t;rw[Bool.eq_iff_iff];simp
theorem MF(l:List Time)(t:Time)(hl:l.length<1000000):Hk l t/\Gk l t=Ib l t:=by
 have k:Ea (λs:Int=>mw l t s) 0 (if ub (λ_ x=>decide (x=t)) none l=true then .x () else .r true):=by
  refine la.scan l _ (λm x r hx=>?_) ?_
  .obtain⟨hlen,hk,hi,hj⟩:=Qa (t:=.time) hx;simp only[mw,Tr.val,Tr.ob,da,hj,hk,Ia (l:=m) (by omega),xb,jX];refine⟨by simp[hi],?_⟩;cases decide (x=t)<;>rfl
  .have hh:cmp .lss (l.length:Int) (ba .time l)=false:=Na (t:=.time);simp only[mw,Tr.val,Tr.ob,da,hh];exact⟨by simp,rfl⟩
 have a2:(Co l t).o=_:=k.v;have b2:(Co l t).ob:=k.t
 have hs:ub (λ_ x=>decide (x=t)) none l=!Ib l t:=by
  have:=Og (λx:Time=>!decide (x=t)) l none;simp only[Bool.not_not]at this;rw[this,Bool.eq_iff_iff];simp only[Ib,List.all_eq_true,decide_eq_false_iff_not,Bool.not_eq_eq_eq_not,Bool.not_true];exact⟨λh hm=>h t hm rfl,λh x hx e=>h (e▸hx)⟩
 rw[hs]at a2;simp only[Hk,Gk,qw,nw,PO,pcT,Tr.val,Tr.ob,a2];refine⟨by simp[b2],?_⟩;cases Ib l t<;>rfl
structure Ge(xs:List Row)(k:Int)(S:List Time):Prop where
 nd:S.Nodup
 ok:∀t∈S,za t=true/\jT xs k t=true
theorem Ge.len{xs:List Row}{k:Int}{S:List Time}(h:Ge xs k S):S.length<=64:=by
 have:=ZM h.nd λt ht=>WS.2 (h.ok t ht).1;have h2:allT.length<=64:=vC _ 8;omega
theorem Ge.snoc{xs:List Row}{k:Int}{S:List Time}(h:Ge xs k S){t:Time}(ht:za t=true/\jT xs k t=true)(hn:t ∉ S):Ge xs k (S++[t]):=by
 refine⟨?_,λu hu=>?_⟩
 .rw[List.nodup_append];exact⟨h.nd,by simp,λa ha b hb=>by simp at hb;subst hb;exact λe=>hn (e▸ha)⟩
 .rcases List.mem_append.1 hu with hu|hu
  .exact h.ok u hu
  .simp at hu;subst hu;exact ht
def cc(k:Int)(l:List Row):List Time:=l.foldl (λs x=>if x.Key=k/\x.At ∉ s then s++[x.At] else s) []
theorem aN(k:Int)(l:List Row)(x:Row):cc k (l++[x])=if x.Key=k/\x.At ∉ cc k l then cc k l++[x.At] else cc k l:=by unfold cc;rw[List.foldl_append];rfl
theorem bN{xs:List Row}{k:Int}(hr:∀x∈xs,Ab x=true):∀r l,xs=l++r->Ge xs k (cc k l)/\(∀x∈l,x.Key=k->x.At∈cc k l):=by
 suffices ∀l,(∀x∈l,x∈xs)->Ge xs k (cc k l)/\(∀x∈l,x.Key=k->x.At∈cc k l) from λr l h=>this l λx hx=>by rw[h];simp[hx]
 intro l
 induction hn:l.length generalizing l with
 |zero=>
  have:l=[]:=List.length_eq_zero_iff.1 hn;subst this;exact λ_=>⟨⟨by simp[cc],by simp[cc]⟩,by simp⟩
 |succ n ih=>
  rcases last_cases l with⟨h,_⟩|⟨l',x,h,_⟩
  .rw[h]at hn;simp at hn
  .subst h;intro hm;obtain⟨i1,i2⟩:=ih l' (by simpa using hn) λy hy=>hm y (by simp[hy]);rw[aN];have hx:=hm x (by simp);split
   .rename_i hc;refine⟨i1.snoc ⟨Lf (hr x hx),SS hx hc.1⟩ hc.2,λy hy hk=>?_⟩;rcases List.mem_append.1 hy with hy|hy
    .exact List.mem_append.2 (.inl (i2 y hy hk))
    .simp at hy;subst hy;simp
   .rename_i hc;refine⟨i1,λy hy hk=>?_⟩;rcases List.mem_append.1 hy with hy|hy
    .exact i2 y hy hk
    .simp at hy;subst hy;by_cases hin:y.At∈cc k l'
     .exact hin
     .exact absurd ⟨hk,hin⟩ hc
theorem kX(s t:Time):gb s t=gb t s:=by
 unfold gb;simp only[Bj]
 congr 1<;>split<;>split<;>omega
theorem lX(s:Time):gb s s=s:=by
 obtain⟨a,b⟩:=s;simp[gb,Bj]
theorem tk{S:List Time}{p:Nat}(hp:p<S.length)(t:Time):rd .time (S++[t]) (p:Int)=rd .time S (p:Int):=by
 unfold rd;simp only[Int.toNat_natCast];rw[List.getD_eq_getElem?_getD,List.getD_eq_getElem?_getD,List.getElem?_append_left hp]
theorem cN{S:List Time}{p:Nat}(hp:p<S.length):rd .time S (p:Int)∈S:=by
 unfold rd;simp only[Int.toNat_natCast];rw[List.getD_eq_getElem?_getD,List.getElem?_eq_getElem hp];exact List.getElem_mem hp
def pg(S:List Time)(i j:Nat):Prop:=(∀p q,p<i->q<p->gb (rd .time S (p:Int)) (rd .time S (q:Int))∈S)/\∀q,q<j->gb (rd .time S (i:Int)) (rd .time S (q:Int))∈S
theorem pg.snoc{S:List Time}{i j:Nat}(h:pg S i j)(hi:i<S.length)(hj:j<=i)(t:Time):pg (S++[t]) i j:=⟨λp q hp hq=>by rw[tk (by omega),tk (by omega)];exact List.mem_append.2 (.inl (h.1 p q hp hq)),λq hq=>by rw[tk hi,tk (by omega)];exact List.mem_append.2 (.inl (h.2 q hq))⟩
theorem mX{xs:List Row}(hr:Gb xs=true)(k:Int):Gw xs k/\Fw xs k=db xs k:=by
 obtain⟨hl,hm⟩:=bb hr;obtain⟨r1,r2⟩:=Om xs (by omega)
 have k2:Ea (λs:List Time×Int=>tw xs k s.1 s.2) ([],0) (.x (cc k xs)):=by
  refine la.fold xs (λi b=>(b,(i:Int))) (λl=>cc k l) rfl (λl x r hx=>?_) ?_
  .obtain⟨hlen,kp,it,km⟩:=Qa (t:=.row) hx;obtain⟨i1,_⟩:=bN (xs:=xs) (k:=k) hm (x::r) l hx;have ki:=i1.len;obtain⟨q1,q2⟩:=MF (cc k l) x.At (by omega);have kk:∀y,lim (ba .time (cc k l)) (ba .time [y]):=λy=>yb (t:=.time) (show(cc k l).length<1099511627776 by omega);simp only[tw,sw,QO,pcT,Tr.val,Tr.ob,da,km,kp,r2,hr,Ia (l:=l) (by omega),xb,q2];rw[aN];by_cases hk:x.Key=k
   .by_cases hh:x.At∈cc k l
    .exact⟨by simp[it,r1,hk,q1,Ib,hh],by simp[ka,hk,Ib,hh]⟩
    .exact⟨by simp[it,r1,hk,q1,Ib,hh,kk],by simp[ka,hk,Ib,hh]⟩
   .exact⟨by simp[it,r1,hk],by simp[ka,hk]⟩
  .have hf:cmp .lss (xs.length:Int) (ba .row xs)=false:=Na (t:=.row);simp only[tw,Tr.val,Tr.ob,da,hf];exact⟨by simp,rfl⟩
 have a2:(Do xs k).o=.x (cc k xs):=k2.v;have b2:(Do xs k).ob:=k2.t;obtain⟨j1,j2⟩:=bN (xs:=xs) (k:=k) hm [] xs (by simp)
 have k7:∀(S:List Time) (i:Nat),Ge xs k S->i<S.length->pg S i 0->∃q,Ea (λs:List Time×Int=>ww S (i:Int) s.1 s.2) (S,0) q /\
   ∃S',q=.x S'/\Ge xs k S'/\i<S'.length/\pg S' (i+1) 0/\∀t∈S,t∈S':=by
  intro S0 i hy ih ha;refine la.while (λs:List Time×Int=>∃j:Nat,s.2=(j:Int)/\j<=i/\Ge xs k s.1/\i<s.1.length/\pg s.1 i j/\∀t∈S0,t∈s.1) (λs=>i - s.2.toNat) (λs hs=>?_) _ _ rfl ⟨0,rfl,Nat.zero_le _,hy,ih,ha,λ_ h=>h⟩;obtain⟨S,_⟩:=s;obtain⟨j,rfl,hj,hI,hi,hJ,kr⟩:=hs;have hI:Ge xs k S:=hI;have hi:i<S.length:=hi;have hJ:pg S i j:=hJ;have kr:∀t∈S0,t∈S:=kr;have ki:=hI.len;by_cases hlt:j<i
  .have km:cmp .lss (j:Int) (i:Int)=true:=by rw[Yb];simpa using hlt
   have hc:ar .add .i64 (j:Int) 1=((j+1:Nat):Int):=by rw[Zb (by omega)];omega
   have ix:inb (i:Int) (ba .time S):=by unfold inb ba;omega
   have ie:inb (j:Int) (ba .time S):=by unfold inb ba;omega
   have h1:=hI.ok _ (cN hi);have h2:=hI.ok _ (cN (show j<S.length by omega));obtain⟨t1,t2⟩:=DM h1.1 h2.1;obtain⟨q1,q2⟩:=MF S (gb (rd .time S (i:Int)) (rd .time S (j:Int))) (by omega);have kn:=Oag h1.1 h2.1;have jb:=TS h1.2 h2.2;have kk:∀y,lim (ba .time S) (ba .time [y]):=λy=>yb (t:=.time) (show S.length<1099511627776 by omega);simp only[ww,vw,TO,pcT,Tr.val,Tr.ob,da,km,hc,t2,q2];by_cases hh:gb (rd .time S (i:Int)) (rd .time S (j:Int))∈S
   .refine⟨by simp[ix,ie,t1,q1,Ib,hh],.inl ⟨(S,((j+1:Nat):Int)),by simp[ka,Ib,hh],⟨j+1,rfl,by omega,hI,hi,⟨hJ.1,λq hq=>?_⟩,kr⟩,?_⟩⟩
    .by_cases e:q=j
     .rw[e];exact hh
     .exact hJ.2 q (by omega)
    .simp only[Int.toNat_natCast];omega
   .refine⟨by simp[ix,ie,t1,q1,Ib,hh,kk],.inl ⟨(S++[gb (rd .time S (i:Int)) (rd .time S (j:Int))],((j+1:Nat):Int)),by simp[ka,Ib,hh],⟨j+1,rfl,by omega,hI.snoc ⟨kn,jb⟩ hh,by simp;omega,?_,λt ht=>List.mem_append.2 (.inl (kr t ht))⟩,?_⟩⟩
    .have hz:=hJ.snoc hi (by omega) (gb (rd .time S (i:Int)) (rd .time S (j:Int)));refine⟨hz.1,λq hq=>?_⟩;by_cases e:q=j
     .rw[e,tk hi,tk (by omega)];simp
     .exact hz.2 q (by omega)
    .simp only[Int.toNat_natCast];omega
  .have km:cmp .lss (j:Int) (i:Int)=false:=by rw[Yb];simp;omega
   have ju:j=i:=by omega
   subst ju;simp only[ww,Tr.val,Tr.ob,km];refine⟨by simp,.inr ⟨_,rfl,S,rfl,hI,hi,⟨λp q hp hq=>?_,λq hq=>absurd hq (by omega)⟩,kr⟩⟩;by_cases e:p=j
   .rw[e]at hq⊢;exact hJ.2 q hq
   .exact hJ.1 p q (by omega) hq
 have k5:∃q,Ea (λs:List Time×Int=>yw (cc k xs) s.1 s.2) (cc k xs,0) q/\∃S',q=.x S'/\Ge xs k S'/\pg S' S'.length 0/\∀t∈cc k xs,t∈S':=by
  refine la.while (λs:List Time×Int=>∃i:Nat,s.2=(i:Int)/\i<=s.1.length/\Ge xs k s.1/\pg s.1 i 0/\∀t∈cc k xs,t∈s.1) (λs=>64 - s.2.toNat) (λs hs=>?_) _ _ rfl ⟨0,rfl,Nat.zero_le _,j1,⟨λp q hp=>by omega,λq hq=>by omega⟩,λ_ h=>h⟩;obtain⟨S,_⟩:=s;obtain⟨i,rfl,hi,hI,hJ,kr⟩:=hs;have hI:Ge xs k S:=hI;have hi:i<=S.length:=hi;have hJ:pg S i 0:=hJ;have kr:∀t∈cc k xs,t∈S:=kr;have ki:=hI.len;by_cases hlt:i<S.length
  .have km:cmp .lss (i:Int) (ba .time S)=true:=by rw[Yb];simp[ba];omega
   have hc:ar .add .i64 (i:Int) 1=((i+1:Nat):Int):=by rw[Zb (by omega)];omega
   obtain⟨q,h1,S',rfl,h2,h3,h4,h5⟩:=k7 S i hI hlt hJ;have a7:(Eo S (i:Int)).o=.x S':=h1.v;have b7:(Eo S (i:Int)).ob:=h1.t;simp only[yw,xw,VO,pcT,Tr.val,Tr.ob,km,hc,a7];refine⟨by simp[b7],.inl ⟨(S',((i+1:Nat):Int)),rfl,⟨i+1,rfl,h3,h2,h4,λt ht=>h5 t (kr t ht)⟩,?_⟩⟩;simp only[Int.toNat_natCast];omega
  .have km:cmp .lss (i:Int) (ba .time S)=false:=by rw[Yb];simp[ba];omega
   have io:i=S.length:=by omega
   subst io;simp only[yw,Tr.val,Tr.ob,km];exact⟨by simp,.inr ⟨_,rfl,S,rfl,hI,hJ,kr⟩⟩
 obtain⟨q,hq,S,rfl,hI,hJ,kr⟩:=k5;have a5:(Fo (cc k xs)).o=.x S:=hq.v;have b5:(Fo (cc k xs)).ob:=hq.t;have ki:=hI.len
 have he:∀s t,s∈S->t∈S->gb s t∈S:=λs t hs ht=>by
  obtain⟨p,hp,e1⟩:=List.getElem_of_mem hs;obtain⟨q,hq,e2⟩:=List.getElem_of_mem ht;have r1:rd .time S (p:Int)=s:=by unfold rd;simp only[Int.toNat_natCast];rw[List.getD_eq_getElem?_getD,List.getElem?_eq_getElem hp];exact e1
  have r2:rd .time S (q:Int)=t:=by unfold rd;simp only[Int.toNat_natCast];rw[List.getD_eq_getElem?_getD,List.getElem?_eq_getElem hq];exact e2
  rcases Nat.lt_trichotomy p q with h|h|h
  .have:=hJ.1 q p hq h;rw[r1,r2,kX]at this;exact this
  .subst h;rw[r1]at r2;rw[<-r2,lX];exact hs
  .have:=hJ.1 p q hp h;rw[r1,r2]at this;exact this
 have k12:∀(o:List Time) (x:Nat),x<8->o.length<=64->Ea (λs:List Time×Int=>Ho S o (x:Int) s.1 s.2) (o,0) (.x (o++rowP (Ib S) (x:Int) 8)):=by
  intro o x hx ho;have h0:o++rowP (Ib S) (x:Int) 0=o:=by simp[rowP]
  suffices key:Ea (λs:List Time×Int=>Ho S o (x:Int) s.1 s.2) (o++rowP (Ib S) (x:Int) 0,0) (.x (o++rowP (Ib S) (x:Int) 8)) by
   rw[h0]at key;exact key
  refine YM (λi=>o++rowP (Ib S) (x:Int) i) (λi hi=>?_) ?_
  .have kj:cmp .leq (i:Int) 7=true:=by rw[Ee];simp;omega
   have hc:ar .add .i64 (i:Int) 1=((i+1:Nat):Int):=by rw[Zb (by omega)];omega
   have kq:=VS (Ib S) (x:Int) i;have kk:∀y,lim (ba .time (o++rowP (Ib S) (x:Int) i)) (ba .time [y]):=λy=>yb (t:=.time) (show(o++rowP (Ib S) (x:Int) i).length<1099511627776 by rw[List.length_append];omega);obtain⟨q1,q2⟩:=MF S ⟨(x:Int),(i:Int)⟩ (by omega);simp only[Ho,Aw,YO,pcT,Tr.val,Tr.ob,da,kj,hc,q2];rw[Mag];cases Ib S ⟨(x:Int),(i:Int)⟩ with
   |true=>exact⟨by simp[q1];exact kk _,by simp[ka]⟩
   |false=>exact⟨by simp[q1],by simp[ka]⟩
  .have kj:cmp .leq ((8:Nat):Int) 7=false:=rfl;simp only[Ho,Tr.val,Tr.ob,kj];exact⟨by simp,rfl⟩
 have kx:Ea (λs:List Time×Int=>Cw S s.1 s.2) ([],0) (.x (yc (Ib S) 8)):=by
  refine YM (λi=>yc (Ib S) i) (λi hi=>?_) ?_
  .have kj:cmp .leq (i:Int) 7=true:=by rw[Ee];simp;omega
   have hc:ar .add .i64 (i:Int) 1=((i+1:Nat):Int):=by rw[Zb (by omega)];omega
   have ks:=vC (Ib S) i;have k:=k12 (yc (Ib S) i) i hi (by omega);have hu:(Io S (yc (Ib S) i) (i:Int)).o=.x (yc (Ib S) i++rowP (Ib S) (i:Int) 8):=k.v;have hw:(Io S (yc (Ib S) i) (i:Int)).ob:=k.t;simp only[Cw,Bw,aP,pcT,Tr.val,Tr.ob,kj,hc,hu];exact⟨by simp[hw],rfl⟩
  .have kj:cmp .leq ((8:Nat):Int) 7=false:=rfl;simp only[Cw,Tr.val,Tr.ob,kj];exact⟨by simp,rfl⟩
 have hn:(Jo S).o=.x (yc (Ib S) 8):=kx.v;have hv:(Jo S).ob:=kx.t
 have hg:yc (Ib S) 8=db xs k:=by
  unfold db;rw[if_pos hr];refine JI λa b _ _=>?_;rw[Bool.eq_iff_iff];constructor
  .intro h;exact(hI.ok _ (by simpa [Ib] using h)).2
  .intro h;have:=US (M:=λt=>t∈S) (λx hx hk=>kr _ (j2 x hx hk)) he h;simpa [Ib] using this
 simp only[Gw,Fw,Ew,uw,SO,zw,XO,Dw,cP,pcT,Tr.val,Tr.ob,a2,a5,hn,ocR];exact⟨by simp[b2,b5,hv,a5],hg⟩
theorem dN(k:Int)(l:List Row)(x:Row):va k (l++[x])=va k l++if x.Key=k then [x] else []:=by
 unfold va;rw[List.filter_append]
 congr 1
 by_cases h:x.Key=k<;>simp[h]
theorem Um(k:Int)(l:List Row):(va k l).length<=l.length:=List.length_filter_le _ _
theorem nX{a:List Row}(h:Gb a=true)(k:Int):Gb (va k a)=true:=by
 obtain⟨h1,h2⟩:=bb h;have:=Um k a;simp only[Gb,Bool.and_eq_true,decide_eq_true_eq,List.all_eq_true];exact⟨λx hx=>h2 x (List.mem_filter.1 hx).1,by omega⟩
theorem oX(xs:List Item)(hl:xs.length<1000000000):Am xs/\vt xs=gathI xs:=by
 refine⟨?_,rfl⟩;show lim _ 1;simp only[lim,ba];omega
section
variable {a:List Row} (hr:Gb a=true) {kind:Int} (hkind:1<=kind/\kind<=3)
include hr hkind
theorem pX(all:List Row){k:Nat}(hk:k<4){made:List Row}(hm:Cc k made)(hml:made.length<=6400){ts:List Time}{t:Time}{i n:Int}(hin:inb i (ba .time ts))(hrd:rd .time ts i=t) :
  (tB a kind all (k:Int) (va k a) made ts n i).ob/\(tB a kind all (k:Int) (va k a) made ts n i).val=.n (Kf kind k (va k a) made t):=by
 obtain⟨hl,ha⟩:=bb hr;have ho:=aj (k:=(k:Int)) ha;have hw:=Um (k:Int) a;obtain⟨p1,p2⟩:=AM (va k a) t (by omega);obtain⟨m1,m2⟩:=AM made t (by omega);have hz:=ho.presLen t;have hv:=hm.presLen t;have hy:=ho.pres t;obtain⟨g1,g2⟩:=cX (s:=Od (va k a) t) (by omega) (EX _) (λx hx=>by rw[(hy x hx).1];omega) hkind;rw[fX hk λx hx=>(hy x hx).1]at g2;generalize hU:Od made t=U at m2 hv;generalize hG:ab kind k (Od (va k a) t)=D at g2;have hp:D.length<=101:=by rw[<-hG];have:=vM kind k (Od (va k a) t);omega
 have hc:Ea (λs:LI×Int=>qB a kind all (k:Int) (va k a) made t D ts n i U (ba .item U) s.1 s.2) (D,0) (.x (D++U.map Kb)):=by
  refine la.fold U (λi b=>(b,(i:Int))) (λl=>D++l.map Kb) (by simp) (λl x r hx=>?_) ?_
  .obtain⟨hlen,hrd,hin,hu⟩:=Qa (t:=.item) hx;have ht:∀y,lim (ba .item (D++l.map Kb)) (ba .item [y]):=λy=>yb (t:=.item) (show(D++l.map Kb).length<1099511627776 by rw[List.length_append,List.length_map];omega);simp only[qB,Tr.val,Tr.ob,da,hu,hrd,Ia (l:=l) (by omega)];exact⟨by simp[hin];exact ht _,by simp[ka,Kb]⟩
  .have hs:cmp .lss (U.length:Int) (ba .item U)=false:=Na (t:=.item);simp only[qB,Tr.val,Tr.ob,da,hs];exact⟨by simp,rfl⟩
 have hh:(Oq a kind all (k:Int) (va k a) made t D ts n i U (ba .item U)).o=.x (D++U.map Kb):=hc.v;have hj:(Oq a kind all (k:Int) (va k a) made t D ts n i U (ba .item U)).ob:=hc.t;have hq:Zi kind k (va k a) made t=gathI (D++U.map Kb):=by unfold Zi;rw[hU,hG]
 obtain⟨d1,d2⟩:=DF (kind:=kind) (t:=t) ho hm;rw[hq]at d1 d2;obtain⟨q1,q2⟩:=oX (D++U.map Kb) (by rw[List.length_append,List.length_map];omega);generalize hE:gathI (D++U.map Kb)=E at q2 d1 d2 hq
 have k12:Ea (λs:LR×Int=>sB a kind all (k:Int) (va k a) made t ts n i E (ba .item E) s.1 s.2) (made,0) (.x (made++E.map (rowT t))):=by
  refine la.fold E (λi b=>(b,(i:Int))) (λl=>made++l.map (rowT t)) (by simp) (λl x r hx=>?_) ?_
  .obtain⟨hlen,hrd,hin,hu⟩:=Qa (t:=.item) hx;have ht:∀y,lim (ba .row (made++l.map (rowT t))) (ba .row [y]):=λy=>yb (t:=.row) (show(made++l.map (rowT t)).length<1099511627776 by rw[List.length_append,List.length_map];omega);simp only[sB,Tr.val,Tr.ob,da,hu,hrd,Ia (l:=l) (by omega)];exact⟨by simp[hin];exact ht _,by simp[ka,rowT]⟩
  .have hs:cmp .lss (E.length:Int) (ba .item E)=false:=Na (t:=.item);simp only[sB,Tr.val,Tr.ob,da,hs];exact⟨by simp,rfl⟩
 have hi:(Pq a kind all (k:Int) (va k a) made t ts n i E (ba .item E)).o=.x (made++E.map (rowT t)):=k12.v;have hn:(Pq a kind all (k:Int) (va k a) made t ts n i E (ba .item E)).ob:=k12.t;simp only[tB,rB,BR,pcT,Tr.val,Tr.ob,da,hrd,p2,m2,g2,hh,q2,hi];refine⟨by simp[hin,p1,m1,g1,hj,q1,q2,hn],?_⟩;unfold Kf;rw[hq]
theorem qX:CB a kind/\BB a kind=Mf (Ka (cf kind a)):=by
 obtain⟨hl,hy⟩:=bb hr
 have k5:∀(all:List Row) (k:Int),Ea (λs:LR×Int=>oB a kind all k (ba .row a) s.1 s.2) ([],0) (.x (va k a)):=λall k=>by
  refine la.fold a (λi b=>(b,(i:Int))) (λl=>va k l) rfl (λl x r hx=>?_) ?_
  .obtain⟨hlen,hw,hm,hq⟩:=Qa (t:=.row) hx;have hv:=Um k l;have ho:∀y,lim (ba .row (va k l)) (ba .row [y]):=λy=>yb (t:=.row) (show(va k l).length<1099511627776 by omega);simp only[oB,nB,xR,pcT,Tr.val,Tr.ob,da,hq,hw,Ia (l:=l) (by omega),xb];rw[dN];by_cases h:x.Key=k
   .exact⟨by simp[hm,h,ho],by simp[ka,h]⟩
   .exact⟨by simp[hm,h],by simp[ka,h]⟩
  .have hj:cmp .lss (a.length:Int) (ba .row a)=false:=Na (t:=.row);simp only[oB,Tr.val,Tr.ob,hj];exact⟨by simp,rfl⟩
 have a5:∀all k,(Nq a kind all k (ba .row a)).o=.x (va k a):=λall k=>(k5 all k).v;have b5:∀all k,(Nq a kind all k (ba .row a)).ob:=λall k=>(k5 all k).t
 have k8:∀(all:List Row) (k:Nat),k<4->la (λs:LR×Int=>ka (Qq a kind all (k:Int) (va k a) (db a k) (ba .time (db a k)) s.1 s.2).val)
   (λs=>(Qq a kind all (k:Int) (va k a) (db a k) (ba .time (db a k)) s.1 s.2).ob) ([],0) (.x (Hb kind k (va k a) (db a k))):=λall k hk=>by
  obtain⟨ha,hz⟩:=Nm (a:=a) (k:=(k:Int));generalize hT:db a (k:Int)=ts at ha hz;refine la.fold ts (λi b=>(b,(i:Int))) (λl=>Hb kind k (va k a) l) rfl (λl t r hx=>?_) ?_
  .obtain⟨hlen,hw,hm,hq⟩:=Qa (t:=.time) hx;obtain⟨m1,m2⟩:=Mm (kind:=kind) (aj (k:=(k:Int)) hy) l λt ht=>ha t (by rw[hx];simp[ht]);obtain⟨s1,s2⟩:=pX hr hkind all hk m1 (by omega) (n:=ba .time ts) hm hw;simp only[Qq,uB,pcT,Tr.val,Tr.ob,hq,Ia (l:=l) (by omega),s2];rw[wM];exact⟨by simp[s1],rfl⟩
  .have hj:cmp .lss (ts.length:Int) (ba .time ts)=false:=Na (t:=.time);simp only[Qq,Tr.val,Tr.ob,hj];exact⟨by simp,rfl⟩
 have hs:∀k:Nat,(Hb kind k (va k a) (db a k)).length<=6400:=λk=>by
  obtain⟨ha,hz⟩:=Nm (a:=a) (k:=(k:Int));have:=(Mm (kind:=kind) (aj (k:=(k:Int)) hy) _ ha).2;omega
 have hlen:∀i:Nat,((List.range i).flatMap λk:Nat=>Hb kind k (va k a) (db a k)).length<=6400*i:=λi=>by
  induction i with
  |zero=>simp
  |succ i ih=>
   rw[List.range_succ,List.flatMap_append,List.length_append,List.flatMap_singleton];have:=hs i;omega
 have k2:Ea (λs:LR×Int=>yB a kind s.1 s.2) ([],0) (.x (cf kind a)):=by
  refine LF (λi=>(List.range i).flatMap λk:Nat=>Hb kind k (va k a) (db a k)) (λi hi=>?_) ?_
  .have hq:cmp .lss (i:Int) 4=true:=by rw[Yb];simp;omega
   have hh:ar .add .i64 (i:Int) 1=((i+1:Nat):Int):=by rw[Zb (by omega)];omega
   have hn:=hlen i;have hu:=hs i;have ho:lim (ba .row ((List.range i).flatMap λk:Nat=>Hb kind k (va k a) (db a k))) (ba .row (Hb kind i (va i a) (db a i))):=lF (t:=.row) (by omega);have hp:II a (i:Int):=show a.length<=1000000 by omega
   have k:=k8 ((List.range i).flatMap λk:Nat=>Hb kind k (va k a) (db a k)) i hi;generalize hall:((List.range i).flatMap λk:Nat=>Hb kind k (va k a) (db a k))=all at k ho;have a8:(Rq a kind all (i:Int) (va i a) (db a i) (ba .time (db a i))).o=.x (Hb kind i (va i a) (db a i)):=k.v;have b8:(Rq a kind all (i:Int) (va i a) (db a i) (ba .time (db a i))).ob:=k.t
   have e3:(wB a kind all (i:Int)).ob/\(wB a kind all (i:Int)).val=.n (all++Hb kind i (va i a) (db a i)):=by
    simp only[wB,pB,zR,vB,ER,pcT,Tr.val,Tr.ob,da,a5,a8];exact⟨by simp[b5,a8,b8,hp,ho],trivial⟩
   simp only[yB,xB,pcT,Tr.val,Tr.ob,hq,hh,e3.2];rw[List.range_succ,List.flatMap_append,List.flatMap_singleton,hall];exact⟨by simp[e3.1],rfl⟩
  .have hj:cmp .lss ((4:Nat):Int) 4=false:=rfl;simp only[yB,Tr.val,Tr.ob,hj];exact⟨by simp,rfl⟩
 have a2:(Sq a kind).o=.x (cf kind a):=k2.v;have b2:(Sq a kind).ob:=k2.t;obtain⟨s1,s2⟩:=EF (kind:=kind) hy;obtain⟨q1,q2⟩:=Qm (xs:=cf kind a) (by omega) λx hx=>(s1 x hx).1;simp only[CB,BB,AB,zB,GR,pcT,Tr.val,Tr.ob,da,a2,q2,ocR];exact⟨by simp[b2,q1],by unfold Mf;split<;>rfl⟩
theorem rX{k:Nat}(_hk:k<4){made:List Row}(hm:Cc k made)(hml:made.length<=6400){ts:List Time}{t:Time}(ht:za t=true){i:Int}(hin:inb i (ba .time ts))(hrd:rd .time ts i=t) :
  (ux (k:Int) kind (va k a) made ts i).ob/\(ux (k:Int) kind (va k a) made ts i).val=.n (Kf kind k (va k a) made t):=by
 obtain⟨hl,hc⟩:=bb hr;have ho:=aj (k:=(k:Int)) hc;have hw:=Um (k:Int) a;obtain⟨p1,p2⟩:=zW (va k a) t (by omega);rw[if_pos ⟨nX hr k,ht⟩]at p2;have ha:=ho.presLen t;have hz:=ho.pres t;obtain⟨g1,g2⟩:=iX (s:=Od (va k a) t) (by omega) (key:=(k:Int)) hkind;rw[WM λx hx=>(hz x hx).1]at g2;generalize hG:ab kind k (Od (va k a) t)=D at g2;have hj:D.length<=101:=by rw[<-hG];have:=vM kind k (Od (va k a) t);omega
 have hp:∀l:List Row,(Za l t).length<=l.length:=λl=>by unfold Za;rw[List.length_map];exact List.length_filter_le _ _
 have k8:Ea (λs:LI×Int=>qx (k:Int) kind (va k a) made ts i t D s.1 s.2) (D,0) (.x (D++(Za made t).map Kb)):=by
  refine la.fold made (λi b=>(b,(i:Int))) (λl=>D++(Za l t).map Kb) (by simp[Za]) (λl x r hx=>?_) ?_
  .obtain⟨hlen,hrd,hin,hv⟩:=Qa (t:=.row) hx;have hf:=hm x (by rw[hx];simp);have hs:=hp l;have hu:∀y,lim (ba .item (D++(Za l t).map Kb)) (ba .item [y]):=λy=>yb (t:=.item) (show(D++(Za l t).map Kb).length<1099511627776 by rw[List.length_append,List.length_map];omega);simp only[qx,nx,tP,pcT,Tr.val,Tr.ob,da,hv,hrd,Ia (l:=l) (by omega),GF,hf.2.2.2.2,ht,Bool.true_and];rw[qF];have e1:Za [x] t=if Rc x.At t=true then [rIt x] else []:=by rw[FX,GX,List.append_nil]
   rw[e1];cases hb:Rc x.At t with
   |true=>exact⟨by simp[hin,nk];exact hu _,by simp[ka,Kb,rIt,hf.1]⟩
   |false=>exact⟨by simp[hin,nk],by simp[ka]⟩
  .have hn:cmp .lss (made.length:Int) (ba .row made)=false:=Na (t:=.row);simp only[qx,Tr.val,Tr.ob,hn];exact⟨by simp,rfl⟩
 have a8:(To (k:Int) kind (va k a) made ts i t D).o=.x (D++(Za made t).map Kb):=k8.v;have b8:(To (k:Int) kind (va k a) made ts i t D).ob:=k8.t;have hk:Zi kind k (va k a) made t=gathI (D++(Za made t).map Kb):=by rw[vW hm,hG]
 obtain⟨d1,d2⟩:=DF (kind:=kind) (t:=t) ho hm;rw[hk]at d1 d2;have hq:=hp made
 obtain⟨q1,q2⟩:=mM (D++(Za made t).map Kb) (by rw[List.length_append,List.length_map];omega) (λx hx=>by
  rcases List.mem_append.1 hx with hx|hx
  .rw[<-hG]at hx;rw[(uM (λy hy=>⟨(hz y hy).2.1,(hz y hy).2.2.1⟩) hx).2.2.2];unfold InR;omega
  .obtain⟨y,_,rfl⟩:=List.mem_map.1 hx;exact pM y)
 generalize hE:gathI (D++(Za made t).map Kb)=E at q2 d1 d2 hk
 have hg:Ea (λs:LR×Int=>tx (k:Int) kind (va k a) made ts i t E s.1 s.2) (made,0) (.x (made++E.map (rowT t))):=by
  refine la.fold E (λi b=>(b,(i:Int))) (λl=>made++l.map (rowT t)) (by simp) (λl x r hx=>?_) ?_
  .obtain⟨hlen,hrd,hin,hv⟩:=Qa (t:=.item) hx;have he:=(d1 x (by rw[hx];simp)).1;have hu:∀y,lim (ba .row (made++l.map (rowT t))) (ba .row [y]):=λy=>yb (t:=.row) (show(made++l.map (rowT t)).length<1099511627776 by rw[List.length_append,List.length_map];omega);simp only[tx,Tr.val,Tr.ob,da,hv,hrd,Ia (l:=l) (by omega)];exact⟨by simp[hin];exact hu _,by simp[ka,rowT,he]⟩
  .have hn:cmp .lss (E.length:Int) (ba .item E)=false:=Na (t:=.item);simp only[tx,Tr.val,Tr.ob,da,hn];exact⟨by simp,rfl⟩
 have hh:(Uo (k:Int) kind (va k a) made ts i t E).o=.x (made++E.map (rowT t)):=hg.v;have hi:(Uo (k:Int) kind (va k a) made ts i t E).ob:=hg.t;simp only[ux,rx,vP,pcT,Tr.val,Tr.ob,da,hrd,p2,g2,a8,q2,hh];refine⟨by simp[hin,p1,g1,b8,q1,q2,hi],?_⟩;unfold Kf;rw[hk]
theorem sX{k:Nat}(hk:k<4):Cx a (k:Int) kind/\Bx a (k:Int) kind=Hb kind k (va k a) (db a k):=by
 obtain⟨hl,hp⟩:=bb hr
 have k2:Ea (λs:LR×Int=>fx a (k:Int) kind s.1 s.2) ([],0) (.x (va k a)):=by
  refine la.fold a (λi b=>(b,(i:Int))) (λl=>va k l) rfl (λl x r hx=>?_) ?_
  .obtain⟨hlen,ho,hi,hm⟩:=Qa (t:=.row) hx;have hn:=Um (k:Int) l;have hj:∀y,lim (ba .row (va k l)) (ba .row [y]):=λy=>yb (t:=.row) (show(va k l).length<1099511627776 by omega);simp only[fx,dx,qP,pcT,Tr.val,Tr.ob,da,hm,ho,Ia (l:=l) (by omega),xb];rw[dN];by_cases h:x.Key=k
   .exact⟨by simp[hi,h,hj],by simp[ka,h]⟩
   .exact⟨by simp[hi,h],by simp[ka,h]⟩
  .have hh:cmp .lss (a.length:Int) (ba .row a)=false:=Na (t:=.row);simp only[fx,Tr.val,Tr.ob,hh];exact⟨by simp,rfl⟩
 have a2:(So a (k:Int) kind).o=.x (va k a):=k2.v;have b2:(So a (k:Int) kind).ob:=k2.t;obtain⟨f1,f2⟩:=mX hr (k:Int);obtain⟨hs,hq⟩:=Nm (a:=a) (k:=(k:Int));generalize hT:db a (k:Int)=ts at hs hq f2
 have k5:Ea (λs:LR×Int=>yx (k:Int) kind (va k a) ts s.1 s.2) ([],0) (.x (Hb kind k (va k a) ts)):=by
  refine la.fold ts (λi b=>(b,(i:Int))) (λl=>Hb kind k (va k a) l) rfl (λl t r hx=>?_) ?_
  .obtain⟨hlen,ho,hi,hm⟩:=Qa (t:=.time) hx;obtain⟨m1,m2⟩:=Mm (kind:=kind) (aj (k:=(k:Int)) hp) l λt ht=>hs t (by rw[hx];simp[ht]);obtain⟨s1,s2⟩:=rX hr hkind hk m1 (by omega) (hs t (by rw[hx];simp)) hi ho;simp only[yx,vx,pcT,Tr.val,Tr.ob,hm,Ia (l:=l) (by omega),s2];rw[wM];exact⟨by simp[s1],rfl⟩
  .have hh:cmp .lss (ts.length:Int) (ba .time ts)=false:=Na (t:=.time);simp only[yx,Tr.val,Tr.ob,hh];exact⟨by simp,rfl⟩
 have a5:(Vo (k:Int) kind (va k a) ts).o=.x (Hb kind k (va k a) ts):=k5.v;have b5:(Vo (k:Int) kind (va k a) ts).ob:=k5.t;simp only[Cx,Bx,Ax,jx,sP,zx,yP,pcT,Tr.val,Tr.ob,da,a2,f2,a5,ocR];exact⟨by simp[b2,f1,b5],trivial⟩
theorem tX:Jx a kind/\Ix a kind=Ka (cf kind a):=by
 obtain⟨hl,hq⟩:=bb hr
 have ho:∀k:Nat,(Hb kind k (va k a) (db a k)).length<=6400:=λk=>by
  obtain⟨ht,hs⟩:=Nm (a:=a) (k:=(k:Int));have:=(Mm (kind:=kind) (aj (k:=(k:Int)) hq) _ ht).2;omega
 have hlen:∀i:Nat,((List.range i).flatMap λk:Nat=>Hb kind k (va k a) (db a k)).length<=6400*i:=λi=>by
  induction i with
  |zero=>simp
  |succ i ih=>
   rw[List.range_succ,List.flatMap_append,List.length_append,List.flatMap_singleton];have:=ho i;omega
 have k2:Ea (λs:LR×Int=>Ex a kind s.1 s.2) ([],0) (.x (cf kind a)):=by
  refine LF (λi=>(List.range i).flatMap λk:Nat=>Hb kind k (va k a) (db a k)) (λi hi=>?_) ?_
  .have hn:cmp .lss (i:Int) 4=true:=by rw[Yb];simp;omega
   have hh:ar .add .i64 (i:Int) 1=((i+1:Nat):Int):=by rw[Zb (by omega)];omega
   have hk:=hlen i;have hp:=ho i;have hm:lim (ba .row ((List.range i).flatMap λk:Nat=>Hb kind k (va k a) (db a k))) (ba .row (Hb kind i (va i a) (db a i))):=lF (t:=.row) (by omega);obtain⟨e1,e2⟩:=sX hr hkind hi;simp only[Ex,Tr.val,Tr.ob,da,hn,hh,e2];rw[List.range_succ,List.flatMap_append,List.flatMap_singleton];exact⟨by simp[e1,hm],rfl⟩
  .have hj:cmp .lss ((4:Nat):Int) 4=false:=rfl;simp only[Ex,Tr.val,Tr.ob,hj];exact⟨by simp,rfl⟩
 have a2:(Yo a kind).o=.x (cf kind a):=k2.v;have b2:(Yo a kind).ob:=k2.t;obtain⟨s1,s2⟩:=EF (kind:=kind) hq;obtain⟨q1,q2⟩:=Mg (cf kind a) (by omega) λx hx=>(s1 x hx).1;simp only[Jx,Ix,Hx,Gx,AP,pcT,Tr.val,Tr.ob,da,a2,q2,ocR];exact⟨by simp[b2,q1],trivial⟩
end
end
theorem od(p:Plan):Plan.mk p.Kind p.Num p.Kids=p:=by cases p;rfl
def kd(k:Int):Int×Int×Int:=if k=1 then(0,0,1) else if k=2 then(1,1,7) else if k=3\/k=5 then(2,0,0) else if k=4 then(1,0,0) else if k=6 then(1,1,3) else(-1,0,0)
theorem Jt(k:Int):k=1\/k=2\/k=3\/k=4\/k=5\/k=6\/(k≠1/\k≠2/\k≠3/\k≠4/\k≠5/\k≠6):=by omega
theorem mN(k:Int):xz k/\ei k=((kd k).1,(kd k).2.1,(kd k).2.2,()):=by
 simp only[xz,ei,wz,uz,uQ,tz,tQ,pcT,Tr.val,Tr.ob,xb];rcases Jt k with rfl|rfl|rfl|rfl|rfl|rfl|⟨h1,h2,h3,h4,h5,h6⟩
 .exact⟨by simp,rfl⟩
 .exact⟨by simp,rfl⟩
 .exact⟨by simp,rfl⟩
 .exact⟨by simp,rfl⟩
 .exact⟨by simp,rfl⟩
 .exact⟨by simp,rfl⟩
 .simp[h1,h2,h3,h4,h5,h6,kd,ocR]
theorem nN(k:Int):Tt k/\ej k=((kd k).1,(kd k).2.1,(kd k).2.2,()):=by
 simp only[Tt,ej,St,Rt,xN,Qt,wN,pcT,Tr.val,Tr.ob,xb];rcases Jt k with rfl|rfl|rfl|rfl|rfl|rfl|⟨h1,h2,h3,h4,h5,h6⟩
 .exact⟨by simp,rfl⟩
 .exact⟨by simp,rfl⟩
 .exact⟨by simp,rfl⟩
 .exact⟨by simp,rfl⟩
 .exact⟨by simp,rfl⟩
 .exact⟨by simp,rfl⟩
 .simp[h1,h2,h3,h4,h5,h6,kd,ocR]
def Rd(p:Plan):Bool:=decide ((p.Kids.length:Int)=(kd p.Kind).1/\(kd p.Kind).2.1<=p.Num/\p.Num<=(kd p.Kind).2.2)
def okM:Nat->Plan->Bool
 |0,_=>false
 |d+1,p=>Rd p&&p.Kids.all (okM d)
theorem yX(k:Int):(kd k).1<=2:=by
 unfold kd;repeat' split
 all_goals simp
theorem SF{p:Plan}(h:Rd p=true):p.Kids.length<=2:=by
 simp only[Rd,decide_eq_true_eq]at h;have:=yX p.Kind;omega
theorem zX:∀(d n:Nat),d<n->d<=1000->∀p:Plan,(cd n).2 p d/\(cd n).1 p d=okM d p:=by
 intro d
 induction d with
 |zero=>
  intro n hn _ p;obtain⟨m,rfl⟩ : ∃m,n=m+1:=⟨n - 1,by omega⟩;obtain⟨k1,k2⟩:=mN p.Kind;have hl:cmp .lss ((0:Nat):Int) 1=true:=rfl;simp only[cd,fi,Tr.val,Tr.ob,da,hl,cond_true,ocR];exact⟨by simp[k1],rfl⟩
 |succ d ih=>
  intro n hn hd p;obtain⟨m,rfl⟩ : ∃m,n=m+1:=⟨n - 1,by omega⟩;obtain⟨k1,k2⟩:=mN p.Kind;generalize hD:((d+1:Nat):Int)=D;have hl:cmp .lss D 1=false:=by rw[Yb];simp;omega
  have ho:ar .sub .i64 D 1=(d:Int):=by rw[bf (by omega)];omega
  have hc:cond (cond (cond (cond (cmp .lss D 1) true (cmp .lss (ei p.Kind).1 0)) true (cmp .neq (ba .plan p.Kids) (ei p.Kind).1)) true (cmp .lss p.Num (ei p.Kind).2.1)) true (cmp .gtr p.Num (ei p.Kind).2.2.1)=!Rd p:=by
   rw[hl,k2];simp only[Yb,De,tc,Rd,ba];rw[Bool.eq_iff_iff];simp;omega
  by_cases hh:Rd p=true
  .have hlen:=SF hh
   have k:Ea (λs:Int=>Bz (cd m).1 (cd m).2 D p.Kids (ba .plan p.Kids) s) 0 (if ub (λ_ x=>!okM d x) none p.Kids=true then .x () else .r false):=by
    refine la.scan p.Kids _ (λl x r hx=>?_) ?_
    .obtain⟨hlen2,hm,hj,hk⟩:=Qa (t:=.plan) hx;obtain⟨i1,i2⟩:=ih m (by omega) (by omega) x;simp only[Bz,Tr.val,Tr.ob,da,hk,hm,od,ho,i2,Ia (l:=l) (by omega)];refine⟨by simp[hj,i1],?_⟩;cases okM d x<;>rfl
    .have hi:cmp .lss (p.Kids.length:Int) (ba .plan p.Kids)=false:=Na (t:=.plan);simp only[Bz,Tr.val,Tr.ob,da,hi];exact⟨by simp,rfl⟩
   have a2:(bq (cd m).1 (cd m).2 D p.Kids (ba .plan p.Kids)).o=_:=k.v;have b2:(bq (cd m).1 (cd m).2 D p.Kids (ba .plan p.Kids)).ob:=k.t;rw[Og]at a2;simp only[cd,fi,Cz,wQ,pcT,Tr.val,Tr.ob,da,hc,hh,Bool.not_true,a2,okM];refine⟨by simp[k1,b2],?_⟩;cases p.Kids.all (okM d)<;>rfl
  .have hh:Rd p=false:=by simpa using hh
   simp only[cd,fi,Tr.val,Tr.ob,da,hc,hh,Bool.not_false,ocR,okM,Bool.false_and];exact⟨by simp[k1],trivial⟩
theorem AX:∀(d n:Nat),d<n->d<=1000->∀p:Plan,(Xc n).2 p d/\(Xc n).1 p d=okM d p:=by
 intro d
 induction d with
 |zero=>
  intro n hn _ p;obtain⟨m,rfl⟩ : ∃m,n=m+1:=⟨n - 1,by omega⟩;obtain⟨k1,k2⟩:=nN p.Kind;have hl:cmp .lss ((0:Nat):Int) 1=true:=rfl;simp only[Xc,Ih,Tr.val,Tr.ob,da,hl,cond_true,ocR];exact⟨by simp[k1],rfl⟩
 |succ d ih=>
  intro n hn hd p;obtain⟨m,rfl⟩ : ∃m,n=m+1:=⟨n - 1,by omega⟩;obtain⟨k1,k2⟩:=nN p.Kind;generalize hD:((d+1:Nat):Int)=D;have hl:cmp .lss D 1=false:=by rw[Yb];simp;omega
  have hp:ar .sub .i64 D 1=(d:Int):=by rw[bf (by omega)];omega
  have hk:∀a b c,rg a b c/\xd a b c=decide (b<=a/\a<=c):=λa b c=>by
   refine⟨trivial,?_⟩;show cond (cmp .geq a b) (cmp .leq a c) false=_;rw[Kg,Ee,Bool.eq_iff_iff];simp
  have hc:cond (cond (cmp .lss D 1) true (cmp .neq (ba .plan p.Kids) (ej p.Kind).1)) true (!(xd p.Num (ej p.Kind).2.1 (ej p.Kind).2.2.1))=!Rd p:=by
   rw[hl,k2,(hk _ _ _).2];simp only[De,Rd,ba];rw[Bool.eq_iff_iff];simp
  by_cases hh:Rd p=true
  .have hlen:=SF hh
   have k:Ea (λs:Int=>Wt (Xc m).1 (Xc m).2 D p.Kind p.Num p.Kids s) 0 (if ub (λ_ x=>!okM d x) none p.Kids=true then .x () else .r false):=by
    refine la.scan p.Kids _ (λl x r hx=>?_) ?_
    .obtain⟨hlen2,ho,hj,hm⟩:=Qa (t:=.plan) hx;obtain⟨i1,i2⟩:=ih m (by omega) (by omega) x;simp only[Wt,Tr.val,Tr.ob,da,hm,ho,od,hp,i2,Ia (l:=l) (by omega)];refine⟨by simp[hj,i1],?_⟩;cases okM d x<;>rfl
    .have hi:cmp .lss (p.Kids.length:Int) (ba .plan p.Kids)=false:=Na (t:=.plan);simp only[Wt,Tr.val,Tr.ob,da,hi];exact⟨by simp,rfl⟩
   have a2:(Zm (Xc m).1 (Xc m).2 D p.Kind p.Num p.Kids).o=_:=k.v;have b2:(Zm (Xc m).1 (Xc m).2 D p.Kind p.Num p.Kids).ob:=k.t;rw[Og]at a2;simp only[Xc,Ih,Xt,AN,pcT,Tr.val,Tr.ob,da,hc,hh,Bool.not_true,a2,okM];refine⟨by simp[k1,b2,(hk _ _ _).1],?_⟩;cases p.Kids.all (okM d)<;>rfl
  .have hh:Rd p=false:=by simpa using hh
   simp only[Xc,Ih,Tr.val,Tr.ob,da,hc,hh,Bool.not_false,ocR,okM,Bool.false_and];exact⟨by simp[k1,(hk _ _ _).1],trivial⟩
theorem UF{d:Nat}{p:Plan}(h:okM (d+1) p=true):p.Kids.length<=2/\∀x∈p.Kids,okM d x=true:=by
 simp only[okM,Bool.and_eq_true,List.all_eq_true]at h;exact⟨SF h.1,h.2⟩
theorem BX(p:Plan):Gz p/\Ez p=okM 4 p:=by
 obtain⟨h1,h2⟩:=zX 4 gc (by decide) (by decide) p;simp only[Gz,Ez,Dz,Tr.val,Tr.ob,da,od,ocR];exact⟨⟨⟨h1,trivial⟩,trivial⟩,h2⟩
theorem oN(p:Plan):cn p/\bn p=okM 4 p:=by
 obtain⟨h1,h2⟩:=AX 4 gc (by decide) (by decide) p;simp only[cn,bn,Yt,Tr.val,Tr.ob,da,od,ocR];exact⟨⟨⟨h1,trivial⟩,trivial⟩,h2⟩
section
open Go Tg
def uc:Option (List Row)->List Row×Bool×Unit
 |some x=>(x,true,())
 |none=>([],false,())
def qg(o:Option (List (List Row))):Oc Empty (List Row×Bool×Unit) (List (List Row)) Empty Empty:=match o with
 |some ks=>.x ks
 |none=>.r ([],false,())
theorem rd0(ks:List (List Row)):rd .lrow ks 0=ks.getD 0 []:=rfl
theorem rd1(ks:List (List Row)):rd .lrow ks 1=ks.getD 1 []:=rfl
theorem uX(x:List Row):Mf x=uc (if Ca x=true then some x else none):=by
 unfold Mf;split<;>rfl
theorem uk{ks:List (List Row)}(h:∀x∈ks,Ca x=true)(n:Nat):Ca (ks.getD n [])=true:=by
 rw[List.getD_eq_getElem?_getD];cases hx:ks[n]? with
 |none=>rfl
 |some x=>exact h x (List.mem_of_getElem? hx)
theorem eN(num:Int)(ks ins:List (List Row)):opR 1 num ks ins=ins.getD num.toNat []:=rfl
theorem fN(num:Int)(ks ins:List (List Row)):opR 2 num ks ins=Ka (Bc num (ks.getD 0 [])):=rfl
theorem gN(num:Int)(ks ins:List (List Row)):opR 3 num ks ins=Ka (ks.getD 0 []++ks.getD 1 []):=rfl
theorem iN(num:Int)(ks ins:List (List Row)):opR 4 num ks ins=Ka (Va (ks.getD 0 [])):=rfl
theorem jN(num:Int)(ks ins:List (List Row)):opR 5 num ks ins=Ka (jc (ks.getD 0 []) (ks.getD 1 [])):=rfl
theorem kN(num:Int)(ks ins:List (List Row)):opR 6 num ks ins=Ka (cf num (ks.getD 0 [])):=rfl
theorem Qd{ks:List (List Row)}{i:Int}(h0:0<=i)(h:i<ks.length):inb i (ba .lrow ks):=by unfold inb ba;omega
theorem vX{ins:List (List Row)}(hlen:ins.length=2)(hins:∀a∈ins,Ca a=true):∀(d n:Nat),d<=n->∀p:Plan,okM d p=true->(Ed n).2 p ins/\(Ed n).1 p ins=uc (Sb d ins p):=by
 intro d
 induction d with
 |zero=>intro n _ p h;cases h
 |succ d ih=>
  intro n hn p hp;obtain⟨m,rfl⟩ : ∃m,n=m+1:=⟨n - 1,by omega⟩;obtain⟨hu,hk⟩:=UF hp
  have k:∃q,Ea (λs:List LR×Int=>GB (Ed m).1 (Ed m).2 ins p.Kind p.Num p.Kids (ba .plan p.Kids) s.1 s.2) ([],0) q/\q=qg (Rb (Sb d ins) p.Kids):=by
   refine la.list p.Kids (λi b=>(b,(i:Int))) (λl b=>Rb (Sb d ins) l=some b) (b0:=[]) rfl rfl (λl x r b hx hI=>?_) (λb hI=>?_)
   .obtain⟨hlen2,it,hr,hc⟩:=Qa (t:=.plan) hx;have hj:=Lm hI;obtain⟨i1,i2⟩:=ih m (by omega) x (hk x (by rw[hx];simp));have ha:∀y,lim (ba .lrow b) (ba .lrow [y]):=λy=>yb (t:=.lrow) (show b.length<1099511627776 by omega);have hh:=Km (Sb d ins) l (x::r);have hi:=Km (Sb d ins) l [x];simp only[GB,Tr.val,Tr.ob,da,hc,it,od,i2,Ia (l:=l) (by omega)];rw[hI]at hh hi;cases hf:Sb d ins x with
    |none=>
     simp only[Rb,hf]at hh;exact⟨by simp[-List.getD_eq_getElem?_getD,hr,i1,uc],.inr ⟨_,by simp[ka,uc];rfl,by rw[hx,hh];rfl⟩⟩
    |some y=>
     simp only[Rb,hf]at hi;exact⟨by simp[-List.getD_eq_getElem?_getD,hr,i1,uc,ha],.inl ⟨b++[y],by simp[ka,uc],hi⟩⟩
   .have hl:cmp .lss (p.Kids.length:Int) (ba .plan p.Kids)=false:=Na (t:=.plan);simp only[GB,Tr.val,Tr.ob,da,hl];exact⟨by simp,_,rfl,by rw[hI];rfl⟩
  obtain⟨q,kq,rfl⟩:=k;have a2:(Uq (Ed m).1 (Ed m).2 ins p.Kind p.Num p.Kids (ba .plan p.Kids)).o=qg (Rb (Sb d ins) p.Kids):=kq.v;have b2:(Uq (Ed m).1 (Ed m).2 ins p.Kind p.Num p.Kids (ba .plan p.Kids)).ob:=kq.t;have ix:Rd p=true:=by simp only[okM,Bool.and_eq_true]at hp;exact hp.1
  simp only[Rd,decide_eq_true_eq]at ix;obtain⟨r1,r2,r3⟩:=ix;simp only[Ed,wl,IB,IR,pcT,Tr.val,Tr.ob,da,a2,xb,Sb];cases hA:Rb (Sb d ins) p.Kids with
  |none=>exact⟨by simp[qg,b2],by simp[qg,ocR,uc]⟩
  |some ks=>
   have ht:∀x∈ks,Ca x=true:=λx hx=>by
    obtain⟨q,_,hq⟩:=zF hA x hx;exact AF hq
   have hv:=Lm hA;have h0:=uk ht 0;have h1:=uk ht 1;have hr0:=je h0;have io:=je h1;have hw:=(bb hr0).1;have hy:=(bb io).1;have hm:∀x∈ks.getD 0 [],InR x.Diff:=λx hx=>Oe ((bb hr0).2 x hx);have ho:∀x∈ks.getD 1 [],InR x.Diff:=λx hx=>Oe ((bb io).2 x hx);obtain⟨K,M,kids⟩:=p;simp only at r1 r2 r3 b2 a2 hA hv⊢;simp only[qg,rd0,rd1,<-uX];rcases Jt K with rfl|rfl|rfl|rfl|rfl|rfl|⟨g1,g2,g3,g4,g5,g6⟩
   .simp only[kd]at r1 r2 r3;have hM:0<=M/\M<=1:=by simpa using And.intro r2 r3
    have it:rd .lrow ins M=ins.getD M.toNat []:=rfl;have hb:=uk hins M.toNat;have hz:=(bb (je hb)).1;obtain⟨c1,c2⟩:=SW (a:=ins.getD M.toNat []) (by omega);have hr:=Qd (ks:=ins) hM.1 (by omega);rw[eN];refine⟨by simp[-List.getD_eq_getElem?_getD,b2,hr,it,c1],?_⟩;simp only[decide_true,it,c2,ocR];unfold Mf;rw[if_pos hb]
   .have he:ks.length=1:=by simp[kd]at r1;omega
    have hr:=Qd (ks:=ks) (i:=0) (by omega) (by omega);simp only[kd]at r2 r3;have hM:1<=M/\M<=7:=by simpa using And.intro r2 r3
    obtain⟨c1,c2⟩:=GW hr0 hM;rw[fN];refine⟨by simp[-List.getD_eq_getElem?_getD,b2,hr,c1],?_⟩;simp[-List.getD_eq_getElem?_getD,c2,ocR]
   .have he:ks.length=2:=by simp[kd]at r1;omega
    have hr:=Qd (ks:=ks) (i:=0) (by omega) (by omega);have hs:=Qd (ks:=ks) (i:=1) (by omega) (by omega);obtain⟨c1,c2⟩:=RW (a:=ks.getD 0 []) (b:=ks.getD 1 []) (by omega) (by omega);obtain⟨e1,e2⟩:=Qm (xs:=ks.getD 0 []++ks.getD 1 []) (by rw[List.length_append];omega) (λx hx=>(List.mem_append.1 hx).elim (hm x) (ho x));rw[gN];refine⟨by simp[-List.getD_eq_getElem?_getD,b2,hr,hs,c1,c2,e1],?_⟩;simp only[c2,e2,ocR];unfold Mf;cases Ca _<;>rfl
   .have he:ks.length=1:=by simp[kd]at r1;omega
    have hr:=Qd (ks:=ks) (i:=0) (by omega) (by omega);obtain⟨c1,c2⟩:=TW (a:=ks.getD 0 []) (by omega);have hg:(Va (ks.getD 0 [])).length=(ks.getD 0 []).length:=by simp[Va]
    obtain⟨e1,e2⟩:=Qm (xs:=Va (ks.getD 0 [])) (by omega) (XF _);rw[iN];refine⟨by simp[-List.getD_eq_getElem?_getD,b2,hr,c1,c2,e1],?_⟩;simp only[c2,e2,ocR];unfold Mf;cases Ca _<;>rfl
   .have he:ks.length=2:=by simp[kd]at r1;omega
    have hr:=Qd (ks:=ks) (i:=0) (by omega) (by omega);have hs:=Qd (ks:=ks) (i:=1) (by omega) (by omega);obtain⟨c1,c2⟩:=PW hr0 io;rw[jN];refine⟨by simp[-List.getD_eq_getElem?_getD,b2,hr,hs,c1],?_⟩;simp[-List.getD_eq_getElem?_getD,c2,ocR]
   .have he:ks.length=1:=by simp[kd]at r1;omega
    have hr:=Qd (ks:=ks) (i:=0) (by omega) (by omega);simp only[kd]at r2 r3;have hM:1<=M/\M<=3:=by simpa using And.intro r2 r3
    obtain⟨c1,c2⟩:=qX hr0 hM;rw[kN];refine⟨by simp[-List.getD_eq_getElem?_getD,b2,hr,c1],?_⟩;simp[-List.getD_eq_getElem?_getD,c2,ocR]
   .exfalso
    simp[kd,g1,g2,g3,g4,g5,g6]at r1
theorem wX{ins:List (List Row)}(hlen:ins.length=2)(hins:∀a∈ins,Ca a=true):∀(d n:Nat),d<=n->∀p:Plan,okM d p=true->(Lc n).2 p ins/\∃o,(Lc n).1 p ins=(o,(Sb d ins p).isSome,())/\∀x,Sb d ins p=some x->o=x:=by
 intro d
 induction d with
 |zero=>intro n _ p h;cases h
 |succ d ih=>
  intro n hn p hp;obtain⟨m,rfl⟩ : ∃m,n=m+1:=⟨n - 1,by omega⟩;obtain⟨hz,hk⟩:=UF hp
  have k:∃q,Ea (λs:List LR×Int=>Lx (Lc m).1 (Lc m).2 ins p.Kind p.Num p.Kids s.1 s.2) ([],0) q/\q=qg (Rb (Sb d ins) p.Kids):=by
   refine la.list p.Kids (λi b=>(b,(i:Int))) (λl b=>Rb (Sb d ins) l=some b) (b0:=[]) rfl rfl (λl x r b hx hI=>?_) (λb hI=>?_)
   .obtain⟨hlen2,ki,hu,ix⟩:=Qa (t:=.plan) hx;have hl:=Lm hI;obtain⟨i1,o,i2,i3⟩:=ih m (by omega) x (hk x (by rw[hx];simp));have io:∀y,lim (ba .lrow b) (ba .lrow [y]):=λy=>yb (t:=.lrow) (show b.length<1099511627776 by omega);have hh:=Km (Sb d ins) l (x::r);have hi:=Km (Sb d ins) l [x];simp only[Lx,Tr.val,Tr.ob,da,ix,ki,od,i2,Ia (l:=l) (by omega)];rw[hI]at hh hi;cases hf:Sb d ins x with
    |none=>
     simp only[Rb,hf]at hh;exact⟨by simp[-List.getD_eq_getElem?_getD,hu,i1],.inr ⟨_,by simp[ka];rfl,by rw[hx,hh];rfl⟩⟩
    |some y=>
     simp only[Rb,hf]at hi;rw[i3 y hf];exact⟨by simp[-List.getD_eq_getElem?_getD,hu,i1,io],.inl ⟨b++[y],by simp[ka],hi⟩⟩
   .have ho:cmp .lss (p.Kids.length:Int) (ba .plan p.Kids)=false:=Na (t:=.plan);simp only[Lx,Tr.val,Tr.ob,da,ho];exact⟨by simp,_,rfl,by rw[hI];rfl⟩
  obtain⟨q,kq,rfl⟩:=k;have a2:(Zo (Lc m).1 (Lc m).2 ins p.Kind p.Num p.Kids).o=qg (Rb (Sb d ins) p.Kids):=kq.v;have b2:(Zo (Lc m).1 (Lc m).2 ins p.Kind p.Num p.Kids).ob:=kq.t;have kj:Rd p=true:=by simp only[okM,Bool.and_eq_true]at hp;exact hp.1
  simp only[Rd,decide_eq_true_eq]at kj;obtain⟨r1,r2,r3⟩:=kj;simp only[Lc,Lk,Mx,DP,pcT,Tr.val,Tr.ob,da,a2,Sb];cases hA:Rb (Sb d ins) p.Kids with
  |none=>exact⟨by simp[qg,b2],[],by simp[qg,ocR],λx hx=>by cases hx⟩
  |some ks=>
   have hy:∀x∈ks,Ca x=true:=λx hx=>by
    obtain⟨q,_,hq⟩:=zF hA x hx;exact AF hq
   have ha:=Lm hA;have h0:=uk hy 0;have h1:=uk hy 1;have hr0:=je h0;have jb:=je h1;have hc:=(bb hr0).1;have he:=(bb jb).1;have hs:∀x∈ks.getD 0 [],InR x.Diff:=λx hx=>Oe ((bb hr0).2 x hx);have ht:∀x∈ks.getD 1 [],InR x.Diff:=λx hx=>Oe ((bb jb).2 x hx);obtain⟨K,M,kids⟩:=p;simp only at r1 r2 r3 b2 a2 hA ha⊢
   have key:((Ox (Lc m).1 (Lc m).2 ins K M kids ks).ob/\(Ox (Lc m).1 (Lc m).2 ins K M kids ks).val=.n (opR K M ks ins))/\(opR K M ks ins).length<1000000000:=by
    simp only[Ox,Nx,ZG,pcT,Tr.val,Tr.ob,da,xb,rd0,rd1,List.nil_append];rcases Jt K with rfl|rfl|rfl|rfl|rfl|rfl|⟨g1,g2,g3,g4,g5,g6⟩
    .simp only[kd]at r1 r2 r3;have hM:0<=M/\M<=1:=by simpa using And.intro r2 r3
     have ki:rd .lrow ins M=ins.getD M.toNat []:=rfl;have hb:=uk hins M.toNat;have hg:=(bb (je hb)).1;have hu:=Qd (ks:=ins) hM.1 (by omega);have io:lim (ba .row []) (ba .row (ins.getD M.toNat [])):=by simp only[lim,ba,List.length_nil];omega
     rw[eN];exact⟨⟨by simp only[ki];simp[-List.getD_eq_getElem?_getD,hu];exact io,by simp[-List.getD_eq_getElem?_getD,ki]⟩,by omega⟩
    .have ie:ks.length=1:=by simp[kd]at r1;omega
     have hu:=Qd (ks:=ks) (i:=0) (by omega) (by omega);simp only[kd]at r2 r3;have hM:1<=M/\M<=7:=by simpa using And.intro r2 r3
     obtain⟨c1,c2⟩:=IW hr0 hM;have hr:=ek (WF (h:=M) hs);have hm:=sk M (ks.getD 0 []);rw[fN];exact⟨⟨by simp only[];simp[-List.getD_eq_getElem?_getD,hu,c1],by simp[-List.getD_eq_getElem?_getD,c2]⟩,by omega⟩
    .have ie:ks.length=2:=by simp[kd]at r1;omega
     have hu:=Qd (ks:=ks) (i:=0) (by omega) (by omega);have hv:=Qd (ks:=ks) (i:=1) (by omega) (by omega);have hj:∀x∈ks.getD 0 []++ks.getD 1 [],InR x.Diff:=λx hx=>(List.mem_append.1 hx).elim (hs x) (ht x);obtain⟨e1,e2⟩:=Mg (ks.getD 0 []++ks.getD 1 []) (by rw[List.length_append];omega) hj;have hr:=ek hj;rw[List.length_append]at hr;have io:lim (ba .row []) (ba .row (ks.getD 0 [])):=by simp only[lim,ba,List.length_nil];omega
     have it:lim (ba .row (ks.getD 0 [])) (ba .row (ks.getD 1 [])):=lF (t:=.row) (by omega);rw[gN];exact⟨⟨by simp[-List.getD_eq_getElem?_getD,hu,hv,io,it,e1],by simp[-List.getD_eq_getElem?_getD,e2]⟩,by omega⟩
    .have ie:ks.length=1:=by simp[kd]at r1;omega
     have hu:=Qd (ks:=ks) (i:=0) (by omega) (by omega);obtain⟨c1,c2⟩:=QM h0;have ju:(Va (ks.getD 0 [])).length=(ks.getD 0 []).length:=by simp[Va]
     rw[iN,MM (OM h0)];exact⟨⟨by simp[-List.getD_eq_getElem?_getD,hu,c1],by simp[-List.getD_eq_getElem?_getD,c2]⟩,by omega⟩
    .have ie:ks.length=2:=by simp[kd]at r1;omega
     have hu:=Qd (ks:=ks) (i:=0) (by omega) (by omega);have hv:=Qd (ks:=ks) (i:=1) (by omega) (by omega);obtain⟨c1,c2⟩:=QW hr0 jb;have hr:=ek λx hx=>(Kt (bb hr0).2 (bb jb).2 x hx).1;have hw:=Rm hc he;rw[jN];exact⟨⟨by simp[-List.getD_eq_getElem?_getD,hu,hv,c1],by simp[-List.getD_eq_getElem?_getD,c2]⟩,by omega⟩
    .have ie:ks.length=1:=by simp[kd]at r1;omega
     have hu:=Qd (ks:=ks) (i:=0) (by omega) (by omega);simp only[kd]at r2 r3;have hM:1<=M/\M<=3:=by simpa using And.intro r2 r3
     obtain⟨c1,c2⟩:=tX hr0 hM;obtain⟨s1,s2⟩:=EF (kind:=M) (bb hr0).2;have hr:=ek λx hx=>(s1 x hx).1;rw[kN];exact⟨⟨by simp[-List.getD_eq_getElem?_getD,hu,c1],by simp[-List.getD_eq_getElem?_getD,c2]⟩,by omega⟩
    .exfalso
     simp[kd,g1,g2,g3,g4,g5,g6]at r1
   obtain⟨⟨c1,c2⟩,c3⟩:=key;obtain⟨f1,f2⟩:=Pm (opR K M ks ins) c3;simp only[qg,Px,c2,f2,pcT];refine⟨by simp[b2,c1,c2,f1],opR K M ks ins,?_,?_⟩
   .cases hb:Ca (opR K M ks ins)<;>simp[ocR]
   .intro x hx;split at hx
    .simpa using hx
    .cases hx
def Pe(p:Plan)(ins:List (List Row)):Option (List Row):=if okM 4 p=true/\ins.length=2/\ins.all Ca=true then Sb 4 ins p else none
theorem xX(p:Plan)(ins:List (List Row))(hl:ins.length<1000000)(hl2:∀a∈ins,a.length<1000000000):TB p ins/\SB p ins=uc (Pe p ins):=by
 obtain⟨p1,p2⟩:=BX p
 have k:Ea (λs:Int=>MB ins p.Kind p.Num p.Kids (ba .lrow ins) s) 0 (if ub (λ_ x=>!Ca x) none ins=true then .x () else .r ([],false,())):=by
  refine la.scan ins _ (λl x r hx=>?_) ?_
  .obtain⟨hlen,hn,hi,hk⟩:=Qa (t:=.lrow) hx;obtain⟨b1,b2⟩:=zM x (hl2 x (by rw[hx];simp));simp only[MB,Tr.val,Tr.ob,da,hk,hn,b2,Ia (l:=l) (by omega)];refine⟨by simp[hi,b1],?_⟩;cases Ca x<;>rfl
  .have hh:cmp .lss (ins.length:Int) (ba .lrow ins)=false:=Na (t:=.lrow);simp only[MB,Tr.val,Tr.ob,da,hh];exact⟨by simp,rfl⟩
 have a2:(Wq ins p.Kind p.Num p.Kids (ba .lrow ins)).o=_:=k.v;have b2:(Wq ins p.Kind p.Num p.Kids (ba .lrow ins)).ob:=k.t;rw[Og]at a2;simp only[TB,SB,RB,PB,NR,pcT,Tr.val,Tr.ob,da,od,p2,De,a2];unfold Pe;have hm:decide (ba .lrow ins=2)=decide (ins.length=2):=decide_eq_decide.2 (by unfold ba;omega);rw[hm];cases h1:okM 4 p with
 |false=>exact⟨by simp[p1],by simp[ocR,uc]⟩
 |true=>
  by_cases h2:ins.length=2
  .cases h3:ins.all Ca with
   |false=>exact⟨by simp[p1,h2,b2],by simp[ocR,uc,h2]⟩
   |true=>
    have hj:∀a∈ins,Ca a=true:=List.all_eq_true.1 h3;obtain⟨f1,f2⟩:=vX h2 hj 4 gc (by decide) p h1;have f1:jI p ins:=f1;have f2:iI p ins=uc (Sb 4 ins p):=f2;exact⟨by simp[p1,h2,b2,f1],by simp[ocR,h2,f2]⟩
  .exact⟨by simp[p1,h2],by simp[ocR,uc,h2]⟩
theorem lN(p:Plan)(ins:List (List Row))(hl:ins.length<1000000)(hl2:∀a∈ins,a.length<1000000000):fp p ins/\ep p ins=uc (Pe p ins):=by
 obtain⟨p1,p2⟩:=oN p
 have k:Ea (λs:Int=>Rx ins p.Kind p.Num p.Kids s) 0 (if ub (λ_ x=>!Ca x) none ins=true then .x () else .r ([],false,())):=by
  refine la.scan ins _ (λl x r hx=>?_) ?_
  .obtain⟨hlen,hn,hi,hk⟩:=Qa (t:=.lrow) hx;obtain⟨b1,b2⟩:=Pm x (hl2 x (by rw[hx];simp));simp only[Rx,Tr.val,Tr.ob,da,hk,hn,b2,Ia (l:=l) (by omega)];refine⟨by simp[hi,b1],?_⟩;cases Ca x<;>rfl
  .have hh:cmp .lss (ins.length:Int) (ba .lrow ins)=false:=Na (t:=.lrow);simp only[Rx,Tr.val,Tr.ob,da,hh];exact⟨by simp,rfl⟩
 have a2:(dp ins p.Kind p.Num p.Kids).o=_:=k.v;have b2:(dp ins p.Kind p.Num p.Kids).ob:=k.t;rw[Og]at a2;simp only[fp,ep,Tx,Sx,HP,pcT,Tr.val,Tr.ob,da,od,p2,De,a2];unfold Pe;have hm:decide (ba .lrow ins=2)=decide (ins.length=2):=decide_eq_decide.2 (by unfold ba;omega);rw[hm];cases h1:okM 4 p with
 |false=>exact⟨by simp[p1],by simp[ocR,uc]⟩
 |true=>
  by_cases h2:ins.length=2
  .cases h3:ins.all Ca with
   |false=>exact⟨by simp[p1,h2,b2],by simp[ocR,uc,h2]⟩
   |true=>
    have hj:∀a∈ins,Ca a=true:=List.all_eq_true.1 h3;obtain⟨f1,o,f2,f3⟩:=wX h2 hj 4 gc (by decide) p h1;have f1:bH p ins:=f1;have f2:aH p ins=(o,(Sb 4 ins p).isSome,()):=f2;cases hF:Sb 4 ins p with
    |none=>
     rw[hF]at f2;exact⟨by simp[p1,h2,b2,f1,f2],by simp[ocR,h2,f2,uc]⟩
    |some x=>
     rw[hF]at f2;rw[f3 x hF]at f2;exact⟨by simp[p1,h2,b2,f1,f2],by simp[ocR,h2,f2,uc]⟩
  .exact⟨by simp[p1,h2],by simp[ocR,uc,h2]⟩
end
def Bd:Nat->Int
 |0=>2
 |d+1=>2*Bd d+4
theorem IF:∀d,2<=Bd d
 |0=>Int.le_refl _
 |d+1=>by have:=IF d;simp only[Bd];omega
theorem BM{b:List Int}(hb:Sc b):∀(d n:Nat),d<n->d<=4->∀p:Int,0<=p/\p+Bd d<=500000 ->
  (xc n).2 (b,p) d/\p<=((xc n).1 (b,p) d).2/\((xc n).1 (b,p) d).2<=p+Bd d:=by
 intro d
 induction d with
 |zero=>
  intro n hn _ p hp;obtain⟨m,rfl⟩ : ∃m,n=m+1:=⟨n - 1,by omega⟩;have hB:Bd 0=2:=rfl;obtain⟨x1,x2,_,_⟩:=Eb hb (p:=p) (n:=2) (by omega) (by omega);have hl:cmp .lss ((0:Nat):Int) 2=true:=rfl;simp only[xc,Gh,Tr.val,Tr.ob,da,hl,cond_true,Bool.not_true,Bool.false_and,cond_false,ocR,x2];exact⟨by simp[x1],by omega,by omega⟩
 |succ d ih=>
  intro n hn hd p hp;obtain⟨m,rfl⟩ : ∃m,n=m+1:=⟨n - 1,by omega⟩;have hh:=IF d;have hB:Bd (d+1)=2*Bd d+4:=rfl;generalize hD:((d+1:Nat):Int)=D;have hi:ar .sub .i64 D 1=(d:Int):=by rw[bf (by omega)];omega
  obtain⟨x1,x2,_,_⟩:=Eb hb (p:=p) (n:=6) (by omega) (by omega)
  have hP:p<=cond ((!(cmp .lss D 2))&&true) (ia (b,p) 6).2 p/\cond ((!(cmp .lss D 2))&&true) (ia (b,p) 6).2 p<=p+1:=by
   rw[x2];cases cmp .lss D 2<;>simp<;>omega
  simp only[xc,Gh,Tr.val,Tr.ob,da,hi];generalize cond ((!(cmp .lss D 2))&&true) (ia (b,p) 6).2 p=P at hP⊢;obtain⟨y1,y2,_,_⟩:=Eb hb (p:=P) (n:=2) (by omega) (by omega);obtain⟨z1,z2,_,_⟩:=Eb hb (p:=P) (n:=6) (by omega) (by omega);obtain⟨u1,u2,_,_⟩:=Eb hb (p:=P+1) (n:=7) (by omega) (by omega);obtain⟨w1,w2,_,_⟩:=Eb hb (p:=P+1) (n:=3) (by omega) (by omega)
  have R:∀q,P+1<=q->q<=P+2+Bd d->(xc m).2 (b,q) d/\q<=((xc m).1 (b,q) d).2/\((xc m).1 (b,q) d).2<=q+Bd d:=λq h1 h2=>ih m (by omega) (by omega) q (by omega)
  obtain⟨r1,r2,r3⟩:=R (P+1) (by omega) (by omega);obtain⟨s1,s2,s3⟩:=R (P+1+1) (by omega) (by omega);obtain⟨t1,t2,t3⟩:=R ((xc m).1 (b,P+1) d).2 (by omega) (by omega);simp only[z2,u2,w2,y2];cases cond (cmp .lss D 2) true (cmp .eql (ia (b,p) 6).1 0) with
  |true=>exact⟨by simp[x1,y1],by simp only[ocR];omega,by simp only[ocR];omega⟩
  |false=>
   cases cmp .eql (ia (b,P) 6).1 0 with
   |true=>exact⟨by simp[x1,z1,u1,s1],by simp only[ocR];omega,by simp only[ocR];omega⟩
   |false=>
    cases cmp .eql (ia (b,P) 6).1 1 with
    |true=>exact⟨by simp[x1,z1,r1,t1],by simp only[ocR];omega,by simp only[ocR];omega⟩
    |false=>
     cases cmp .eql (ia (b,P) 6).1 2 with
     |true=>exact⟨by simp[x1,z1,r1],by simp only[ocR];omega,by simp only[ocR];omega⟩
     |false=>
      cases cmp .eql (ia (b,P) 6).1 3 with
      |true=>exact⟨by simp[x1,z1,r1,t1],by simp only[ocR];omega,by simp only[ocR];omega⟩
      |false=>exact⟨by simp[x1,z1,w1,s1],by simp only[ocR];omega,by simp only[ocR];omega⟩
structure RF(p:Plan)(ins:List (List Row))(x:List Row):Prop where
 ok:okM 4 p=true
 len:ins.length=2
 every:∀a∈ins,Ca a=true
 flow:Sb 4 ins p=some x
 batch:Ca x=true
 short:x.length<=400
theorem Vm{p:Plan}{ins:List (List Row)}{x:List Row}(h:Pe p ins=some x):RF p ins x:=by
 unfold Pe at h;split at h
 .rename_i h1;have hb:=AF h;exact⟨h1.1,h1.2.1,List.all_eq_true.1 h1.2.2,h,hb,(bb (je hb)).1⟩
 .cases h
theorem RF.of{p:Plan}{ins:List (List Row)}{x:List Row}(h1:okM 4 p=true)(h2:ins.length=2)(h3:∀a∈ins,Ca a=true)(h4:Sb 4 ins p=some x):Pe p ins=some x:=by
 unfold Pe;rw[if_pos ⟨h1,h2,List.all_eq_true.2 h3⟩,h4]
section
open Go Tg
def allT(n:Nat):List Time:=(List.range n).flatMap λa:Nat=>(List.range 8).map λb:Nat=>(⟨(a:Int),(b:Int)⟩ : Time)
theorem UX{b:List Int}(hb:Sc b){p:Int}(hp:0<=p/\p<=700000):Xy (b,p):=by
 obtain⟨a1,a2⟩:=zt hb (p:=p) (by omega);obtain⟨c1,c2,c3,c4⟩:=Eb hb (p:=p+3) (n:=16) (by omega) (by omega);obtain⟨d1,d2,d3,d4⟩:=Eb hb (p:=p+3+1) (n:=2) (by omega) (by omega);have hh:∀u v:Int,inb (ia (b,p+3+1) 2).1 (ba .int [u,v]):=λu v=>⟨d3,d4⟩
 have k:∀x,(Mp b (p+3) x).ob:=λx=>by
  simp only[Mp,Tr.ob,da,c2];simp[c1,d1,hh]
 simp only[Xy,Pp,Np,Tr.ob,da,a2,pcT];simp[a1,k]
def Nf(y:Option Time)(x:Time):Bool:=!za x||match y with
 |none=>false
 |some y=>decide (x.A<=y.A)||decide (y.B<=x.B)
def Sd(f:List Time):Bool:=ub Nf none f
theorem YF:∀ {f:List Time}{y:Option Time},ub Nf y f=true->∀s∈f,za s=true
 |[],_,_,s,hs=>by cases hs
 |x::r,y,h,s,hs=>by
  simp only[ub,Nf,Bool.and_eq_true,Bool.not_eq_true',Bool.or_eq_false_iff]at h;rcases List.mem_cons.1 hs with rfl|hs
  .simpa using h.1.1
  .exact YF h.2 s hs
theorem vk(f:List Time)(hl:f.length<1000000000):Rg f/\mf f=Sd f:=by
 have k2:Ea (λs:Int=>Jn f s) 0 (if ub Nf none f=true then .x () else .r false):=by
  refine la.scan f _ (λl x r hx=>?_) ?_
  .obtain⟨hlen,hm,hi,hk⟩:=Qa (t:=.time) hx;rcases Dt hx hl with⟨h1,h2⟩|⟨l',y,h1,h2,h3,h4,h5⟩
   .have hg:cmp .gtr (l.length:Int) 0=false:=by rw[h1];rfl
    simp only[Jn,Tr.val,Tr.ob,da,hk,hm,Ia (l:=l) (by omega),hg,h2,Nf,Fh];refine⟨by simp[hi,ng],?_⟩;cases za x<;>rfl
   .have hy:rd .time f (l'.length:Int)=y:=by rw[h4];exact Xi
    have hj:inb (l'.length:Int) (ba .time f):=by rw[h4];exact Yi (t:=.time)
    simp only[Jn,Tr.val,Tr.ob,da,hk,hm,Ia (l:=l) (by omega),h2,h3,hy,h5,Nf,Fh,Kg,Ee];refine⟨by simp[hi,hj,ng],?_⟩;cases za x<;>cases decide (x.A<=y.A)<;>cases decide (y.B<=x.B)<;>rfl
  .have hh:cmp .lss (f.length:Int) (ba .time f)=false:=Na (t:=.time);simp only[Jn,Tr.val,Tr.ob,da,hh];exact⟨by simp,rfl⟩
 have a2:(Nn f).o=_:=k2.v;have b2:(Nn f).ob:=k2.t;simp only[Rg,mf,Vu,Uu,aO,pcT,Tr.val,Tr.ob,Sd,a2];refine⟨by simp[b2],?_⟩;cases ub Nf none f<;>rfl
theorem IX(f:List Time)(hl:f.length<1000000000):qz f/\oz f=Sd f:=by
 have k2:Ea (λs:Int=>Wp f (ba .time f) s) 0 (if ub Nf none f=true then .x () else .r false):=by
  refine la.scan f _ (λl x r hx=>?_) ?_
  .obtain⟨hlen,hm,hi,hk⟩:=Qa (t:=.time) hx;rcases Dt hx hl with⟨h1,h2⟩|⟨l',y,h1,h2,h3,h4,h5⟩
   .have hg:cmp .gtr (l.length:Int) 0=false:=by rw[h1];rfl
    simp only[Wp,Tr.val,Tr.ob,da,hk,hm,Ia (l:=l) (by omega),hg,h2,Nf,Bt];refine⟨by simp[hi,Ct],?_⟩;cases za x<;>rfl
   .have hy:rd .time f (l'.length:Int)=y:=by rw[h4];exact Xi
    have hj:inb (l'.length:Int) (ba .time f):=by rw[h4];exact Yi (t:=.time)
    simp only[Wp,Tr.val,Tr.ob,da,hk,hm,Ia (l:=l) (by omega),h2,h3,hy,h5,Nf,Bt,Kg,Ee];refine⟨by simp[hi,hj,Ct],?_⟩;cases za x<;>cases decide (x.A<=y.A)<;>cases decide (y.B<=x.B)<;>rfl
  .have hh:cmp .lss (f.length:Int) (ba .time f)=false:=Na (t:=.time);simp only[Wp,Tr.val,Tr.ob,da,hh];exact⟨by simp,rfl⟩
 have a2:(Xp f (ba .time f)).o=_:=k2.v;have b2:(Xp f (ba .time f)).ob:=k2.t;simp only[qz,oz,nz,mz,sQ,pcT,Tr.val,Tr.ob,Sd,a2];refine⟨by simp[b2],?_⟩;cases ub Nf none f<;>rfl
def cj(s t:Time):Bool:=za s&&za t&&Rc s t
theorem ZF{α:Type}(c:α->Bool):∀(xs:List α) (y:Option α),ub (λ_ x=>c x) y xs=!xs.any c
 |[],_=>rfl
 |x::r,y=>by simp only[ub,List.any_cons,ZF c r (some x),Bool.not_or]
theorem JX(f:List Time)(t:Time)(hl:f.length<1000000000):Nk f t/\Mk f t=(Sd f&&f.any (cj · t)):=by
 obtain⟨p1,p2⟩:=vk f hl
 have k2:Ea (λs:Int=>Wx f t s) 0 (if ub (λ_ x=>cj x t) none f=true then .x () else .r true):=by
  refine la.scan f _ (λl x r hx=>?_) ?_
  .obtain⟨hlen,hk,hi,hj⟩:=Qa (t:=.time) hx;have hv:gj x t=cj x t:=GF x t;simp only[Wx,Tr.val,Tr.ob,da,hj,hk,Ia (l:=l) (by omega),hv];refine⟨by simp[hi,nk],?_⟩;cases cj x t<;>rfl
  .have hh:cmp .lss (f.length:Int) (ba .time f)=false:=Na (t:=.time);simp only[Wx,Tr.val,Tr.ob,da,hh];exact⟨by simp,rfl⟩
 rw[ZF]at k2;have a2:(ip f t).o=_:=k2.v;have b2:(ip f t).ob:=k2.t;simp only[Nk,Mk,Yx,Xx,JP,pcT,Tr.val,Tr.ob,da,a2,p2];refine⟨by simp[b2,p1],?_⟩;cases Sd f<;>cases f.any (cj · t)<;>rfl
theorem LX(f:List Time)(hl:f.length<1000000000):Bu f:=by
 have k2:Ea (λs:Int=>xu f s) 0 (if ub (λ_ x=>!za x) none f=true then .x () else .r false):=by
  refine la.scan f _ (λl x r hx=>?_) ?_
  .obtain⟨hlen,hk,hi,hj⟩:=Qa (t:=.time) hx;simp only[xu,Tr.val,Tr.ob,da,hj,hk,Ia (l:=l) (by omega),Fh];refine⟨by simp[hi,ng],?_⟩;cases za x<;>rfl
  .have hh:cmp .lss (f.length:Int) (ba .time f)=false:=Na (t:=.time);simp only[xu,Tr.val,Tr.ob,da,hh];exact⟨by simp,rfl⟩
 have b2:(yu f).ob:=k2.t;simp only[Bu,Au,zu,QN,Tr.ob,pcT];simp[b2]
theorem MX(f m:List Time)(a b:Int)(hl:f.length<1000000000):(Eu f m a b).ob/\∃q,(Eu f m a b).val=.n q:=by
 obtain⟨q,k,q',rfl⟩:=la.list (step:=λs:Bool×Int=>ka (wn f m a b s.1 s.2).val) (ob:=λs=>(wn f m a b s.1 s.2).ob) (s0:=(false,0)) f (λi b=>(b,(i:Int))) (λ_ _=>True) (b0:=false) (Q:=λq=>∃q',q=.x q') rfl trivial
  (λl x r q hx _=>by
    obtain⟨hlen,_,hi,hj⟩:=Qa (t:=.time) hx
    have e:(Cu f m a b q l.length).ob/\∃q',(Cu f m a b q l.length).val=.n q':=by
     simp only[Cu,Tr.val,Tr.ob,da];refine⟨by simp[hi],?_⟩;split<;>exact⟨_,rfl⟩
    obtain⟨e1,q',e2⟩:=e;simp only[wn,Du,pcT,Tr.val,Tr.ob,hj,e2,Ia (l:=l) (by omega)];exact⟨by simp[e1],.inl ⟨q',rfl,trivial⟩⟩)
  (λq _=>by
    have hh:cmp .lss (f.length:Int) (ba .time f)=false:=Na (t:=.time);simp only[wn,Tr.val,Tr.ob,hh];exact⟨by simp,_,rfl,q,rfl⟩)
 have a2:(xn f m a b).o=.x q':=k.v;have b2:(xn f m a b).ob:=k.t;simp only[Eu,Tr.val,Tr.ob,a2];exact⟨by simp[b2],q',rfl⟩
theorem NX(f m:List Time)(a b:Int)(q0:Bool)(hl:f.length<1000000000):(Iu f m a b q0).ob/\∃q,(Iu f m a b q0).val=.n q:=by
 obtain⟨q,k,q',rfl⟩:=la.list (step:=λs:Bool×Int=>ka (yn f m a b q0 s.1 s.2).val) (ob:=λs=>(yn f m a b q0 s.1 s.2).ob) (s0:=(q0,0)) f (λi b=>(b,(i:Int))) (λ_ _=>True) (b0:=q0) (Q:=λq=>∃q',q=.x q') rfl trivial
  (λl x r q hx _=>by
    obtain⟨hlen,_,hi,hj⟩:=Qa (t:=.time) hx
    have e:(Gu f m a b q l.length).ob/\∃q',(Gu f m a b q l.length).val=.n q':=by
     simp only[Gu,Tr.val,Tr.ob,da];refine⟨by simp[hi,nk],?_⟩;split<;>exact⟨_,rfl⟩
    obtain⟨e1,q',e2⟩:=e;simp only[yn,Hu,pcT,Tr.val,Tr.ob,hj,e2,Ia (l:=l) (by omega)];exact⟨by simp[e1],.inl ⟨q',rfl,trivial⟩⟩)
  (λq _=>by
    have hh:cmp .lss (f.length:Int) (ba .time f)=false:=Na (t:=.time);simp only[yn,Tr.val,Tr.ob,hh];exact⟨by simp,_,rfl,q,rfl⟩)
 have a2:(zn f m a b q0).o=.x q':=k.v;have b2:(zn f m a b q0).ob:=k.t;simp only[Iu,Tr.val,Tr.ob,a2];exact⟨by simp[b2],q',rfl⟩
theorem PX(f m:List Time)(a b:Int)(hl:f.length<1000000000)(hm:m.length<=1000):(Ku f m a b).ob/\∃m',(Ku f m a b).val=.n m'/\m'.length<=m.length+1:=by
 obtain⟨a1,q,a2⟩:=MX f m a b hl;obtain⟨b1,u,b2⟩:=NX f m a b q hl;have hh:∀w,lim (ba .time m) (ba .time [w]):=λw=>yb (t:=.time) (show m.length<1099511627776 by omega);simp only[Ku,Fu,Ju,pcT,Tr.val,Tr.ob,da,a2,b2];refine⟨by simp[a1,b1,hh],?_⟩;cases u with
 |true=>exact⟨_,rfl,by simp⟩
 |false=>exact⟨_,rfl,by omega⟩
theorem QX(f m:List Time)(a:Int)(hl:f.length<1000000000)(hm:m.length<=900):(Mu f m a).ob/\∃m',(Mu f m a).val=.n m'/\m'.length<=m.length+8:=by
 obtain⟨q,k,m',rfl,hh⟩:=la.down (step:=λs:List Time×Int=>ka (Bn f m a s.1 s.2).val) (ob:=λs=>(Bn f m a s.1 s.2).ob) (s0:=(m,7)) (λn b=>(b,(n:Int) - 1)) (λn b=>b.length+n<=m.length+8) (n0:=8) (b0:=m) (Q:=λq=>∃m',q=.x m'/\m'.length<=m.length+8) rfl (by simp)
  (λn b hn hI=>by
    have hg:cmp .geq (((n+1:Nat):Int) - 1) 0=true:=by rw[Kg];simp
    have hs:ar .sub .i64 (((n+1:Nat):Int) - 1) 1=(n:Int) - 1:=by rw[bf (by omega)];omega
    obtain⟨e1,b',e2,e3⟩:=PX f b a (((n+1:Nat):Int) - 1) hl (by omega);generalize (((n+1:Nat):Int) - 1)=k at hg hs e1 e2⊢;simp only[Bn,Lu,pcT,Tr.val,Tr.ob,hg,hs,e2];exact⟨by simp[e1],b',rfl,by omega⟩)
  (λb hI=>by
    have hg:cmp .geq (((0:Nat):Int) - 1) 0=false:=rfl;simp only[Bn,Tr.val,Tr.ob,hg];exact⟨by simp,_,rfl,b,rfl,by omega⟩)
 have a2:(Cn f m a).o=.x m':=k.v;have b2:(Cn f m a).ob:=k.t;simp only[Mu,Tr.val,Tr.ob,a2];exact⟨by simp[b2],m',rfl,hh⟩
theorem pN(f:List Time)(hl:f.length<1000000000):Hn f/\(Gn f).length<=64:=by
 have h1:=LX f hl
 obtain⟨q,k,m',rfl,hh⟩:=la.list (step:=λs:List Time×Int=>ka (Dn f s.1 s.2).val) (ob:=λs=>(Dn f s.1 s.2).ob) (s0:=([],0)) (List.range 8) (λi b=>(b,(i:Int))) (λl b=>b.length<=8*l.length) (b0:=[]) (Q:=λq=>∃m',q=.x m'/\m'.length<=64) rfl (by simp)
  (λl x r b hx hI=>by
    have hlen:8=l.length+(r.length+1):=by have:=congrArg List.length hx;simpa using this
    have hg:cmp .leq (l.length:Int) 7=true:=by rw[Ee];simp;omega
    obtain⟨e1,b',e2,e3⟩:=QX f b l.length hl (by omega);simp only[Dn,Nu,pcT,Tr.val,Tr.ob,hg,Ia (l:=l) (by omega),e2];exact⟨by simp[e1],.inl ⟨b',rfl,by rw[List.length_append,List.length_singleton];omega⟩⟩)
  (λb hI=>by
    have hg:cmp .leq ((List.range 8).length:Int) 7=false:=rfl;simp only[Dn,Tr.val,Tr.ob,hg];exact⟨by simp,_,rfl,b,rfl,by simpa using hI⟩)
 have a2:(En f).o=.x m':=k.v;have b2:(En f).ob:=k.t;simp only[Hn,Gn,Pu,Ou,XN,pcT,Tr.val,Tr.ob,da,a2];refine⟨by simp[h1,b2],?_⟩;cases mG f with
 |true=>exact hh
 |false=>exact Nat.zero_le _
theorem RX{b:List Int}(hb:Sc b){p m:Int}(hp:0<=p/\p<=500000)(hm:0<=m/\m<=100) :
  vu (b,p) m/\p<=(fj (b,p) m).2/\(fj (b,p) m).2<=p+1+3*m/\((fj (b,p) m).1.length:Int)<=m:=by
 have h1:ar .add .i64 m 1=m+1:=Zb (by omega);obtain⟨a1,a2,a3,a4⟩:=Eb hb (p:=p) (n:=m+1) (by omega) (by omega);generalize hn:(ia (b,p) (m+1)).1=n at a3 a4;obtain⟨n0,rfl⟩ : ∃n0:Nat,n=(n0:Int):=⟨n.toNat,by omega⟩
 have key:∃q,Ea (λs:Int×(List Time)×Int=>ru b (p+1) (n0:Int) s.1 s.2.1 s.2.2) (p+1,[],(n0:Int)) q /\
   ∃p' out,q=.x (p',out)/\p+1<=p'/\p'<=p+1+3*n0/\out.length<=n0:=by
  refine la.down (λi (b:Int×List Time)=>(b.1,b.2,(i:Int))) (λi b=>p+1<=b.1/\b.1+3*i<=p+1+3*n0/\b.2.length+i<=n0) (n0:=n0) (b0:=(p+1,[])) rfl ⟨by simp,by simp,by simp⟩ ?_ ?_
  .rintro i ⟨q,out⟩ hi ⟨i1,i2,i3⟩;simp only[]at i1 i2 i3;have hg:cmp .gtr (((i+1:Nat):Int)) 0=true:=by rw[tc];simp
   have hs:ar .sub .i64 (((i+1:Nat):Int)) 1=(i:Int):=by rw[bf (by omega)];omega
   obtain⟨r1,r2⟩:=zt hb (p:=q) (by omega);have hh:∀y,lim (ba .time out) (ba .time [y]):=λy=>yb (t:=.time) (show out.length<1099511627776 by omega);simp only[ru,hg,hs,r2,Tr.val,Tr.ob,da];exact⟨by simp[r1,hh],(q+3,out++[(Jh (b,q)).1]),rfl,by simp only[];omega,by simp only[];omega,by simp;omega⟩
  .rintro⟨q,out⟩ ⟨i1,i2,i3⟩;have hg:cmp .gtr ((0:Nat):Int) 0=false:=rfl;simp only[ru,hg,Tr.val,Tr.ob];exact⟨by simp,_,rfl,q,out,rfl,i1,by simp at i2;omega,by simpa using i3⟩
 obtain⟨q,k1,p',out,rfl,k2,k3,k4⟩:=key;have a5:(tn b (p+1) (n0:Int)).o=.x (p',out):=k1.v;have b5:(tn b (p+1) (n0:Int)).ob:=k1.t;simp only[vu,fj,tu,MN,h1,a2,hn,a5,ocR,su,pcT,Tr.val,Tr.ob,da];exact⟨by simp[a1,b5],by omega,by omega,by omega⟩
theorem SX{b:List Int}(hb:Sc b){p:Int}(hp:0<=p/\p<=500000):Su (b,p)/\p<=(Qg (b,p)).2/\(Qg (b,p)).2<=p+13/\(Qg (b,p)).1.length<=64:=by
 obtain⟨a1,a2,a3,a4⟩:=RX hb hp (m:=4) (by omega);obtain⟨c1,c2⟩:=pN (fj (b,p) 4).1 (by omega);simp only[Su,Qg,Ru,Tr.val,Tr.ob,da,ocR];exact⟨by simp[a1,c1],a2,by omega,c2⟩
def Fb(f:List Time)(t:Time):Bool:=f.any (Rc · t)
theorem bag(f:List Time)(t:Time)(hl:f.length<1000000000):ZB f t/\YB f t=Fb f t:=by
 have k2:Ea (λs:Int=>VB t f (ba .time f) s) 0 (if ub (λ_ x=>Rc x t) none f=true then .x () else .r true):=by
  refine la.scan f _ (λl x r hx=>?_) ?_
  .obtain⟨hlen,hk,hi,hj⟩:=Qa (t:=.time) hx;simp only[VB,Tr.val,Tr.ob,da,hj,hk,Ia (l:=l) (by omega),xM];refine⟨by simp[hi,FF],?_⟩;cases Rc x t<;>rfl
  .have hh:cmp .lss (f.length:Int) (ba .time f)=false:=Na (t:=.time);simp only[VB,Tr.val,Tr.ob,da,hh];exact⟨by simp,rfl⟩
 rw[ZF]at k2;have a2:(Yq t f (ba .time f)).o=_:=k2.v;have b2:(Yq t f (ba .time f)).ob:=k2.t;simp only[ZB,YB,XB,WB,QR,pcT,Tr.val,Tr.ob,a2];refine⟨by simp[b2],?_⟩;show ocR _=f.any (Rc · t);cases f.any (Rc · t)<;>rfl
theorem zS{f:List Time}(hf:Sd f=true){t:Time}(ht:za t=true)(hl:f.length<1000000000):Nk f t/\Mk f t=Fb f t:=by
 obtain⟨c1,c2⟩:=JX f t hl;refine⟨c1,?_⟩;rw[c2,hf,Bool.true_and];have hm:=YF hf;unfold Fb;rw[Bool.eq_iff_iff,List.any_eq_true,List.any_eq_true];constructor
 .rintro⟨s,hs,h⟩;simp only[cj,Bool.and_eq_true]at h;exact⟨s,hs,h.2⟩
 .rintro⟨s,hs,h⟩;refine⟨s,hs,?_⟩;simp only[cj,Bool.and_eq_true];exact⟨⟨hm s hs,ht⟩,h⟩
def Wa(f:List Time)(a:List Row):List Row:=a.filter λx=>!Fb f x.At
theorem El(f:List Time)(a:List Row):(Wa f a).length<=a.length:=List.length_filter_le _ _
theorem cag(a:List Row)(f:List Time)(ha:a.length<1000000000)(hf:f.length<1000000000):gC a f/\fC a f=Wa f a:=by
 have k2:Ea (λs:LR×Int=>cC f a (ba .row a) s.1 s.2) ([],0) (.x (Wa f a)):=by
  refine la.fold a (λi b=>(b,(i:Int))) (λl=>Wa f l) rfl (λl x r hx=>?_) ?_
  .obtain⟨hlen,hm,hi,hk⟩:=Qa (t:=.row) hx;obtain⟨b1,b2⟩:=bag f x.At hf;have hj:∀w,lim (ba .row (Wa f l)) (ba .row [w]):=λw=>yb (t:=.row) (show(Wa f l).length<1099511627776 by have:=El f l;omega)
   have hl:Wa f (l++[x])=if Fb f x.At=true then Wa f l else Wa f l++[x]:=by
    unfold Wa;rw[List.filter_append];cases h:Fb f x.At<;>simp[h]
   have e:(aC f (Wa f l) a (ba .row a) l.length).ob/\(aC f (Wa f l) a (ba .row a) l.length).val=.n (Wa f (l++[x])):=by
    simp only[aC,Tr.val,Tr.ob,da,hm,b2];refine⟨by simp[hi,b1,hj],?_⟩;rw[hl];cases Fb f x.At<;>rfl
   obtain⟨e1,e2⟩:=e;simp only[cC,bC,pcT,Tr.val,Tr.ob,hk,e2,Ia (l:=l) (by omega)];exact⟨by simp[e1],rfl⟩
  .have hh:cmp .lss (a.length:Int) (ba .row a)=false:=Na (t:=.row);simp only[cC,Tr.val,Tr.ob,hh];exact⟨by simp,rfl⟩
 have a2:(br f a (ba .row a)).o=_:=k2.v;have b2:(br f a (ba .row a)).ob:=k2.t;simp only[gC,fC,eC,dC,TR,pcT,Tr.val,Tr.ob,a2];exact⟨by simp[b2],rfl⟩
theorem uI{a:List Row}{f:List Time}(hf:Sd f=true)(h:∀x∈a,za x.At=true)(ha:a.length<1000000000)(hl:f.length<1000000000):Rk a f/\Qk a f=Wa f a:=by
 have k2:Ea (λs:LR×Int=>dy a f s.1 s.2) ([],0) (.x (Wa f a)):=by
  refine la.fold a (λi b=>(b,(i:Int))) (λl=>Wa f l) rfl (λl x r hx=>?_) ?_
  .obtain⟨hlen,hn,hi,hk⟩:=Qa (t:=.row) hx;obtain⟨b1,b2⟩:=zS hf (h x (by rw[hx];simp)) hl;have hj:∀w,lim (ba .row (Wa f l)) (ba .row [w]):=λw=>yb (t:=.row) (show(Wa f l).length<1099511627776 by have:=El f l;omega)
   have hm:Wa f (l++[x])=if Fb f x.At=true then Wa f l else Wa f l++[x]:=by
    unfold Wa;rw[List.filter_append];cases h:Fb f x.At<;>simp[h]
   have e:(ay a f (Wa f l) l.length).ob/\(ay a f (Wa f l) l.length).val=.n (Wa f (l++[x])):=by
    simp only[ay,Tr.val,Tr.ob,da,hn,b2];refine⟨by simp[hi,b1,hj],?_⟩;rw[hm];cases Fb f x.At<;>rfl
   obtain⟨e1,e2⟩:=e;simp only[dy,cy,pcT,Tr.val,Tr.ob,hk,e2,Ia (l:=l) (by omega)];exact⟨by simp[e1],rfl⟩
  .have hh:cmp .lss (a.length:Int) (ba .row a)=false:=Na (t:=.row);simp only[dy,Tr.val,Tr.ob,hh];exact⟨by simp,rfl⟩
 have a2:(np a f).o=_:=k2.v;have b2:(np a f).ob:=k2.t;simp only[Rk,Qk,fy,ey,PP,pcT,Tr.val,Tr.ob,a2];exact⟨by simp[b2],rfl⟩
theorem sC(x y:Row):(cmp .eql x.Key y.Key&&(cmp .eql x.Val y.Val&&(cmp .eql x.At.A y.At.A&&(cmp .eql x.At.B y.At.B&&(cmp .eql x.Diff y.Diff&&true)))))=true↔x=y:=by
 rw[xb,xb,xb,xb,xb];simp only[Bool.and_eq_true,decide_eq_true_eq,and_true];constructor
 .rintro⟨h1,h2,h3,h4,h5⟩;exact DW h1 h2 h3 h4 h5
 .rintro rfl;exact⟨rfl,rfl,rfl,rfl,rfl⟩
theorem la.two{ρ α:Type}[Inhabited ρ]{step:Int->Lp Int ρ}{ob:Int->Prop}{a b:List α}(hlen:a.length=b.length){no yes:ρ}
  (hgo:∀(i:Nat) (x y:α),a[i]? = some x->b[i]? = some y->ob (i:Int)/\((x=y/\step (i:Int)=.go (((i+1:Nat)):Int))\/(x≠y/\step (i:Int)=.out no))) (hend:ob (a.length:Int)/\step (a.length:Int)=.out yes) :
  ∃q,la step ob 0 q/\((q=yes/\a=b)\/(q=no/\a≠b)):=by
 have hz:(a.zip b).length=a.length:=by rw[List.length_zip];omega
 refine la.list (a.zip b) (λi (_:Unit)=>(i:Int)) (λl _=>a.take l.length=b.take l.length) (b0:=()) rfl rfl ?_ ?_
 .rintro l ⟨u,v⟩ r ⟨⟩ hx hI;have hg:(a.zip b)[l.length]? = some (u,v):=by rw[hx];simp
  rw[List.getElem?_zip_eq_some]at hg;obtain⟨h1,h2⟩:=hgo l.length u v hg.1 hg.2;refine⟨h1,?_⟩;rcases h2 with⟨rfl,h2⟩|⟨hh,h2⟩
  .exact .inl ⟨(),h2,by rw[List.length_append,List.length_singleton,List.take_add_one,List.take_add_one,hI,hg.1,hg.2]⟩
  .refine .inr ⟨no,h2,.inr ⟨rfl,λhab=>hh ?_⟩⟩;have:=hg.1;rw[hab,hg.2]at this;exact(Option.some.inj this).symm
 .rintro⟨⟩ hI;rw[hz,List.take_length,hlen,List.take_length]at hI;rw[hz];exact⟨hend.1,yes,hend.2,.inl ⟨rfl,hI⟩⟩
theorem tC{t:Ty}{a:List t.T}{i:Nat}{x:t.T}(h:a[i]? = some x):rd t a (i:Int)=x/\inb (i:Int) (ba t a):=by
 have hh:=(List.getElem?_eq_some_iff.1 h).1;refine⟨?_,by unfold inb ba;omega⟩;unfold rd;rw[Int.toNat_natCast,List.getD_eq_getElem?_getD,h];rfl
theorem dag(a b:List Row)(hl:a.length<1000000000):Cl a b/\(Bl a b=true↔a=b):=by
 by_cases hlen:a.length=b.length
 .obtain⟨q,h1,h2⟩:=la.two (step:=λs:Int=>ka (ir a b (ba .row a) s).val) (ob:=λs=>(ir a b (ba .row a) s).ob) hlen (no:=.r false) (yes:=.x ())
   (λi x y hx hy=>by
     obtain⟨u1,u2⟩:=tC (t:=.row) hx;obtain⟨v1,v2⟩:=tC (t:=.row) hy;have hj:=(List.getElem?_eq_some_iff.1 hx).1;have hi:cmp .lss (i:Int) (ba .row a)=true:=by rw[Yb];unfold ba;simp;omega
     have hs:ar .add .i64 (i:Int) 1=((i+1:Nat):Int):=by rw[Zb (by omega)];omega
     simp only[ir,Tr.val,Tr.ob,da,hi,u1,v1,hs];refine⟨by simp[u2,v2],?_⟩;by_cases he:x=y
     .rw[(sC x y).2 he];exact .inl ⟨he,rfl⟩
     .rw[show(cmp .eql x.Key y.Key&&(cmp .eql x.Val y.Val&&(cmp .eql x.At.A y.At.A&&(cmp .eql x.At.B y.At.B&&(cmp .eql x.Diff y.Diff&&true)))))=false by rw[<-Bool.not_eq_true,sC];exact he];exact .inr ⟨he,rfl⟩)
   (by
     have hh:cmp .lss (a.length:Int) (ba .row a)=false:=Na (t:=.row);simp only[ir,Tr.val,Tr.ob,da,hh];exact⟨by simp,rfl⟩)
  have b2:(yl a b (ba .row a)).ob:=h1.t
  have hn:cmp .neq (ba .row a) (ba .row b)=false:=by
   show cmp .neq (a.length:Int) (b.length:Int)=false;rw[De,hlen];simp
  rcases h2 with⟨rfl,h2⟩|⟨rfl,h2⟩
  .have a2:(yl a b (ba .row a)).o=.x ():=h1.v;simp only[Cl,Bl,Al,oI,hn,a2,ocR,zl,pcT,Tr.val,Tr.ob];exact⟨by simp[b2],λ_=>h2,λ_=>trivial⟩
  .have a2:(yl a b (ba .row a)).o=.r false:=h1.v;simp only[Cl,Bl,Al,oI,hn,a2,ocR,zl,pcT,Tr.val,Tr.ob];exact⟨by simp[b2],(λh=>by cases h),λh=>absurd h h2⟩
 .have hn:cmp .neq (ba .row a) (ba .row b)=true:=by
   show cmp .neq (a.length:Int) (b.length:Int)=true;rw[De];simp;omega
  simp only[Cl,Bl,Al,hn,ocR,zl,pcT,Tr.val,Tr.ob];exact⟨by simp,(λh=>by cases h),λh=>absurd (by rw[h]) hlen⟩
theorem eag(a b:List Row)(hl:a.length<1000000000):Yk a b/\(Xk a b=true↔a=b):=by
 by_cases hlen:a.length=b.length
 .obtain⟨q,h1,h2⟩:=la.two (step:=λs:Int=>ka (vp a b s).val) (ob:=λs=>(vp a b s).ob) hlen (no:=.r false) (yes:=.x ())
   (λi x y hx hy=>by
     obtain⟨u1,u2⟩:=tC (t:=.row) hx;obtain⟨v1,v2⟩:=tC (t:=.row) hy;have hj:=(List.getElem?_eq_some_iff.1 hx).1;have hi:cmp .lss (i:Int) (ba .row a)=true:=by rw[Yb];unfold ba;simp;omega
     have hs:ar .add .i64 (i:Int) 1=((i+1:Nat):Int):=by rw[Zb (by omega)];omega
     simp only[vp,Tr.val,Tr.ob,da,hi,u1,v1,hs];refine⟨by simp[u2,v2],?_⟩;by_cases he:x=y
     .rw[(sC x y).2 he];exact .inl ⟨he,rfl⟩
     .rw[show(cmp .eql x.Key y.Key&&(cmp .eql x.Val y.Val&&(cmp .eql x.At.A y.At.A&&(cmp .eql x.At.B y.At.B&&(cmp .eql x.Diff y.Diff&&true)))))=false by rw[<-Bool.not_eq_true,sC];exact he];exact .inr ⟨he,rfl⟩)
   (by
     have hh:cmp .lss (a.length:Int) (ba .row a)=false:=Na (t:=.row);simp only[vp,Tr.val,Tr.ob,da,hh];exact⟨by simp,rfl⟩)
  have b2:(Sk a b).ob:=h1.t
  have hn:cmp .neq (ba .row a) (ba .row b)=false:=by
   show cmp .neq (a.length:Int) (b.length:Int)=false;rw[De,hlen];simp
  rcases h2 with⟨rfl,h2⟩|⟨rfl,h2⟩
  .have a2:(Sk a b).o=.x ():=h1.v;simp only[Yk,Xk,Vk,cH,hn,a2,ocR,Uk,pcT,Tr.val,Tr.ob];exact⟨by simp[b2],λ_=>h2,λ_=>trivial⟩
  .have a2:(Sk a b).o=.r false:=h1.v;simp only[Yk,Xk,Vk,cH,hn,a2,ocR,Uk,pcT,Tr.val,Tr.ob];exact⟨by simp[b2],(λh=>by cases h),λh=>absurd h h2⟩
 .have hn:cmp .neq (ba .row a) (ba .row b)=true:=by
   show cmp .neq (a.length:Int) (b.length:Int)=true;rw[De];simp;omega
  simp only[Yk,Xk,Vk,hn,ocR,Uk,pcT,Tr.val,Tr.ob];exact⟨by simp,(λh=>by cases h),λh=>absurd (by rw[h]) hlen⟩
structure Sm(s:Sess):Prop where
 ins:s.Ins.length<=1000
 each:∀a∈s.Ins,a.length<=1000
 front:s.Front.length<=1000
 told:s.Told.length<=1000
structure OkS(s:Sess)(x:List Row):Prop where
 front:Sd s.Front=true
 flow:Pe s.Plan s.Ins=some x
 told:s.Told=Wa s.Front x
theorem Fl(s:Sess):Sess.mk (Plan.mk s.Plan.Kind s.Plan.Num s.Plan.Kids) s.Ins s.Front s.Told=s:=by
 obtain⟨⟨a,b,c⟩,d,e,f⟩:=s;rfl
theorem fag{s:Sess}(hs:Sm s):mC s/\(lC s=true↔∃x,OkS s x):=by
 have h1:=hs.ins;have h2:=hs.each;have h3:=hs.front;have h4:=hs.told;obtain⟨f1,f2⟩:=IX s.Front (by omega);obtain⟨g1,g2⟩:=xX s.Plan s.Ins (by omega) (λa ha=>by have:=h2 a ha;omega);simp only[mC,lC,jC,Tr.val,Tr.ob,da,od,f2,g2];cases hfo:Sd s.Front with
 |false=>exact⟨by simp[f1],(λh=>by cases h),λ⟨x,h⟩=>by have:=h.front;rw[hfo]at this;cases this⟩
 |true=>
  cases hF:Pe s.Plan s.Ins with
  |none=>exact⟨by simp[f1,g1,uc],(λh=>by cases h),λ⟨x,h⟩=>by have:=h.flow;rw[hF]at this;cases this⟩
  |some x=>
   have hx:=(Vm hF).short;obtain⟨c1,c2⟩:=cag x s.Front (by omega) (by omega);obtain⟨r1,r2⟩:=dag s.Told (Wa s.Front x) (by omega);simp only[uc,c2];refine⟨by simp[f1,g1,c1,r1],λh=>⟨x,hfo,hF,r2.1 h⟩,λ⟨y,h⟩=>?_⟩;have hy:=h.flow;rw[hF]at hy;cases hy;exact r2.2 h.told
theorem gag{s:Sess}(hs:Sm s):Xh s/\(Wh s=true↔∃x,OkS s x):=by
 have h1:=hs.ins;have h2:=hs.each;have h3:=hs.front;have h4:=hs.told;obtain⟨f1,f2⟩:=vk s.Front (by omega);obtain⟨g1,g2⟩:=lN s.Plan s.Ins (by omega) (λa ha=>by have:=h2 a ha;omega);simp only[Xh,Wh,jy,Tr.val,Tr.ob,da,od,f2,g2];cases hfo:Sd s.Front with
 |false=>exact⟨by simp[f1],(λh=>by cases h),λ⟨x,h⟩=>by have:=h.front;rw[hfo]at this;cases this⟩
 |true=>
  cases hF:Pe s.Plan s.Ins with
  |none=>exact⟨by simp[f1,g1,uc],(λh=>by cases h),λ⟨x,h⟩=>by have:=h.flow;rw[hF]at this;cases this⟩
  |some x=>
   have hi:=Vm hF;have hx:=hi.short;obtain⟨c1,c2⟩:=uI hfo (λz hz=>Lf ((bb (je hi.batch)).2 z hz)) (by omega) (by omega);have hh:=El s.Front x;obtain⟨r1,r2⟩:=eag (Wa s.Front x) s.Told (by omega);simp only[uc,c2];refine⟨by simp[f1,g1,c1,r1],λh=>⟨x,hfo,hF,(r2.1 h).symm⟩,λ⟨y,h⟩=>?_⟩;have hy:=h.flow;rw[hF]at hy;cases hy;exact r2.2 h.told.symm
open Classical in
noncomputable def fd(s:Sess):Bool:=decide (∃x,OkS s x)
theorem Bah{s:Sess}(hs:Sm s):mC s/\lC s=fd s:=by
 obtain⟨h1,h2⟩:=fag hs;refine⟨h1,?_⟩;rw[Bool.eq_iff_iff,h2];unfold fd;simp
theorem vI{s:Sess}(hs:Sm s):Xh s/\Wh s=fd s:=by
 obtain⟨h1,h2⟩:=gag hs;refine⟨h1,?_⟩;rw[Bool.eq_iff_iff,h2];unfold fd;simp
theorem wI{s:Sess}:fd s=true↔∃x,OkS s x:=by unfold fd;simp
theorem iag:∀(d n:Nat),d<=n->∀p:Plan,okM d p=true->(Ad n).2 p/\(Ad n).1 p=p:=by
 intro d
 induction d with
 |zero=>intro n _ p h;cases h
 |succ d ih=>
  intro n hn p hp;obtain⟨m,rfl⟩ : ∃m,n=m+1:=⟨n - 1,by omega⟩;obtain⟨hlen,hk⟩:=UF hp
  have k:Ea (λs:LP×Int=>fu (Ad m).1 (Ad m).2 p.Kind p.Num p.Kids s.1 s.2) ([],0) (.x p.Kids):=by
   refine la.fold p.Kids (λi b=>(b,(i:Int))) (λl=>l) rfl (λl x r hx=>?_) ?_
   .obtain⟨hlen2,hm,hi,hl⟩:=Qa (t:=.plan) hx;obtain⟨i1,i2⟩:=ih m (by omega) x (hk x (by rw[hx];simp));have hj:∀y,lim (ba .plan l) (ba .plan [y]):=λy=>yb (t:=.plan) (show l.length<1099511627776 by omega);simp only[fu,Tr.val,Tr.ob,da,hl,hm,od,i2,Ia (l:=l) (by omega)];exact⟨by simp[hi,i1,hj],rfl⟩
   .have hh:cmp .lss (p.Kids.length:Int) (ba .plan p.Kids)=false:=Na (t:=.plan);simp only[fu,Tr.val,Tr.ob,da,hh];exact⟨by simp,rfl⟩
  have a2:(ln (Ad m).1 (Ad m).2 p.Kind p.Num p.Kids).o=.x p.Kids:=k.v;have b2:(ln (Ad m).1 (Ad m).2 p.Kind p.Num p.Kids).ob:=k.t;simp only[Ad,xk,gu,GN,pcT,Tr.val,Tr.ob,a2,ocR,od];exact⟨by simp[b2],trivial⟩
theorem AS{p:Plan}(h:okM 4 p=true):iu p/\me p=p:=iag 4 gc (by decide) p h
theorem BS{s:Sess}(hs:Sm s)(hp:okM 4 s.Plan=true):Qf s/\Zc s=s:=by
 have h1:=hs.ins;have h2:=hs.each;have h3:=hs.front;have h4:=hs.told;obtain⟨c1,c2⟩:=AS hp;have hn:∀ {t:Ty}{a:List t.T},a.length<=1000->lim (ba t []) (ba t a):=λh=>by unfold lim ba;simp;omega
 have k:Ea (λx:List LR×Int=>zp s.Plan.Kind s.Plan.Num s.Plan.Kids s.Ins s.Front s.Told s.Plan.Kind s.Plan.Num s.Plan.Kids ([]++s.Front) ([]++s.Told) x.1 x.2) ([],0) (.x s.Ins):=by
  refine la.fold s.Ins (λi b=>(b,(i:Int))) (λl=>l) rfl (λl x r hx=>?_) ?_
  .obtain⟨hlen,hm,hi,hl⟩:=Qa (t:=.lrow) hx;have hk:∀w,lim (ba .lrow l) (ba .lrow [w]):=λw=>yb (t:=.lrow) (show l.length<1099511627776 by omega);have hj:lim (ba .row []) (ba .row x):=hn (t:=.row) (h2 x (by rw[hx];simp));simp only[zp,yp,ny,pcT,Tr.val,Tr.ob,da,hl,hm,Ia (l:=l) (by omega)];exact⟨by simp only[List.nil_append];simp[hi,hj,hk],rfl⟩
  .have hh:cmp .lss (s.Ins.length:Int) (ba .lrow s.Ins)=false:=Na (t:=.lrow);simp only[zp,Tr.val,Tr.ob,hh];exact⟨by simp,rfl⟩
 have a2:(al s.Plan.Kind s.Plan.Num s.Plan.Kids s.Ins s.Front s.Told s.Plan.Kind s.Plan.Num s.Plan.Kids ([]++s.Front) ([]++s.Told)).o=.x s.Ins:=k.v;have b2:(al s.Plan.Kind s.Plan.Num s.Plan.Kids s.Ins s.Front s.Told s.Plan.Kind s.Plan.Num s.Plan.Kids ([]++s.Front) ([]++s.Told)).ob:=k.t;simp only[Qf,Zc,cl,xp,my,Ap,qy,pcT,Tr.val,Tr.ob,da,od,c2,a2,ocR];have l1:=hn (t:=.time) h3;have l2:=hn (t:=.row) h4;refine⟨⟨⟨⟨c1,l1,l2,trivial⟩,trivial⟩,λq hq=>?_,by simp⟩,?_⟩
 .cases hq;exact⟨⟨b2,by simp⟩,by simp⟩
 .simp only[List.nil_append]
def mr:Sess:=⟨⟨0,0,[]⟩,[],[],[]⟩
def xI:Option Sess->Sess×Bool×Unit
 |some s=>(s,true,())
 |none=>(mr,false,())
def setIn(s:Sess)(i:Int)(both:List Row):Sess:=⟨s.Plan,s.Ins.set i.toNat both,s.Front,s.Told⟩
noncomputable def inS(s:Sess)(i:Int)(rows:List Row):Option Sess:=cond (fd s&&(decide (0<=i/\i<2)&&(Ca rows&&rows.all λx=>Fb s.Front x.At)))
  (cond (Ca (Ka (rd .lrow s.Ins i++rows))&&fd (setIn s i (Ka (rd .lrow s.Ins i++rows)))) (some (setIn s i (Ka (rd .lrow s.Ins i++rows)))) none) none
structure OkI(s:Sess)(i:Int)(rows:List Row):Prop where
 plan:okM 4 s.Plan=true
 len:s.Ins.length=2
 each:∀a∈s.Ins,Ca a=true
 front:Sd s.Front=true
 at':rd .lrow s.Ins i∈s.Ins
 inb:inb i (ba .lrow s.Ins)
theorem jag{s:Sess}{i:Int}{rows:List Row}(h:fd s=true)(hi:0<=i/\i<2):OkI s i rows:=by
 obtain⟨x,hx⟩:=wI.1 h;have hf:=Vm hx.flow;have hh:i.toNat<s.Ins.length:=by rw[hf.len];omega
 refine⟨hf.ok,hf.len,hf.every,hx.front,?_,by unfold Go.Proofs.YtiiidenbemkihaaGreat.inb ba;rw[hf.len];omega⟩;unfold rd;rw[List.getD_eq_getElem?_getD,List.getElem?_eq_getElem hh];exact List.getElem_mem hh
theorem kag{a b:List Row}(ha:Gb a=true)(hb:Gb b=true):(∀x∈a++b,InR x.Diff)/\(Ka (a++b)).length<=800:=by
 obtain⟨l1,m1⟩:=bb ha;obtain⟨l2,m2⟩:=bb hb;have hi:∀x∈a++b,InR x.Diff:=λx hx=>Oe ((List.mem_append.1 hx).elim (m1 x) (m2 x));have:=ek hi;rw[List.length_append]at this;exact⟨hi,by omega⟩
theorem Sm.setIn{s:Sess}(hs:Sm s)(i:Int){b:List Row}(hb:b.length<=1000):Sm (setIn s i b):=by
 refine⟨by unfold Go.Proofs.YtiiidenbemkihaaGreat.setIn;rw[List.length_set];exact hs.ins,λa ha=>?_,hs.front,hs.told⟩;rcases List.mem_or_eq_of_mem_set ha with h|rfl
 .exact hs.each a h
 .exact hb
theorem lag{s:Sess}(hs:Sm s)(i:Int){rows:List Row}(hr:rows.length<=1000):Wy s i rows/\vg s i rows=xI (inS s i rows):=by
 have h1:=hs.ins;have h2:=hs.each;have h3:=hs.front;have h4:=hs.told;obtain⟨o1,o2⟩:=vI hs;obtain⟨b1,b2⟩:=Pm rows (by omega);have li:xd i 0 1=decide (0<=i/\i<2):=by rw[jk,Bool.eq_iff_iff];simp;omega
 have lp:=ik i 0 1;simp only[Wy,vg,Vy,Sy,nH,Uy,oH,pcT,Tr.val,Tr.ob,da,Fl,o2,b2,li,inS];cases hok:fd s with
 |false=>exact⟨by simp[o1],rfl⟩
 |true=>
  by_cases hi:0<=i/\i<2
  .have hj:decide (0<=i/\i<2)=true:=by simp[hi]
   have k:=jag (rows:=rows) hok hi;cases hb:Ca rows with
   |false=>exact⟨by simp[o1,lp,b1,hi],by rw[hj];rfl⟩
   |true=>
    have hl:=je hb;obtain⟨l1,l2⟩:=uI k.front (λz hz=>Lf ((bb hl).2 z hz)) (by omega) (by omega);obtain⟨c1,c2⟩:=BS hs k.plan;have hk:=je (k.each _ k.at');obtain⟨bi,bl⟩:=kag hk hl;obtain⟨s1,s2⟩:=Mg (rd .lrow s.Ins i++rows) (by rw[List.length_append];have:=(bb hk).1;omega) bi;obtain⟨v1,v2⟩:=Pm (Ka (rd .lrow s.Ins i++rows)) (by omega);obtain⟨w1,w2⟩:=vI (hs.setIn i (b:=Ka (rd .lrow s.Ins i++rows)) (by omega));have hm:lim (ba .row []) (ba .row (rd .lrow s.Ins i)):=by unfold lim ba;have:=(bb hk).1;simp;omega
    have hn:lim (ba .row (rd .lrow s.Ins i)) (ba .row rows):=by unfold lim ba;have:=(bb hk).1;omega
    have ho:Xh (Sess.mk (Plan.mk s.Plan.Kind s.Plan.Num s.Plan.Kids) (List.set s.Ins (Int.toNat i) (Ka (rd .lrow s.Ins i++rows))) s.Front s.Told):=w1;have hp:Wh (Sess.mk (Plan.mk s.Plan.Kind s.Plan.Num s.Plan.Kids) (List.set s.Ins (Int.toNat i) (Ka (rd .lrow s.Ins i++rows))) s.Front s.Told)=fd (setIn s i (Ka (rd .lrow s.Ins i++rows))):=w2
    have hh:cmp .gtr (ba .row (Wa s.Front rows)) 0=!(rows.all λx=>Fb s.Front x.At):=by
     rw[tc,Bool.eq_iff_iff];simp only[decide_eq_true_eq,Bool.not_eq_true',<-Bool.not_eq_true,List.all_eq_true];unfold ba Wa;constructor
     .intro h1 h2;rw[List.filter_eq_nil_iff.2 (λx hx=>by simp[h2 x hx])]at h1;simp at h1
     .intro h1;cases he:rows.filter λx=>!Fb s.Front x.At with
      |nil=>
       refine absurd (λx hx=>?_) h1;have:=List.filter_eq_nil_iff.1 he x hx;simpa using this
      |cons a r=>simp only[List.length_cons];omega
    simp only[l2,c2,s2,v2,hp,hh,hj,List.nil_append];cases (rows.all λx=>Fb s.Front x.At) with
    |false=>exact⟨by simp[o1,lp,b1,l1],rfl⟩
    |true=>
     cases Ca (Ka (rd .lrow s.Ins i++rows)) with
     |false=>exact⟨by simp[o1,lp,b1,l1,c1,k.inb,hm,hn,s1,v1,s2,ho],rfl⟩
     |true=>
      cases hw:fd (setIn s i (Ka (rd .lrow s.Ins i++rows))) with
      |false=>exact⟨by simp[o1,lp,b1,l1,c1,k.inb,hm,hn,s1,v1,s2,ho],by simp[ocR,xI,mr]⟩
      |true=>exact⟨by simp[o1,lp,b1,l1,c1,k.inb,hm,hn,s1,v1,s2,ho],by simp[ocR,xI,setIn,od]⟩
  .have hj:decide (0<=i/\i<2)=false:=by simpa using hi
   rw[hj];exact⟨by simp[o1,lp],rfl⟩
def mi(s:Sess):List Row:=(Pe s.Plan s.Ins).getD []
theorem OkS.all{s:Sess}{x:List Row}(h:OkS s x):mi s=x:=by unfold mi;rw[h.flow];rfl
noncomputable def yI(s:Sess)(f:List Time):Bool:=fd s&&(Sd f&&f.all λt=>Fb s.Front t)
def zI(s:Sess)(f:List Time):List Row:=(Wa f (mi s)).filter λx=>Fb s.Front x.At
def onS(s:Sess)(f:List Time):Sess:=⟨s.Plan,s.Ins,f,Wa f (mi s)⟩
noncomputable def onV(s:Sess)(f:List Time):Sess×List Row×Bool×Unit:=cond (yI s f) (onS s f,zI s f,true,()) (mr,[],false,())
theorem mag{s t u:Time}(h:Rc s t=true)(k:Rc t u=true):Rc s u=true:=by
 simp only[Rc,Bool.and_eq_true,decide_eq_true_eq]at h k⊢;omega
theorem nag{f g:List Time}(h:(f.all λt=>Fb g t)=true){t:Time}(k:Fb f t=true):Fb g t=true:=by
 unfold Fb at k⊢;rw[List.any_eq_true]at k⊢;obtain⟨u,hu,hk⟩:=k;have:=List.all_eq_true.1 h u hu;unfold Fb at this;rw[List.any_eq_true]at this;obtain⟨v,hv,hw⟩:=this;exact⟨v,hv,mag hw hk⟩
theorem oag{x:List Row}(k:List Int):Eqm (sumT (chR (Va x)) k) (-sumT (chR x) k):=by
 induction x with
 |nil=>exact Eqm.refl _
 |cons y r ih=>
  show Eqm ((if rK (og y)=k then(og y).Diff else 0)+sumT (chR (Va r)) k) (-((if rK y=k then y.Diff else 0)+sumT (chR r) k));have e:rK (og y)=rK y:=rfl;rw[e];by_cases hk:rK y=k
  .rw[if_pos hk,if_pos hk];exact(Eqm.add (oM (n:=y.Diff)) ih).trans (Eqm.of (by omega))
  .rw[if_neg hk,if_neg hk];exact(Eqm.add (Eqm.refl 0) ih).trans (Eqm.of (by omega))
theorem ES(p:Row->Bool)(k:List Int):∀x:List Row,sumT (chR (x.filter p)) k+sumT (chR (x.filter λz=>!p z)) k=sumT (chR x) k
 |[]=>rfl
 |y::r=>by
  have ih:=ES p k r;have e:∀l:List Row,sumT (chR (y::l)) k=(if rK y=k then y.Diff else 0)+sumT (chR l) k:=λl=>rfl;cases h:p y<;>simp only[List.filter_cons,h,if_true,Bool.not_true,Bool.not_false,Bool.false_eq_true,if_false,e]<;>omega
theorem pag{x y:List Row}(h:Ca x=true)(k:y.Sublist x):Ka y=y:=by
 obtain⟨h1,h2,h3⟩:=Tm h;exact JM (List.Pairwise.sublist k h1) λz hz=>⟨h2 z (k.subset hz),Oe (h3 z (k.subset hz))⟩
theorem qag{x y:List Row}(h:Ca x=true)(k:y.Sublist x):Ca y=true:=by
 obtain⟨h1,h2,h3⟩:=Tm h;have hl:=(bb (je h)).1;have:=k.length_le;unfold Ca;rw[HF y none (List.Pairwise.sublist k h1) (λz hz=>h2 z (k.subset hz)) (λz hz=>by cases hz),Bool.true_and];simp only[Gb,Bool.and_eq_true,decide_eq_true_eq,List.all_eq_true];exact⟨λz hz=>h3 z (k.subset hz),by omega⟩
theorem rag{f g:List Time}{x:List Row}(hb:Ca x=true)(h:(f.all λt=>Fb g t)=true) :
  Ka (Wa f x++Va (Wa g x))=(Wa f x).filter λz=>Fb g z.At:=by
 have hh:((Wa f x).filter λz=>Fb g z.At).Sublist x:=(List.filter_sublist).trans List.filter_sublist
 have e2:Wa g x=(Wa f x).filter λz=>!Fb g z.At:=by
  unfold Wa;rw[List.filter_filter];refine List.filter_congr λz _=>?_;cases hk:Fb f z.At with
  |false=>simp
  |true=>rw[nag h hk];rfl
 rw[<-pag hb hh];refine aW λk=>?_;rw[gW];refine(Eqm.add (Eqm.refl _) (oag k)).trans (Eqm.of ?_);rw[e2];have:=ES (λz=>Fb g z.At) k (Wa f x);omega
theorem sag{s:Sess}(hs:Sm s){f:List Time}(hf:f.length<=1000):zy s f/\tg s f=onV s f:=by
 have h1:=hs.ins;have h2:=hs.each;have h3:=hs.front;have h4:=hs.told;obtain⟨o1,o2⟩:=vI hs;obtain⟨q1,q2⟩:=vk f (by omega);obtain⟨g1,g2⟩:=lN s.Plan s.Ins (by omega) (λa ha=>by have:=h2 a ha;omega);simp only[zy,tg,xy,uy,aQ,wy,fH,pcT,Tr.val,Tr.ob,da,od,Fl,o2,q2,g2,onV,yI];cases hok:fd s with
 |false=>exact⟨by simp[o1],rfl⟩
 |true=>
  obtain⟨x,hx⟩:=wI.1 hok;cases hfo:Sd f with
  |false=>exact⟨by simp[o1,q1],rfl⟩
  |true=>
   have ho:=YF hfo
   have k2:Ea (λj:Int=>sy f s.Plan.Kind s.Plan.Num s.Plan.Kids s.Ins s.Front s.Told j) 0 (if ub (λ_ t=>!Fb s.Front t) none f=true then .x () else .r (mr,([],(false,())))):=by
    refine la.scan f _ (λl t r ht=>?_) ?_
    .obtain⟨hlen,hq,hm,hn⟩:=Qa (t:=.time) ht;obtain⟨y1,y2⟩:=zS hx.front (ho t (by rw[ht];simp)) (by omega);simp only[sy,Tr.val,Tr.ob,da,hn,hq,y2,Ia (l:=l) (by omega)];refine⟨by simp[hm,y1],?_⟩;cases Fb s.Front t<;>rfl
    .have hk:cmp .lss (f.length:Int) (ba .time f)=false:=Na (t:=.time);simp only[sy,Tr.val,Tr.ob,da,hk];exact⟨by simp,rfl⟩
   rw[Og]at k2;have a2:(Cp f s.Plan.Kind s.Plan.Num s.Plan.Kids s.Ins s.Front s.Told).o=_:=k2.v;have d2:(Cp f s.Plan.Kind s.Plan.Num s.Plan.Kids s.Ins s.Front s.Told).ob:=k2.t;have hl:=Vm hx.flow;have hu:=hl.short;obtain⟨c1,c2⟩:=BS hs hl.ok;have hr:=bb (je hl.batch);obtain⟨l1,l2⟩:=uI hfo (λz hz=>Lf (hr.2 z hz)) (by omega) (by omega);have hj:Ca s.Told=true:=by rw[hx.told];exact qag hl.batch List.filter_sublist
   obtain⟨n1,n2⟩:=QM hj;have hh:=El f x;have hp:(Va s.Told).length=s.Told.length:=by simp[Va]
   have hi:∀z∈Wa f x++Va s.Told,InR z.Diff:=λz hz=>by
    rcases List.mem_append.1 hz with hz|hz
    .exact Oe (hr.2 z ((List.mem_filter.1 hz).1))
    .exact XF _ z hz
   obtain⟨s1,s2⟩:=Mg (Wa f x++Va s.Told) (by rw[List.length_append];omega) hi;have hy:lim (ba .time []) (ba .time f):=by unfold lim ba;simp;omega
   have hv:lim (ba .row []) (ba .row (Wa f x)):=by unfold lim ba;simp;omega
   have hw:lim (ba .row (Wa f x)) (ba .row (Va s.Told)):=by unfold lim ba;omega
   simp only[a2,hx.flow,uc,c2,l2,n2,s2,List.nil_append];cases hall:(f.all λt=>Fb s.Front t) with
   |false=>exact⟨by simp[o1,q1,d2],rfl⟩
   |true=>
    have hg:=rag hl.batch hall;rw[<-hx.told]at hg;refine⟨by simp[o1,q1,d2,g1,c1,l1,n1,hy,hv,hw,s1],?_⟩;simp[ocR,onS,zI,hx.all,hg]
theorem Aj{d:Nat}{k n:Int}{l:List Plan}(h1:(l.length:Int)=(kd k).1/\(kd k).2.1<=n/\n<=(kd k).2.2)(h2:∀x∈l,okM d x=true):okM (d+1) ⟨k,n,l⟩=true:=by
 simp only[okM,Rd,Bool.and_eq_true,decide_eq_true_eq,List.all_eq_true];exact⟨h1,h2⟩
theorem tag{b:List Int}(hb:Sc b):∀(d n:Nat),d<n->d<=3->∀p:Int,0<=p/\p+Bd d<=500000->∀e,d<=e->1<=e->(d=0\/okM e ((xc n).1 (b,p) d).1=true):=by
 intro d
 induction d with
 |zero=>intro n _ _ p _ e _ _;exact .inl rfl
 |succ d ih=>
  intro n hn hd p hp e he hi;refine .inr ?_;obtain⟨m,rfl⟩ : ∃m,n=m+1:=⟨n - 1,by omega⟩;obtain⟨e,rfl⟩ : ∃m,e=m+1:=⟨e - 1,by omega⟩;have hh:=IF d;have hB:Bd (d+1)=2*Bd d+4:=rfl;have hl:cmp .lss ((d+1:Nat):Int) 2=decide (d=0):=by rw[Yb,Bool.eq_iff_iff];simp;omega
  have hk:ar .sub .i64 ((d+1:Nat):Int) 1=(d:Int):=by rw[bf (by omega)];omega
  obtain⟨x1,x2,_,_⟩:=Eb hb (p:=p) (n:=6) (by omega) (by omega);simp only[xc,Gh,Tr.val,hk,hl]
  have hP:p<=cond ((!(decide (d=0)))&&true) (ia (b,p) 6).2 p/\cond ((!(decide (d=0)))&&true) (ia (b,p) 6).2 p<=p+1:=by
   rw[x2];cases decide (d=0)<;>simp<;>omega
  generalize cond ((!(decide (d=0)))&&true) (ia (b,p) 6).2 p=P at hP⊢;obtain⟨y1,y2,y3,y4⟩:=Eb hb (p:=P) (n:=2) (by omega) (by omega);obtain⟨z1,z2,_,_⟩:=Eb hb (p:=P) (n:=6) (by omega) (by omega);obtain⟨u1,u2,u3,u4⟩:=Eb hb (p:=P+1) (n:=7) (by omega) (by omega);obtain⟨w1,w2,w3,w4⟩:=Eb hb (p:=P+1) (n:=3) (by omega) (by omega);by_cases hd0:d=0
  .subst hd0;simp only[decide_true,cond_true,ocR];exact Aj (by simp only[kd];simp;omega) (λx hx=>by cases hx)
  .have hj:∀q,0<=q/\q+Bd d<=500000->okM e ((xc m).1 (b,q) d).1=true/\q<=((xc m).1 (b,q) d).2/\((xc m).1 (b,q) d).2<=q+Bd d:=λq hq=>
    ⟨(ih m (by omega) (by omega) q hq e (by omega) (by omega)).resolve_left hd0,(BM hb d m (by omega) (by omega) q hq).2⟩
   obtain⟨r1,r2,r3⟩:=hj (P+1) (by omega);obtain⟨s1,s2,s3⟩:=hj (P+1+1) (by omega);obtain⟨t1,t2,t3⟩:=hj ((xc m).1 (b,P+1) d).2 (by omega);have hf:decide (d=0)=false:=by simpa using hd0
   have a6:ar .add .i64 1 (ia (b,P+1) 7).1=1+(ia (b,P+1) 7).1:=Zb (by omega);have a3:ar .add .i64 1 (ia (b,P+1) 3).1=1+(ia (b,P+1) 3).1:=Zb (by omega);simp only[hf,cond_false,z2,u2,w2,a6,a3,od];cases cmp .eql (ia (b,p) 6).1 0 with
   |true=>exact Aj (by simp only[kd];simp;omega) (λx hx=>by cases hx)
   |false=>
    cases cmp .eql (ia (b,P) 6).1 0 with
    |true=>exact Aj (by simp only[kd];simp;omega) (λx hx=>by simp only[List.mem_singleton]at hx;subst hx;exact s1)
    |false=>
     cases cmp .eql (ia (b,P) 6).1 1 with
     |true=>exact Aj (by simp[kd]) (λx hx=>by simp only[List.mem_cons,List.not_mem_nil,or_false]at hx;rcases hx with rfl|rfl;exact r1;exact t1)
     |false=>
      cases cmp .eql (ia (b,P) 6).1 2 with
      |true=>exact Aj (by simp[kd]) (λx hx=>by simp only[List.mem_singleton]at hx;subst hx;exact r1)
      |false=>
       cases cmp .eql (ia (b,P) 6).1 3 with
       |true=>exact Aj (by simp[kd]) (λx hx=>by simp only[List.mem_cons,List.not_mem_nil,or_false]at hx;rcases hx with rfl|rfl;exact r1;exact t1)
       |false=>exact Aj (by simp only[kd];simp;omega) (λx hx=>by simp only[List.mem_singleton]at hx;subst hx;exact s1)
theorem FS(s t:Time):Sg s t:=by
 simp only[Sg,Pn,Tr.ob,da];simp[ng]
theorem uag{f g:List Time}(hf:f.length<=1000)(hg:g.length<=1000):dv f g/\(cv f g).length<=64:=by
 obtain⟨f1,f2⟩:=vk f (by omega);obtain⟨g1,g2⟩:=vk g (by omega)
 have k4:∀(m:List Time) (i:Int),inb i (ba .time f)->m.length<=1000000->(Qn f g m i).ob/\∃q,(Qn f g m i).o=.x q/\q.length<=m.length+g.length:=by
  intro m i hi hm
  have k:∃q,Ea (λs:List Time×Int=>Wu f g m i s.1 s.2) (m,0) q/\∃q',q=.x q'/\q'.length<=m.length+g.length:=by
   refine la.list g (λi (b:List Time)=>(b,(i:Int))) (λl b=>b.length<=m.length+l.length) (b0:=m) rfl (by simp) ?_ ?_
   .intro l x r q hx hI;obtain⟨hlen,hp,hj,hl⟩:=Qa (t:=.time) hx;have hk:∀w,lim (ba .time q) (ba .time [w]):=λw=>yb (t:=.time) (show q.length<1099511627776 by omega);simp only[Wu,Tr.val,Tr.ob,da,hl,hp,Ia (l:=l) (by omega)];exact⟨by simp[hj,hi,hk,FS],.inl ⟨_,rfl,by simp;omega⟩⟩
   .intro q hI;have hh:cmp .lss (g.length:Int) (ba .time g)=false:=Na (t:=.time);simp only[Wu,Tr.val,Tr.ob,hh];exact⟨by simp,_,rfl,q,rfl,hI⟩
  obtain⟨_,k1,q,rfl,k2⟩:=k;exact⟨k1.t,q,k1.v,k2⟩
 have ho:∀n,n<=f.length->n*g.length<=1000000:=λn hn=>Nat.le_trans (Nat.mul_le_mul (Nat.le_trans hn hf) hg) (by decide)
 have k:∃q,Ea (λs:List Time×Int=>Yu f g s.1 s.2) ([],0) q/\∃q',q=.x q'/\q'.length<=1000000:=by
  refine la.list f (λi (b:List Time)=>(b,(i:Int))) (λl b=>b.length<=l.length*g.length) (b0:=[]) rfl (by simp) ?_ ?_
  .intro l x r q hx hI;obtain⟨hlen,_,hj,hl⟩:=Qa (t:=.time) hx;obtain⟨c1,q',c2,c3⟩:=k4 q l.length hj (by have:=ho l.length (by omega);omega);simp only[Yu,Xu,dO,pcT,Tr.val,Tr.ob,hl,c2,Ia (l:=l) (by omega)];exact⟨by simp[c1],.inl ⟨_,rfl,by rw[List.length_append,List.length_singleton,Nat.add_mul,Nat.one_mul];omega⟩⟩
  .intro q hI;have hh:cmp .lss (f.length:Int) (ba .time f)=false:=Na (t:=.time);simp only[Yu,Tr.val,Tr.ob,hh];exact⟨by simp,_,rfl,q,rfl,Nat.le_trans hI (ho _ (Nat.le_refl _))⟩
 obtain⟨_,k1,q,rfl,k2⟩:=k;have a2:(Rn f g).o=.x q:=k1.v;have b2:(Rn f g).ob:=k1.t;obtain⟨o1,o2⟩:=pN q (by omega);simp only[dv,cv,bv,Zu,fO,pcT,Tr.val,Tr.ob,da,a2];refine⟨by simp[f1,g1,b2,o1],?_⟩;cases mf f<;>cases mf g<;>first|exact o2|exact Nat.zero_le _
theorem vag{b:List Int}(hb:Sc b){p:Int}(hp:0<=p/\p<=400000){s:Sess}(hs:s.Front.length<=1000) :
  fv (b,p) s/\p<=(Ud (b,p) s).2/\(Ud (b,p) s).2<=p+14/\(Ud (b,p) s).1.length<=64:=by
 obtain⟨a1,a2,a3,a4⟩:=SX hb (p:=p) (by omega);obtain⟨c1,c2,_,_⟩:=Eb hb (p:=(Qg (b,p)).2) (n:=10) (by omega) (by omega);obtain⟨g1,g2⟩:=uag (f:=s.Front) (g:=(Qg (b,p)).1) hs (by omega);simp only[fv,Ud,ev,Tr.val,Tr.ob,da,c2];refine⟨by simp[a1,c1,g1],?_⟩;cases cmp .eql (ia (b,(Qg (b,p)).2) 10).1 0<;>simp only[ocR]<;>omega
theorem GS{xs:List Row}(hl:xs.length<=100)(hi:∀x∈xs,InR x.Diff):Ip xs/\(gl xs).length<=xs.length/\Ca (gl xs)=true:=by
 obtain⟨r1,r2⟩:=Om xs (by omega);obtain⟨s1,s2⟩:=Mg xs (by omega) hi;have hh:=vF hi;obtain⟨t1,t2⟩:=PM (Ka xs) (by omega);simp only[Ip,gl,Hy,Tr.val,Tr.ob,da,r2,s2,t2];refine⟨by simp[r1,s1,t1],?_⟩;have h0:Ca []=true:=rfl;cases Gb xs with
 |false=>exact⟨Nat.zero_le _,h0⟩
 |true=>
  show(if Ca (Ka xs)=true then Ka xs else []).length<=_/\Ca (if Ca (Ka xs)=true then Ka xs else [])=true;split
  .rename_i h;exact⟨hh,h⟩
  .exact⟨Nat.zero_le _,h0⟩
theorem wag{a:List Row}(h:Ca a=true):∀x∈a,InR x.Diff:=λx hx=>Oe ((Tm h).2.2 x hx)
theorem xag{b:List Int}(hb:Sc b){p m:Int}(hp:0<=p/\p<=500000)(hm:0<=m/\m<=8) :
  Ky (b,p) m/\p<=(Mb (b,p) m).2/\(Mb (b,p) m).2<=p+1+9*m/\(Mb (b,p) m).1.length<=8/\Ca (Mb (b,p) m).1=true:=by
 obtain⟨a1,a2,a3,a4,a5⟩:=rW hb hp (show 0<=m/\m<=100 by omega);obtain⟨c1,c2,c3⟩:=GS (xs:=(Zh (b,p) m).1) (by omega) (λx hx=>by have:=a5 x hx;unfold InR;omega);simp only[Ky,Mb,Jy,Tr.val,Tr.ob,da,ocR];exact⟨by simp[a1,c1],a2,a3,by omega,c3⟩
theorem yag{b:List Int}(hb:Sc b){p:Int}(hp:0<=p/\p<=400000){a:List Row}(ha:a.length<=8)(hi:∀x∈a,InR x.Diff){f:List Time}(hf:f.length<=1000) :
  Qy (b,p) a f/\p<=(Zd (b,p) a f).2/\(Zd (b,p) a f).2<=p+8/\(Zd (b,p) a f).1.length<=8/\Ca (Zd (b,p) a f).1=true:=by
 obtain⟨f1,f2⟩:=vk f (by omega)
 have k4:∀(q:Int) (m:List Row) (i:Int) (x:Row),0<=q/\q<=500000->(Jp b q a f m i x).ob/\∃q' u v,(Jp b q a f m i x).val=.n (q',u,v)/\q<=q'/\q'<=q+1:=by
  intro q m i x hq;by_cases hz:f.length=0
  .have hg:cmp .gtr (ba .time f) 0=false:=by rw[tc];unfold ba;rw[hz];rfl
   simp only[Jp,Tr.val,Tr.ob,da,hg];exact⟨by simp,_,_,_,rfl,by omega,by omega⟩
  .have hg:cmp .gtr (ba .time f) 0=true:=by rw[tc];unfold ba;simp;omega
   obtain⟨x1,x2,x3,x4⟩:=Eb hb (p:=q) (n:=ba .time f) (by omega) (by unfold ba;omega);have hj:inb (ia (b,q) (ba .time f)).1 (ba .time f):=⟨x3,x4⟩;simp only[Jp,Tr.val,Tr.ob,da,hg,f2];cases Sd f with
   |true=>exact⟨by simp[f1,x1,hj,FS],_,_,_,rfl,by omega,by omega⟩
   |false=>exact⟨by simp[f1],_,_,_,rfl,by omega,by omega⟩
 have k:∃q,Ea (λs:Int×LR×Int=>Ny b p a f s.1 s.2.1 s.2.2) (p,[],0) q/\∃p' q',q=.x (p',q')/\p<=p'/\p'<=p+a.length/\q'.length=a.length/\∀x∈q',InR x.Diff:=by
  refine la.list a (λi (b:Int×LR)=>(b.1,b.2,(i:Int))) (λl b=>p<=b.1/\b.1<=p+l.length/\b.2.length=l.length/\∀x∈b.2,InR x.Diff) (b0:=(p,[])) rfl ⟨by simp,by simp,rfl,λx hx=>by cases hx⟩ ?_ ?_
  .rintro l x r ⟨q,m⟩ hx ⟨i1,i2,i3,i4⟩;simp only[]at i1 i2 i3 i4;obtain⟨hlen,hm,hj,hl⟩:=Qa (t:=.row) hx;obtain⟨c1,q',u,v,c2,c3,c4⟩:=k4 q m l.length x (by omega);have hk:∀w,lim (ba .row m) (ba .row [w]):=λw=>yb (t:=.row) (show m.length<1099511627776 by omega);simp only[Ny,My,iQ,Ly,pcT,Tr.val,Tr.ob,da,hl,hm,c2,Ia (l:=l) (by omega)];refine⟨by simp[hj,c1,hk],.inl ⟨(q',_),rfl,by simp only[];omega,by simp only[List.length_append,List.length_singleton];omega,by simp[i3],λz hz=>?_⟩⟩;rcases List.mem_append.1 hz with hz|hz
   .exact i4 z hz
   .rw[List.mem_singleton]at hz;subst hz;exact hi x (by rw[hx];simp)
  .rintro⟨q,m⟩ ⟨i1,i2,i3,i4⟩;have hh:cmp .lss (a.length:Int) (ba .row a)=false:=Na (t:=.row);simp only[Ny,Tr.val,Tr.ob,hh];exact⟨by simp,_,rfl,q,m,rfl,i1,i2,i3,i4⟩
 obtain⟨_,k1,p',m,rfl,k2,k3,k5,k6⟩:=k;have a2:(Kp b p a f).o=.x (p',m):=k1.v;have b2:(Kp b p a f).ob:=k1.t;obtain⟨o1,o2,o3⟩:=GS (xs:=m) (by omega) k6;simp only[Qy,Zd,Py,Oy,kQ,pcT,Tr.val,Tr.ob,da,a2,ocR];exact⟨by simp[b2,o1],by omega,by omega,by omega,o3⟩
theorem zag{b:List Int}(hb:Sc b){p:Int}(hp:0<=p/\p<=700000):p<=(Qp (b,p)).2/\(Qp (b,p)).2<=p+5:=by
 obtain⟨a1,a2⟩:=zt hb (p:=p) (by omega);obtain⟨c1,c2,c3,c4⟩:=Eb hb (p:=p+3) (n:=16) (by omega) (by omega);obtain⟨d1,d2,d3,d4⟩:=Eb hb (p:=p+3+1) (n:=2) (by omega) (by omega)
 have k:∀x,∃q u v,(Mp b (p+3) x).val=.n (q,u,v)/\p+4<=q/\q<=p+5:=λx=>by
  simp only[Mp,Tr.val,c2,d2];cases cmp .eql (ia (b,p+3) 16).1 0 with
  |true=>exact⟨_,_,_,rfl,by omega,by omega⟩
  |false=>cases cmp .eql (ia (b,p+3) 16).1 1<;>exact⟨_,_,_,rfl,by omega,by omega⟩
 obtain⟨q,u,v,k1,k2,k3⟩:=k (Jh (b,p)).1;simp only[Qp,Pp,Np,pcT,Tr.val,a2,k1,ocR];omega
structure Dv(s:Sess):Prop where
 ins:s.Ins.length=2
 each:∀a∈s.Ins,a.length<=400
 front:s.Front.length<=64
 told:s.Told.length<=400
theorem Dv.sm{s:Sess}(h:Dv s):Sm s:=⟨by have:=h.ins;omega,λa ha=>by have:=h.each a ha;omega,by have:=h.front;omega,by have:=h.told;omega⟩
theorem JS(s:Sess):(mi s).length<=400:=by
 unfold mi;cases h:Pe s.Plan s.Ins with
 |none=>exact Nat.zero_le _
 |some x=>exact(Vm h).short
theorem Dv.on{s:Sess}(h:Dv s){f:List Time}(hf:f.length<=64):Dv (onS s f):=⟨h.ins,h.each,hf,Nat.le_trans (El _ _) (JS s)⟩
theorem Dv.set{s:Sess}(h:Dv s)(i:Int){a:List Row}(ha:a.length<=400):Dv (setIn s i a):=by
 refine⟨by unfold setIn;rw[List.length_set];exact h.ins,λx hx=>?_,h.front,h.told⟩;rcases List.mem_or_eq_of_mem_set hx with hx|rfl
 .exact h.each x hx
 .exact ha
theorem Aag{s s':Sess}{i:Int}{rows:List Row}(h:inS s i rows=some s') :
  fd s=true/\(0<=i/\i<2)/\Ca rows=true/\(rows.all λx=>Fb s.Front x.At)=true/\Ca (Ka (rd .lrow s.Ins i++rows))=true/\fd s'=true/\s'=setIn s i (Ka (rd .lrow s.Ins i++rows)):=by
 unfold inS at h;cases hA:(fd s&&(decide (0<=i/\i<2)&&(Ca rows&&rows.all λx=>Fb s.Front x.At))) with
 |false=>rw[hA]at h;exact nomatch h
 |true=>
  rw[hA,cond_true]at h;cases hB:(Ca (Ka (rd .lrow s.Ins i++rows))&&fd (setIn s i (Ka (rd .lrow s.Ins i++rows)))) with
  |false=>rw[hB]at h;exact nomatch h
  |true=>
   rw[hB,cond_true]at h;have h7:=Option.some.inj h;simp only[Bool.and_eq_true,decide_eq_true_eq]at hA hB;exact⟨hA.1,hA.2.1,hA.2.2.1,hA.2.2.2,hB.1,by rw[<-h7];exact hB.2,h7.symm⟩
theorem Bag{a:List Row}(h:Ca a=true):a.length<=400:=(bb (je h)).1
def tS(p:Int)(s:Sess):Int×Int×Int×List Plan×List (List Row)×List Time×List Row:=(p,s.Plan.Kind,s.Plan.Num,s.Plan.Kids,s.Ins,s.Front,s.Told)
theorem LS{b:List Int}(hb:Sc b){p:Int}(hp:0<=p/\p<=300000){s:Sess}(hs:Dv s)(n:Int) :
  (Rp b p s.Plan.Kind s.Plan.Num s.Plan.Kids s.Ins s.Front s.Told n).ob/\∃p' s',(Rp b p s.Plan.Kind s.Plan.Num s.Plan.Kids s.Ins s.Front s.Told n).val=.n (tS p' s')/\p<=p'/\p'<=p+40/\Dv s':=by
 have hh:=hs.front;obtain⟨x1,x2,_,_⟩:=Eb hb (p:=p) (n:=3) (by omega) (by omega);obtain⟨l1,l2,l3,l4⟩:=vag hb (p:=p+1) (by omega) (s:=s) (by omega);obtain⟨o1,o2⟩:=sag hs.sm (f:=(Ud (b,p+1) s).1) (by omega);obtain⟨y1,y2,_,_⟩:=Eb hb (p:=p+1) (n:=2) (by omega) (by omega);obtain⟨b1,b2,b3,b4,b5⟩:=xag hb (p:=p+1+1) (m:=3) (by omega) (by omega);obtain⟨c1,c2,c3,c4,c5⟩:=yag hb (p:=(Mb (b,p+1+1) 3).2) (by omega) b4 (wag b5) (f:=s.Front) (by omega);generalize hrow:(Zd (b,(Mb (b,p+1+1) 3).2) (Mb (b,p+1+1) 3).1 s.Front).1=rows at c4 c5;obtain⟨i1,i2⟩:=lag hs.sm (ia (b,p+1) 2).1 (rows:=rows) (by omega);simp only[Rp,Yy,sH,Zy,mQ,az,tH,pcT,Tr.val,Tr.ob,da,Fl,x2,y2,hrow,i2,o2];cases cmp .eql (ia (b,p) 3).1 0 with
 |true=>
  refine⟨by simp[x1,l1,o1],?_⟩;simp only[onV];cases yI s (Ud (b,p+1) s).1 with
  |true=>exact⟨_,onS s _,rfl,by omega,by omega,hs.on l4⟩
  |false=>exact⟨_,s,rfl,by omega,by omega,hs⟩
 |false=>
  refine⟨by simp[x1,y1,b1,c1,i1],?_⟩;simp only[];cases h:inS s (ia (b,p+1) 2).1 rows with
  |none=>exact⟨_,s,rfl,by omega,by omega,hs⟩
  |some s'=>
   obtain⟨_,_,_,_,h5,_,h7⟩:=Aag h;exact⟨_,s',rfl,by omega,by omega,by rw[h7];exact hs.set _ (Bag h5)⟩
theorem Cag{b:List Int}(hb:Sc b){p:Int}(hp:0<=p/\p<=200000){s:Sess}(hs:Dv s) :
  (cz b p s.Plan.Kind s.Plan.Num s.Plan.Kids s.Ins s.Front s.Told).ob/\∃p' s',(cz b p s.Plan.Kind s.Plan.Num s.Plan.Kids s.Ins s.Front s.Told).val=.n (tS p' s')/\p<=p'/\p'<=p+300/\Dv s':=by
 obtain⟨x1,x2,x3,x4⟩:=Eb hb (p:=p) (n:=7) (by omega) (by omega);generalize hn:(ia (b,p) 7).1=n at x3 x4;obtain⟨n0,rfl⟩ : ∃n0:Nat,n=(n0:Int):=⟨n.toNat,by omega⟩
 have key:∃q,la (λt:Int×Int×Int×LP×(List LR)×(List Time)×LR×Int=>ka (Sp b (p+1) s.Plan.Kind s.Plan.Num s.Plan.Kids s.Ins s.Front s.Told (n0:Int) t.1 t.2.1 t.2.2.1 t.2.2.2.1 t.2.2.2.2.1 t.2.2.2.2.2.1 t.2.2.2.2.2.2.1 t.2.2.2.2.2.2.2).val)
   (λt=>(Sp b (p+1) s.Plan.Kind s.Plan.Num s.Plan.Kids s.Ins s.Front s.Told (n0:Int) t.1 t.2.1 t.2.2.1 t.2.2.2.1 t.2.2.2.2.1 t.2.2.2.2.2.1 t.2.2.2.2.2.2.1 t.2.2.2.2.2.2.2).ob)
   (p+1,s.Plan.Kind,s.Plan.Num,s.Plan.Kids,s.Ins,s.Front,s.Told,(n0:Int)) q/\∃p' s',q=.x (tS p' s')/\p+1<=p'/\p'<=p+1+40*n0/\Dv s':=by
  refine la.down (λi (t:Int×Sess)=>(t.1,t.2.Plan.Kind,t.2.Plan.Num,t.2.Plan.Kids,t.2.Ins,t.2.Front,t.2.Told,(i:Int))) (λi t=>p+1<=t.1/\t.1+40*i<=p+1+40*n0/\Dv t.2) (n0:=n0) (b0:=(p+1,s)) rfl ⟨by simp,by simp,hs⟩ ?_ ?_
  .rintro i ⟨q,t⟩ hi ⟨i1,i2,i3⟩;simp only[]at i1 i2 i3;have hg:cmp .gtr (((i+1:Nat):Int)) 0=true:=by rw[tc];simp
   have hh:ar .sub .i64 (((i+1:Nat):Int)) 1=(i:Int):=by rw[bf (by omega)];omega
   have r1:∀n,(Rp b q t.Plan.Kind t.Plan.Num t.Plan.Kids t.Ins t.Front t.Told n).ob:=λn=>(LS hb (p:=q) (by omega) i3 n).1;obtain⟨_,q',t',r2,r3,r4,r5⟩:=LS hb (p:=q) (by omega) i3 ((i+1:Nat):Int);simp only[Sp,bz,pcT,Tr.val,Tr.ob,hg,hh,r2];exact⟨by simp[r1],(q',t'),rfl,by simp only[];omega,by simp only[];omega,r5⟩
  .rintro⟨q,t⟩ ⟨i1,i2,i3⟩;have hg:cmp .gtr ((0:Nat):Int) 0=false:=rfl;simp only[Sp,Tr.val,Tr.ob,hg];exact⟨by simp,_,rfl,q,t,rfl,i1,by simp at i2;omega,i3⟩
 obtain⟨_,k1,p',s',rfl,k2,k3,k4⟩:=key;have a2:(Tp b (p+1) s.Plan.Kind s.Plan.Num s.Plan.Kids s.Ins s.Front s.Told (n0:Int)).o=.x (tS p' s'):=k1.v;have b2:(Tp b (p+1) s.Plan.Kind s.Plan.Num s.Plan.Kids s.Ins s.Front s.Told (n0:Int)).ob:=k1.t;simp only[cz,Tr.val,Tr.ob,da,x2,hn,a2];exact⟨by simp[x1,b2],p',s',rfl,by omega,by omega,k4⟩
theorem Dag{b:List Int}(hb:Sc b){p:Int}(hp:0<=p/\p<=200000){s:Sess}(hs:Dv s)(k m:Int)(l:List Plan) :
  (ez b p k m l s.Ins s.Front s.Told).ob/\∃p' u v w,(ez b p k m l s.Ins s.Front s.Told).val=.n (p',u,v,w)/\p<=p'/\p'<=p+10/\∀q,Sm ⟨q,u,v,w⟩:=by
 have h1:=hs.ins;have h2:=hs.each;have h3:=hs.front;have h4:=hs.told;obtain⟨x1,x2,_,_⟩:=Eb hb (p:=p) (n:=24) (by omega) (by omega);obtain⟨r1,r2,_,_⟩:=gM hb (p:=p+1) (by omega);have o1:=UX hb (p:=p+1) (by omega);obtain⟨o2,o3⟩:=zag hb (p:=p+1) (by omega);have hi:∀ {t:Ty}{a:List t.T},a.length<=1000->lim (ba t []) (ba t a):=λh=>by unfold lim ba;simp;omega
 have z1:=hi (t:=.row) (a:=s.Told) (by omega);have z2:=hi (t:=.time) (a:=s.Front) (by omega);have z3:∀w,lim (ba .row s.Told) (ba .row [w]):=λw=>yb (t:=.row) (show s.Told.length<1099511627776 by omega);have z4:∀w,lim (ba .time s.Front) (ba .time [w]):=λw=>yb (t:=.time) (show s.Front.length<1099511627776 by omega);have hh:le3 1 (ba .lrow s.Ins) (ba .lrow s.Ins):=by unfold le3 ba;rw[h1];decide
 have hE:∀a∈s.Ins,a.length<=1000:=λa ha=>by have:=h2 a ha;omega
 simp only[ez,Tr.val,Tr.ob,da,x2,List.nil_append];cases cmp .eql (ia (b,p) 24).1 0 with
 |true=>exact⟨by simp[x1,r1,z1,z3],_,_,_,_,rfl,by omega,by omega,λq=>⟨by simp only[];omega,hE,by simp only[];omega,by simp only[List.length_append,List.length_singleton];omega⟩⟩
 |false=>
  cases cmp .eql (ia (b,p) 24).1 1 with
  |true=>exact⟨by simp[x1,o1,z2,z4],_,_,_,_,rfl,by omega,by omega,λq=>⟨by simp only[];omega,hE,by simp only[List.length_append,List.length_singleton];omega,by simp only[];omega⟩⟩
  |false=>
   cases cmp .eql (ia (b,p) 24).1 2 with
   |true=>exact⟨by simp[x1,hh],_,_,_,_,rfl,by omega,by omega,λq=>⟨by simp only[List.length_drop];omega,λa ha=>hE a (List.mem_of_mem_drop ha),by simp only[];omega,by simp only[];omega⟩⟩
   |false=>exact⟨by simp[x1],_,_,_,_,rfl,by omega,by omega,λq=>⟨by simp only[];omega,hE,by simp only[];omega,by simp only[];omega⟩⟩
def AI(p:Plan):Sess:=⟨p,[[],[]],[⟨0,0⟩],[]⟩
theorem Eag(p:Plan):nu p/\lu p=(if okM 4 p=true then(AI p,true,()) else(mr,false,())):=by
 obtain⟨h1,h2⟩:=oN p;simp only[nu,lu,ku,Tr.val,Tr.ob,da,od,h2];cases h:okM 4 p with
 |false=>exact⟨by simp[h1],rfl⟩
 |true=>
  obtain⟨c1,c2⟩:=AS h;simp only[Bool.not_true,ocR,c2];exact⟨by simp[h1,c1],rfl⟩
theorem Cah{b:List Int}(hb:Sc b):uH (b,0)/\0<=(Up (b,0)).2/\(Up (b,0)).2<=400/\Sm (Up (b,0)).1:=by
 obtain⟨a1,a2,a3⟩:=BM hb 3 gc (by decide) (by decide) 0 (by decide);have a4:okM 4 (Hh (b,0) 3).1=true:=(tag hb 3 gc (by decide) (by decide) 0 (by decide) 4 (by omega) (by omega)).resolve_left (by omega);have hB:Bd 3=44:=rfl;have a1:dG (b,0) 3:=a1;have a2:0<=(Hh (b,0) 3).2:=a2;have a3:(Hh (b,0) 3).2<=0+Bd 3:=a3;obtain⟨n1,n2⟩:=Eag (Hh (b,0) 3).1;rw[if_pos a4]at n2
 have hd:Dv (AI (Hh (b,0) 3).1):=by
  refine⟨rfl,λa ha=>?_,show 1<=64 by omega,Nat.zero_le _⟩;have:a=[]:=by simpa [AI] using ha
  rw[this];exact Nat.zero_le _
 obtain⟨c1,p',s',c2,c3,c4,c5⟩:=Cag hb (p:=(Hh (b,0) 3).2) (by omega) hd;obtain⟨d1,q,u,v,w,d2,d3,d4,d5⟩:=Dag hb (p:=p') (by omega) c5 s'.Plan.Kind s'.Plan.Num s'.Plan.Kids;simp only[uH,Up,iz,dz,gz,pcT,Tr.val,Tr.ob,da,od,n2,c2,tS,d2,ocR];exact⟨by simp[a1,n1,c1,d1],by omega,by omega,d5 _⟩
structure On(s:Sess)(f:List Time)(x:List Row):Prop where
 ok:OkS s x
 flow:RF s.Plan s.Ins x
 front:Sd f=true
 all:(f.all λt=>Fb s.Front t)=true
 told:s.Told=Wa s.Front x
 new:(onS s f).Told=Wa f x
 fresh:zI s f=(Wa f x).filter λz=>Fb s.Front z.At
theorem On.sess{s:Sess}{f:List Time}{x:List Row}(h:On s f x):fd (onS s f)=true:=wI.2 ⟨x,h.front,h.ok.flow,h.new⟩
theorem Dah{s:Sess}(hs:Sm s){f:List Time}(hf:f.length<=1000):Sm (onS s f):=⟨hs.ins,hs.each,hf,by have:=El f (mi s);have:=JS s;show(Wa f (mi s)).length<=1000;omega⟩
theorem Eah(t:Time):ci t:=by simp[ci,jz,Tr.ob]
end
theorem Vae:Ub Tryz.prog tt:=gm (by kernel_rfl)
theorem Wae : Tryz.prog.follows .mixedOrders=true:=by kernel_rfl
theorem g0:Gd []:=.nil Vae Wae
theorem yah:CP 42 sN:=YX (g0)
theorem eh:CP 44 Of:=eY (g0)
theorem YR:∀n,CP 88 (Ot (xc n).1 (xc n).2)
 |0=>Wj (fn:=Tryz.f88) (c:=ee Tryz.f88) (by kernel_rfl) (by kernel_rfl) (by kernel_rfl) λ_ h=>h
 |n+1=>iY (.cons eh (.cons (YR n) g0))
theorem Xae:CP 88 vN:=(YR gc)
theorem Yae:CP 161 fG:=nY (g0)
theorem nC:CP 77 wk:=rY (g0)
theorem ZR:∀n,CP 129 (Ut (Xc n).1 (Xc n).2)
 |0=>Wj (fn:=Tryz.f129) (c:=ee Tryz.f129) (by kernel_rfl) (by kernel_rfl) (by kernel_rfl) λ_ h=>h
 |n+1=>xY (.cons Yae (.cons nC (.cons (ZR n) g0)))
theorem Zae:CP 129 DN:=(ZR gc)
theorem aS:CP 99 Zt:=CY (.cons Zae g0)
theorem dS:∀n,CP 98 (au (Ad n).1 (Ad n).2)
 |0=>Wj (fn:=Tryz.f98) (c:=ee Tryz.f98) (by kernel_rfl) (by kernel_rfl) (by kernel_rfl) λ_ h=>h
 |n+1=>IY (.cons (dS n) g0)
theorem qI:CP 98 iG:=(dS gc)
theorem aaf:CP 87 jG:=NY (.cons aS (.cons qI g0))
theorem rI:CP 45 nn:=SY (.cons eh g0)
theorem baf:CP 128 kG:=YY (.cons eh (.cons rI g0))
theorem Dl:CP 49 Kh:=cZ (.cons nC g0)
theorem caf:CP 125 nG:=jZ (.cons Dl g0)
theorem oC:CP 90 Ak:=nZ (.cons Dl g0)
theorem eS:CP 92 Qu:=FZ (.cons caf (.cons oC g0))
theorem daf:CP 97 pG:=JZ (.cons baf (.cons eS g0))
theorem jr:CP 57 ij:=RZ (.cons Dl g0)
theorem pC:CP 91 Bk:=VZ (.cons Dl g0)
theorem eaf:CP 47 qG:=P0 (.cons jr (.cons pC (.cons eS g0)))
theorem faf:CP 56 rG:=V0 (.cons daf (.cons eh (.cons eaf g0)))
theorem gaf:CP 126 wG:=C1 (.cons nC (.cons Dl g0))
theorem lr:CP 93 mj:=Q1 (.cons gaf g0)
theorem fS:CP 113 uv:=Z1 (g0)
theorem qC:CP 78 Ck:=L2 (.cons lr (.cons fS g0))
theorem haf:CP 162 yG:=X2 (g0)
theorem iaf:CP 101 AG:=L3 (.cons fS g0)
theorem fh:CP 61 Pf:=C4 (.cons iaf g0)
theorem jaf:CP 130 BG:=P4 (.cons haf (.cons fh g0))
theorem iS:CP 102 Wv:=V4 (.cons qC g0)
theorem jS:CP 62 bw:=C5 (.cons lr (.cons fh (.cons iS g0)))
theorem kaf:CP 163 HG:=I5 (g0)
theorem laf:CP 131 IG:=l6 (.cons kaf (.cons pC (.cons fh g0)))
theorem maf:CP 174 JG:=B6 (g0)
theorem naf:CP 171 LG:=g7 (.cons lr (.cons maf (.cons pC g0)))
theorem kS:CP 94 Mw:=H7 (.cons fh g0)
theorem oaf:CP 50 MG:=R7 (.cons lr (.cons Dl (.cons oC (.cons kS g0))))
theorem paf:CP 175 VG:=X7 (g0)
theorem qaf:CP 172 WG:=m8 (.cons paf g0)
theorem raf:CP 164 XG:=Q8 (.cons naf (.cons oaf (.cons qaf (.cons oC (.cons kS g0)))))
theorem saf:CP 132 YG:=Y8 (.cons raf (.cons fh g0))
theorem lS:∀n,CP 100 (Kx (Lc n).1 (Lc n).2)
 |0=>Wj (fn:=Tryz.f100) (c:=ee Tryz.f100) (by kernel_rfl) (by kernel_rfl) (by kernel_rfl) λ_ h=>h
 |n+1=>m9 (.cons (lS n) (.cons jaf (.cons fh (.cons jS (.cons laf (.cons saf (.cons qC g0)))))))
theorem taf:CP 100 FP:=(lS gc)
theorem mS:CP 59 Ux:=C9 (.cons aS (.cons qC (.cons taf g0)))
theorem nS:CP 46 Zx:=M9 (.cons jr (.cons oC g0))
theorem sI:CP 60 qp:=U9 (.cons nS g0)
theorem uaf:CP 68 dH:=aaa (g0)
theorem oS:CP 28 ly:=eaa (.cons jr (.cons mS (.cons sI (.cons uaf g0))))
theorem pS:CP 58 ry:=kaa (.cons qI g0)
theorem vaf:ut Tryz.prog 58 Zc Qf:=Ds.conS (.cons qI g0)
theorem waf:CP 22 gH:=raa (.cons oS (.cons jr (.cons nS (.cons pS (.cons mS (.cons sI (.cons jS (.cons fh g0))))))))
theorem qS:CP 89 By:=vaa (.cons eh (.cons rI g0))
theorem xaf:CP 112 iH:=Daa (.cons eh (.cons qS g0))
theorem rS:CP 111 Iy:=Haa (.cons lr (.cons fh (.cons iS g0)))
theorem yaf:CP 75 kH:=Laa (.cons xaf (.cons rS g0))
theorem zaf:CP 76 lH:=Taa (.cons jr (.cons eh (.cons pC (.cons rS g0))))
theorem Aaf:CP 34 pH:=Yaa ⟨.cons oS (.cons nC (.cons qC (.cons sI (.cons pS (.cons fh g0))))),vaf⟩
theorem Baf:CP 48 rH:=cab (.cons rI (.cons eh g0))
theorem zah:CP 43 oQ:=oab (.cons Xae (.cons aaf (.cons eh (.cons faf (.cons waf (.cons yaf (.cons zaf (.cons Aaf (.cons qS (.cons Baf g0))))))))))
theorem tI:CP 51 jl:=qQ (g0)
theorem Caf:CP 54 vH:=xab (.cons tI g0)
theorem Daf:CP 133 xH:=Cab (g0)
theorem uS:∀n,CP 105 (yz (cd n).1 (cd n).2)
 |0=>Wj (fn:=Tryz.f105) (c:=ee Tryz.f105) (by kernel_rfl) (by kernel_rfl) (by kernel_rfl) λ_ h=>h
 |n+1=>Iab (.cons Daf (.cons (uS n) g0))
theorem Eaf:CP 105 zQ:=(uS gc)
theorem Faf:CP 69 yH:=Mab (.cons Eaf g0)
theorem Gaf:CP 86 DH:=Qab (g0)
theorem Haf:CP 66 EH:=Vab (.cons Gaf g0)
theorem Iaf:CP 55 jq:=FQ (.cons tI g0)
theorem vS:CP 25 Rz:=gac (.cons Haf (.cons Iaf g0))
theorem Jaf:CP 104 GH:=kac (g0)
theorem Kaf:CP 134 IH:=oac (g0)
theorem rC:CP 71 kl:=sac (.cons con_impl_consolidated (.cons vS g0))
theorem Laf:CP 106 JH:=zac (.cons Kaf (.cons rC g0))
theorem Maf:CP 72 LH:=Dac (g0)
theorem Naf:CP 107 MH:=Jac (g0)
theorem Oaf:CP 135 VH:=Nac (g0)
theorem Paf:CP 81 yq:=WQ (.cons tI g0)
theorem Qaf:CP 108 WH:=aad (.cons Oaf (.cons Paf (.cons rC g0)))
theorem wS:CP 95 BA:=fad (g0)
theorem Raf:CP 53 YH:=nad (.cons wS (.cons UL g0))
theorem Saf:CP 139 ZH:=yad (g0)
theorem xS:CP 140 bB:=Fad (g0)
theorem Taf:CP 141 aI:=Mad (.cons xS g0)
theorem Uaf:CP 119 cI:=Qad (.cons Saf (.cons xS (.cons Taf g0)))
theorem Vaf:CP 109 fI:=lae (.cons qah (.cons Raf (.cons Uaf (.cons UL (.cons rC g0)))))
theorem yS:∀n,CP 70 (DB (Ed n).1 (Ed n).2)
 |0=>Wj (fn:=Tryz.f70) (c:=ee Tryz.f70) (by kernel_rfl) (by kernel_rfl) (by kernel_rfl) λ_ h=>h
 |n+1=>rae (.cons (yS n) (.cons Jaf (.cons Laf (.cons Maf (.cons rC (.cons Naf (.cons Qaf (.cons Vaf g0))))))))
theorem Waf:CP 70 JR:=(yS gc)
theorem Xaf:CP 29 lI:=xae (.cons Faf (.cons vS (.cons Waf g0)))
theorem Yaf:CP 52 mI:=Dae (.cons wS g0)
theorem Zaf:CP 65 nI:=Kae (.cons Yaf g0)
theorem aag:CP 67 pI:=Qae (g0)
theorem Aah:CP 27 XR:=Uae (.cons Caf (.cons Xaf (.cons Zaf (.cons aag g0))))
end Go.Proofs.YtiiidenbemkihaaGreat
