/-
  'gathered': the second loop, over the map. 'gathered': the sort, and the contract. 'gathered': the contract. 'gathered': its contract. sort.Slice with a 'less' that lays blocks: what is asked of it, and the worlds that the sort passes through. sort.Slice with a 'less' that lays blocks: insertion. Turned by a program out of the shelf's walks. sort.Slice with a 'less' that lays blocks: order2, median, medianAdjacent. Turned by a program out of the shelf's walks. sort.Slice with a 'less' that lays blocks: choosePivot. Turned by a program out of the shelf's walks. sort.Slice with a 'less' that lays blocks: partition. Turned by a program out of the shelf's walks. sort.Slice with a 'less' that lays blocks: partialInsertionSort. Turned by a program out of the shelf's walks. sort.Slice with a 'less' that lays blocks: siftDown, heapSort. Turned by a program out of the shelf's walks. sort.Slice with a 'less' that lays blocks: pdqsort; sort.Slice. Turned by a program out of the shelf's walks. No statement is proved here.
-/
import Derived.Test.YtiiidenbemkihaaGreatA2
import Derived.Shelf.SlSortFuncK.WholeK
import Derived.ProofKit
import Derived.SizedLaws
namespace Go.Proofs.YtiiidenbemkihaaGreat
open Go
abbrev N2(it:Nat):NP:=⟨50,none,[(31,.pointer (some ⟨it,0,none⟩))]⟩
def E2(out:List Item):Env:=[(6,.box [(.acc true,.lst .item out)])]
theorem Wi:∀ {n:Nat}{S:List Nat},S.Nodup->(∀i∈S,i<n)->S.length<=n
 |0,[],_,_=>Nat.le_refl _
 |0,i::r,_,h=>absurd (h i (by simp)) (by omega)
 |n+1,S,hn,h=>by
  have h1:(S.filter λi=>i != n).length<=n:=Wi (hn.sublist List.filter_sublist) (λi hi=>by
   have h2:=List.mem_filter.1 hi;have h3:=h i h2.1;have h4:i≠n:=by simpa using h2.2
   omega)
  have h2:∀ {S:List Nat},S.Nodup->S.length<=(S.filter λi=>i != n).length+1:=by
   intro S
   induction S with
   |nil=>intro _;simp
   |cons i r ih=>
    intro hn;have hh:=List.nodup_cons.1 hn;by_cases e:i=n
    .subst e
     have:(r.filter λj=>j != i)=r:=List.filter_eq_self.2 (λj hj=>by
      have:j≠i:=λe=>hh.1 (e▸hj);simpa using this)
     simp[this]
    .have:=ih hh.2;simp[e];omega
  have:=h2 hn;omega
theorem WE(m:MP)(S:List Nat){i:Nat}{p:List Int×Int}(hp:m[i]? = some p):mb m (S++[i])=mb m S++(if p.2=0 then [] else [mkI p]):=by
 unfold mb;rw[List.map_append,List.filter_append,List.map_append]
 congr 1
 have:m.getD i ([0,0,0],0)=p:=by rw[List.getD_eq_getElem?_getD,hp];rfl
 simp only[List.map_cons,List.map_nil,this];by_cases h:p.2=0<;>simp[h]
theorem zm(m:MP)(S:List Nat):(mb m S).length<=S.length:=by
 unfold mb;rw[List.length_map];exact Nat.le_trans (List.length_filter_le _ _) (by simp)
theorem op9:(o9 0).op=.next (.tmp 31) false/\(o9 0).dst=some 32/\(o9 0).guard=none/\(o9 1).op=.extract (.tmp 32) 0/\(o9 1).dst=some 33/\(o9 1).guard=none /\
  (o10 0).op=.entry (.tmp 31)/\(o10 0).dst=some 34/\(o10 0).guard=none/\(o10 1).op=.extract (.tmp 34) 0/\(o10 1).dst=some 35/\(o10 1).guard=none/\(o10 2).op=.extract (.tmp 34) 1/\(o10 2).dst=some 36/\(o10 2).guard=none:=by
 refine⟨by kernel_rfl,by kernel_rfl,by kernel_rfl,by kernel_rfl,by kernel_rfl,by kernel_rfl,by kernel_rfl,by kernel_rfl,by kernel_rfl,by kernel_rfl,by kernel_rfl,by kernel_rfl,by kernel_rfl,by kernel_rfl,by kernel_rfl⟩
theorem at9:(opsOf (nav C0 [1,1,1,1,0,1,0,0,0]))[0]? = some (o9 0)/\(opsOf (nav C0 [1,1,1,1,0,1,0,0,0]))[1]? = some (o9 1)/\List.range (opsOf (nav C0 [1,1,1,1,0,1,0,0,0])).size=[0,1]:=⟨by kernel_rfl,by kernel_rfl,by kernel_rfl⟩
theorem fe:(opsOf (nav C0 [1,1,1,1,0,1,0,0,1,1,0,0]))[0]? = some (o10 0)/\(opsOf (nav C0 [1,1,1,1,0,1,0,0,1,1,0,0]))[1]? = some (o10 1)/\(opsOf (nav C0 [1,1,1,1,0,1,0,0,1,1,0,0]))[2]? = some (o10 2) /\
 (opsOf (nav C0 [1,1,1,1,0,1,0,0,1,1,0,0]))[3]? = some (o10 3)/\(opsOf (nav C0 [1,1,1,1,0,1,0,0,1,1,0,0]))[4]? = some (o10 4)/\(opsOf (nav C0 [1,1,1,1,0,1,0,0,1,1,0,0]))[5]? = some (o10 5) /\
 List.range (opsOf (nav C0 [1,1,1,1,0,1,0,0,1,1,0,0])).size=[0,1,2,3,4,5]:=⟨by kernel_rfl,by kernel_rfl,by kernel_rfl,by kernel_rfl,by kernel_rfl,by kernel_rfl,by kernel_rfl⟩
set_option maxRecDepth 20000 in
set_option maxHeartbeats 1600000 in
theorem XE{m:MP}(hm:∀p∈m,∃k v,p.1=[k,v,0])(hlen:m.length<=1099511627775){Q:Exit->Act->World->Prop}{B:Nat}{W0:World}{F0:Fz}{r it:Nat}(hne:r≠it){a:Act}{w:World}
  (hs:MS (N2 it) B [] W0 F0 [(it,vb r m []),(r,oa m)] (E2 []) a w)
  (hQ:∀S a w,S.Nodup->(∀i∈S,i<m.length)->(∀i,i<m.length->i∈S)->MS (N2 it) B [] W0 F0 [] (E2 (mb m S)) a w->Q .normal a w):(nav C0 [1,1,1,1,0,1]).wp Tryz.prog Q a w:=by
 refine Nc (c1:=nav C0 [1,1,1,1,0,1,0]) (id:=2) (by kernel_rfl) ?_;rw[show nav C0 [1,1,1,1,0,1,0]=.loop (nav C0 [1,1,1,1,0,1,0,0]) by kernel_rfl];refine We (σ:=List Nat) (λS a w=>S.Nodup/\(∀i∈S,i<m.length)/\MS (N2 it) B [] W0 F0 [(it,vb r m S),(r,oa m)] (E2 (mb m S)) a w) (λS=>m.length - S.length) ?_ [] ⟨by simp,by simp,hs⟩;rintro S a w ⟨kj,ju,hs⟩;obtain⟨kx,hl,hw,ky,hn,ha,kq,hh,ho,kr,hi,hu,ks,hk,hv⟩:=op9;have hit:=hs.o (r:=it) (o:=vb r m S) (by simp);have hr:=hs.o (r:=r) (o:=oa m) (by simp);have hc:a.tmps.getD 31 undef=.pointer (some ⟨it,0,none⟩):=hs.k (by simp);refine ma (c1:=nav C0 [1,1,1,1,0,1,0,0,0]) (c2:=nav C0 [1,1,1,1,0,1,0,0,1]) (by kernel_rfl) ?_;refine Gc (by kernel_rfl) at9.2.2 ?_;rw[wpOps_cons];refine ra at9.1 hw ?_;rcases BK (P:=Tryz.prog) hr hit (o9 0).type with⟨hg,kp⟩|⟨i,p,n,ih,hp,kp⟩
 .refine Ra (Ws kx (by rw[hc];exact kp)) ?_;rw[hl,wpOps_cons];have h1:=hs.val (d:=32) (by kernel_rfl) (v:=.tuple #[.bool false]) (av:=.dead) rfl (λ_ _=>trivial);refine ra at9.2.1 ha ?_;refine Ra (ig (vs:=#[.bool false]) ky (h1.k (by simp)) (v:=.bool false) (by simp)) ?_;rw[hn];have h2:=h1.val (d:=33) (by kernel_rfl) (v:=.bool false) (av:=.v .fr (.bool false)) rfl (λ_ _=>RC.bool _);refine sc _ ?_;show(nav C0 [1,1,1,1,0,1,0,0,1]).wp _ _ _ _;refine ma (c1:=nav C0 [1,1,1,1,0,1,0,0,1,0]) (c2:=nav C0 [1,1,1,1,0,1,0,0,1,1]) (by kernel_rfl) ?_;refine ld (o:=.tmp 33) (c1:=nav C0 [1,1,1,1,0,1,0,0,1,0,0]) (c2:=nav C0 [1,1,1,1,0,1,0,0,1,0,1]) (by kernel_rfl) (h2.bool (k:=.fr) (b:=false) rfl) (λht=>by cases ht) (λhf=>jg (i:=2) (by kernel_rfl) ?_);show Exit.inBlock 2 Q (.exit 2) _ _;simp only[Exit.inBlock,if_true];refine hQ S _ _ kj ju hg ?_;exact(h2.weak (e':=E2 (mb m S)) (xa.cast (pat:=[(6,.same)]) (by kernel_rfl) (by kernel_rfl))).forget rfl rfl (λp hp=>by simp at hp⊢;simp[hp]) (λp hp=>by simp at hp)
 .obtain⟨k,v,ie⟩:=hm p (List.mem_of_getElem? hp);obtain⟨pk,pv⟩:=p;simp only at ie kp;subst ie;have io:i<m.length:=(List.getElem?_eq_some_iff.1 hp).1;refine Ra (Ws kx (by rw[hc];exact kp)) ?_;rw[hl,wpOps_cons]
  have h0:=(hs.drew n).set (r:=it) (o0:=vb r m S) (by simp) (w':=Vc { w with drawn:=n } it (vb r m (S++[i]))) (zh _ _ _) (obs':=[(it,vb r m (S++[i])),(r,oa m)]) (λq hq=>by
   simp only[List.mem_cons,List.not_mem_nil,or_false]at hq;rcases hq with rfl|rfl
   .exact .inr ⟨rfl,Ah hit,rfl⟩
   .exact .inl ⟨by simp,hne⟩)
  have h1:=h0.val (d:=32) (by kernel_rfl) (v:=.tuple #[.bool true,Ha [k,v,0],.int .i64 pv]) (av:=.dead) rfl (λ_ _=>trivial);refine ra at9.2.1 ha ?_;refine Ra (ig (vs:=#[.bool true,Ha [k,v,0],.int .i64 pv]) ky (h1.k (by simp)) (v:=.bool true) (by simp)) ?_;rw[hn];have h2:=h1.val (d:=33) (by kernel_rfl) (v:=.bool true) (av:=.v .fr (.bool true)) rfl (λ_ _=>RC.bool _);refine sc _ ?_;show(nav C0 [1,1,1,1,0,1,0,0,1]).wp _ _ _ _;refine ma (c1:=nav C0 [1,1,1,1,0,1,0,0,1,0]) (c2:=nav C0 [1,1,1,1,0,1,0,0,1,1]) (by kernel_rfl) ?_;refine ld (o:=.tmp 33) (c1:=nav C0 [1,1,1,1,0,1,0,0,1,0,0]) (c2:=nav C0 [1,1,1,1,0,1,0,0,1,0,1]) (by kernel_rfl) (h2.bool (k:=.fr) (b:=true) rfl) (λht=>Md (by kernel_rfl) ?_) (λhf=>by cases hf);show(nav C0 [1,1,1,1,0,1,0,0,1,1]).wp _ _ _ _;have h3:MS (N2 it) B [] W0 F0 [(it,vb r m (S++[i])),(r,oa m)] (E2 (mb m S)) _ _:=(h2.weak (e':=E2 (mb m S)) (xa.cast (pat:=[(6,.same)]) (by kernel_rfl) (by kernel_rfl))).forget rfl rfl (λp hp=>by simp at hp⊢;simp[hp]) (λp hp=>hp);clear h0 h1 h2;generalize (a.put (some 32) _).put (some 33) _=a3 at h3⊢;generalize Vc { w with drawn:=n } it (vb r m (S++[i]))=w3 at h3⊢;refine Nc (c1:=nav C0 [1,1,1,1,0,1,0,0,1,1,0]) (id:=3) (by kernel_rfl) ?_;refine ma (c1:=nav C0 [1,1,1,1,0,1,0,0,1,1,0,0]) (c2:=nav C0 [1,1,1,1,0,1,0,0,1,1,0,1]) (by kernel_rfl) ?_;refine Gc (by kernel_rfl) fe.2.2.2.2.2.2 ?_;rw[wpOps_cons];refine ra fe.1 ho ?_;have ix:=h3.o (r:=it) (o:=vb r m (S++[i])) (by simp);have kn:=h3.o (r:=r) (o:=oa m) (by simp);have he:a3.tmps.getD 31 undef=.pointer (some ⟨it,0,none⟩):=h3.k (by simp);refine Ra (SK kq (by rw[he];exact CK kn ix hp ⟨S,rfl⟩)) ?_;rw[hh,wpOps_cons];have h4:=h3.val (d:=34) (by kernel_rfl) (v:=.tuple #[Ha [k,v,0],.int .i64 pv]) (av:=.dead) rfl (λ_ _=>trivial);refine ra fe.2.1 hu ?_;refine Ra (ig (vs:=#[Ha [k,v,0],.int .i64 pv]) kr (h4.k (by simp)) (v:=Ha [k,v,0]) (by simp)) ?_;rw[hi,wpOps_cons];have h5:=h4.val (d:=35) (by kernel_rfl) (v:=Ha [k,v,0]) (av:=.agg true [.int .i64 k,.int .i64 v,.int .i64 0]) rfl (λ_ _=>⟨[.int .i64 k,.int .i64 v,.int .i64 0],rfl,.cons (.int _ _) (.cons (.int _ _) (.cons (.int _ _) .nil))⟩);refine ra fe.2.2.1 hv ?_;refine Ra (ig (vs:=#[Ha [k,v,0],.int .i64 pv]) ks (h5.k (by simp)) (v:=.int .i64 pv) (by simp)) ?_;rw[hk];have h6:=h5.val (d:=36) (by kernel_rfl) (v:=.int .i64 pv) (av:=.v .fr (.int .i64 pv)) rfl (λ_ _=>RC.int _ _)
  have h7:MS (N2 it) B [] W0 F0 [(it,vb r m (S++[i])),(r,oa m)] [(6,.box [(.acc true,.lst .item (mb m S))]),(35,.agg true [.int .i64 k,.int .i64 v,.int .i64 0]),(36,.v .fr (.int .i64 pv))] _ _:=(h6.weak (xa.cast (pat:=[(6,.same),(35,.same),(36,.same)]) (by kernel_rfl) (by kernel_rfl))).forget rfl rfl (λp hp=>by simp at hp⊢;simp[hp]) (λp hp=>hp)
  clear h4 h5 h6;generalize ((a3.put (some 34) _).put (some 35) _).put (some 36) _=a7 at h7⊢
  refine MS.suf (l:=[o10 3,o10 4,o10 5]) (i:=3) gg (keep:=[6,7,8]) (e':=[(6,.box [(.acc true,.lst .item (mb m S))]),(7,.box [(.fr,.int .i64 k),(.fr,.int .i64 v),(.fr,.int .i64 0)]),(8,.v .fr (.int .i64 pv))]) (ps:=[])
   (λj o hj=>by
     match j,hj with
     |0,hj=>simp at hj;subst hj;exact fe.2.2.2.1
     |1,hj=>simp at hj;subst hj;exact fe.2.2.2.2.1
     |2,hj=>simp at hj;subst hj;exact fe.2.2.2.2.2.1
     |j+3,hj=>simp at hj) (by kernel_rfl) (by kernel_rfl) trivial h7 (λa w hs=>?_)
  show(nav C0 [1,1,1,1,0,1,0,0,1,1,0,1]).wp _ _ _ _;refine ma (c1:=nav C0 [1,1,1,1,0,1,0,0,1,1,0,1,0]) (c2:=nav C0 [1,1,1,1,0,1,0,0,1,1,0,1,1]) (by kernel_rfl) ?_;refine MS.regC gg (keep:=[6,7,8,38]) (e':=[(6,.box [(.acc true,.lst .item (mb m S))]),(7,.box [(.fr,.int .i64 k),(.fr,.int .i64 v),(.fr,.int .i64 0)]),(8,.v .fr (.int .i64 pv)),(38,.v .fr (.bool (cmp .neq pv 0)))]) (ps:=[]) (by kernel_rfl) trivial hs (λa w hs=>?_);have kk:(S++[i]).Nodup:=List.nodup_append.2 ⟨kj,by simp,λx hx y hy e=>by simp at hy;subst hy;subst e;exact ih hx⟩
  have jb:∀j∈S++[i],j<m.length:=λj hj=>by
   rcases List.mem_append.1 hj with hj|hj
   .exact ju j hj
   .simp at hj;subst hj;exact io
  have ki:m.length - (S++[i]).length<m.length - S.length:=by
   have:=Wi kk jb;simp at this⊢;omega
  have km:=WE m S hp;refine ld (o:=.tmp 38) (c1:=nav C0 [1,1,1,1,0,1,0,0,1,1,0,1,1,0]) (c2:=nav C0 [1,1,1,1,0,1,0,0,1,1,0,1,1,1]) (by kernel_rfl) (hs.bool (k:=.fr) rfl) (λht=>?_) (λhf=>Md (by kernel_rfl) ?_)
  .have hz:pv≠0:=by
    have:(pv != 0)=true:=ht;simpa using this
   refine ma (c1:=nav C0 [1,1,1,1,0,1,0,0,1,1,0,1,1,0,0]) (c2:=nav C0 [1,1,1,1,0,1,0,0,1,1,0,1,1,0,1]) (by kernel_rfl) ?_;refine MS.regC gg (keep:=[6,7]) (e':=[(6,.box [(.acc true,.lst .item (mb m S))]),(7,.box [(.fr,.int .i64 k),(.fr,.int .i64 v),(.fr,.int .i64 pv)])]) (ps:=[]) (by kernel_rfl) trivial hs (λa w hs=>?_);refine MS.regC gg (keep:=[6]) (e':=E2 (mb m S++[⟨k,v,pv⟩])) (ps:=[lim (ba .item (mb m S)) (ba .item [⟨k,v,pv⟩])]) (by kernel_rfl) ⟨?_,trivial⟩ hs (λa w hs=>?_)
   .have h1:=zm m S;have h2:=Wi kj ju;show((mb m S).length:Int)+1<=1099511627776;omega
   .refine⟨S++[i],ki,kk,jb,?_⟩;rw[km,if_neg hz];exact hs
  .have hz:pv=0:=by
    have:(pv != 0)=false:=hf;simpa using this
   refine⟨S++[i],ki,kk,jb,?_⟩;rw[km,if_pos hz,List.append_nil];exact hs.weak (xa.cast (pat:=[(6,.same)]) (by kernel_rfl) (by kernel_rfl))
section
open Go Go.Sort Go.RowKit Go.Lib
theorem RC.int_inv{F:Fz}{lo:Nat}{w:World}{k:IntKind}{n:Int}{v:Value}(h:RC F lo w (.int k n) v):v=.int k n:=by cases h;rfl
theorem YE{N:NP}{B:Nat}{W0:World}{F0:Fz}{obs:List (Nat×Obj)}{e:Env}{a:Act}{w:World}{s:Nat}{out:List Item}(hs:MS N B [] W0 F0 obs e a w)(hg:ca e s=.box [(.acc true,.lst .item out)]) :
  ∃ Bs sl,a.tmps.getD s undef=.pointer (some ⟨Bs,0,none⟩)/\Blk w Bs [sl]/\B<=Bs/\((out=[]/\sl=.slice none 0 0)\/∃blk cap cs,sl=.slice (some ⟨blk,0,none⟩) out.length cap/\Blk w blk cs/\cs.length=cap*3/\out.length<=cap/\B<=blk/\blk≠Bs /\
    ∀i x,out[i]? = some x->∀j,j<3->cs[i*3+j]? = (encI x)[j]?):=by
 obtain⟨F,ow,hx⟩:=hs.sim.rep;obtain⟨Bs,us,hu,how,hm,_,hlen,hn⟩:=hx.box hg
 match us,hlen with
 |[sl],_=>
  have hh:B<=Bs:=(hx.bd _ _ _ how).2.elim id (λh=>by simp at h);have hk:ya F (lof B true) w (ow s (some 0)) (.lst .item out) sl:=hn 0 _ sl rfl rfl;obtain⟨ht,hd⟩:=hk;refine⟨Bs,sl,hu,hm,hh,?_⟩;rcases hd with⟨t,e1,e2⟩|⟨t,xs,blk,cap,cs,e1,e2,e3,e4,e5,e6⟩
  .left;have e1:C.lst .item out=.lst t []:=e1;cases e1;exact⟨rfl,e2⟩
  .right;have e1:C.lst .item out=.lst t xs:=e1;cases e1;have hl:B<=blk:=(hx.bd _ _ _ e3).2.elim id (λh=>by simp at h)
   have hq:blk≠Bs:=λe=>by
    subst e;have:=(hx.inj _ _ _ _ _ how e3).2;cases this
   subst e2;cases ht with
   |lst _ _ b o cap vs hb hcap hf hc hr=>
    refine⟨blk,cap,cs,rfl,e4,e5,hcap,hl,hq,λi x hi j hj=>?_⟩;have hp:=(List.getElem?_eq_some_iff.1 hi).1;have h1:=hc i j hp hj;rw[Nat.zero_add,e4.cell]at h1;have h1:cs[i*3+j]? = some (vs i j):=h1;rw[h1];have ho:(cells .item x)[j]? = some ((cells .item x)[j]'(by simp[cells];exact hj)):=List.getElem?_eq_getElem _;have h2:=hr i j x _ hi ho;rcases (show j=0\/j=1\/j=2 by omega) with rfl|rfl|rfl
    .have h2:RC F (lof B true) w (.int .i64 x.Key) (vs i 0):=h2;rw[RC.int_inv h2];rfl
    .have h2:RC F (lof B true) w (.int .i64 x.Val) (vs i 1):=h2;rw[RC.int_inv h2];rfl
    .have h2:RC F (lof B true) w (.int .i64 x.Count) (vs i 2):=h2;rw[RC.int_inv h2];rfl
theorem holds_of{w:World}{blk cap:Nat}{cs:List Value}{out:List Item}(hb:Blk w blk cs)(hlen:cs.length=cap*3)(hcs:∀i x,out[i]? = some x->∀j,j<3->cs[i*3+j]? = (encI x)[j]?):HoldsK encI 3 w blk 0 out.toArray:=by
 have _:=hlen;intro t ht;rw[size_flatK]at ht
 have hi:t / 3<out.length:=by
  have:out.toArray.size=out.length:=by simp
  omega
 have hj:t % 3<3:=Nat.mod_lt _ (by omega);refine⟨?_,hb.frozen _⟩;rw[Nat.zero_add,hb.cell,get_flatK _ _ _ _ ht];have h1:=hcs (t / 3) out[t / 3] (List.getElem?_eq_getElem hi) (t % 3) hj;rw[show t / 3*3+t % 3=t by omega]at h1;rw[h1];have h2:out.toArray[t / 3]! = out[t / 3]:=by simp[hi]
 rw[h2];have hl:(encI out[t / 3]).length=3:=rfl;rw[List.getElem?_eq_getElem (by omega),getElem!_pos (encI out[t / 3]) (t % 3) (by omega)];rfl
theorem Ce{w:World}{os:Array Obj}{k:Nat}(h:k<w.heap.size):(grow w os).heap[k]? = w.heap[k]?:=by
 show(w.heap++os)[k]? = _;rw[Array.getElem?_append_left h]
theorem ZE{w:World}{n blk:Nat}{d:Array Item}{k:Nat}(h:k≠blk):(putRowK encI 3 (Sort.ahead w n) blk 0 d).heap[k]? = w.heap[k]?:=by
 show(w.heap.modify blk _)[k]? = _;rw[Array.getElem?_modify,if_neg (λe=>h e.symm)]
theorem aF{w:World}{n blk:Nat}{d:Array Item}:(putRowK encI 3 (Sort.ahead w n) blk 0 d).heap.size=w.heap.size:=by
 show(w.heap.modify blk _).size=_;simp
theorem bF{N:NP}{B:Nat}{W0:World}{F0:Fz}{obs:List (Nat×Obj)}{e:Env}{a a':Act}{w:World}{s:Nat}{out ys:List Item}(hs:MS N B [] W0 F0 obs e a w)(hL:Live F0 W0){Bs blk cap:Nat}{cs:List Value}
  (hB:Blk w Bs [.slice (some ⟨blk,0,none⟩) out.length cap]) (hBs:B<=Bs) (hb:Blk w blk cs) (hlen:cs.length=cap*3) (hcap:out.length<=cap) (hbl:B<=blk) (hne:blk≠Bs) (hH:HoldsK encI 3 w blk 0 out.toArray)
  (hy:ys.length=out.length) {n:Nat}{os:Array Obj} (hdf:a'.defers=[]) (hsz:a'.tmps.size=N.n) (htm:a'.tmps.getD s undef=.pointer (some ⟨Bs,0,none⟩)) :
  MS ⟨N.n,none,[]⟩ B [] W0 F0 [] [(s,.box [(.acc true,.lst .item ys)])] a' (grow (putRowK encI 3 (Sort.ahead w n) blk 0 ys.toArray) os):=by
 generalize hw:grow (putRowK encI 3 (Sort.ahead w n) blk 0 ys.toArray) os=w';have ih:(putRowK encI 3 (Sort.ahead w n) blk 0 ys.toArray).heap.size=w.heap.size:=aF;have hold:∀k,k<w.heap.size->k≠blk->w'.heap[k]? = w.heap[k]?:=λk hk h=>by rw[<-hw,Ce (by rw[ih];exact hk),ZE h]
 have io:w.heap.size<=w'.heap.size:=by rw[<-hw];show w.heap.size<=(_++os).size;rw[Array.size_append,ih];omega
 have it:ys.toArray.size=out.toArray.size:=by simp[hy]
 have hq:HoldsK encI 3 (putRowK encI 3 (Sort.ahead w n) blk 0 ys.toArray) blk 0 ys.toArray:=holdsK_putRowK _ _ _ blk 0 out.toArray ys.toArray (holdsK_ahead _ _ _ _ _ _ _ hH) it
 have hz:∀i x,ys[i]? = some x->∀j,j<3->w'.cell? ⟨blk,i*3+j,none⟩=(encI x)[j]?:=by
  intro i x hi j hj;have he:=(List.getElem?_eq_some_iff.1 hi).1;have h1:=(hq.cell (i:=i) (c:=j) (by simpa using he) hj).1;rw[Nat.zero_add]at h1
  have h2:w'.cell? ⟨blk,i*3+j,none⟩=(putRowK encI 3 (Sort.ahead w n) blk 0 ys.toArray).cell? ⟨blk,i*3+j,none⟩:=by
   rw[<-hw];exact cell_of_heap (Ce (by rw[ih];exact hb.lt))
  rw[h2,h1]
  have h3:ys.toArray[i]! = x:=by
   rw[List.getElem?_eq_getElem he]at hi;simp only[Option.some.injEq]at hi;simp[he,hi]
  rw[h3];have hl:(encI x).length=3:=rfl;rw[List.getElem?_eq_getElem (by omega),getElem!_pos (encI x) j (by omega)]
 have hr:∃hh,Blk w' blk hh/\hh.length=cap*3:=by
  obtain⟨t,ht⟩:=hb;refine⟨(putCells id 0 (flatK encI 3 ys.toArray) cs.toArray).toList,⟨t,?_⟩,by simp[putCells,hlen]⟩;rw[<-hw,Ce (by rw[ih];exact(Array.getElem?_eq_some_iff.1 ht).1)];show(w.heap.modify blk _)[blk]? = _;rw[Array.getElem?_modify,if_pos rfl,ht];simp[onCells]
 obtain⟨hh,hr,ha⟩:=hr;have hm:Blk w' Bs [.slice (some ⟨blk,0,none⟩) out.length cap]:=hB.same (hold Bs hB.lt (Ne.symm hne))
 have hg:∀k,k<B->w'.heap[k]? = W0.heap[k]?:=λk hk=>by
  rw[hold k (Nat.lt_of_lt_of_le hk hs.sim.base) (by omega)];exact hs.kept.block k hk (by simp)
 have hf:Kept B [] W0 w':=by
  refine⟨?_,?_,?_,Nat.le_trans hs.kept.size io,λk hk _=>hg k hk,λk o hk hc=>?_⟩
  .rw[<-hw];exact hs.kept.os
  .rw[<-hw];exact hs.kept.tape
  .rw[<-hw];exact hs.kept.output
  .rw[hg k (by rw[hs.hB];exact(Array.getElem?_eq_some_iff.1 hk).1)];exact hk
 have hp:∀b o,F0 b o->b<B:=λb o h=>by rw[hs.hB];exact hL.lt h
 let F':Fz:=λb o=>F0 b o\/(b=blk/\o<out.length*3)
 refine⟨⟨hdf,⟨hsz,(λs h=>by cases h),(λp h=>by cases h)⟩,Nat.le_trans hs.sim.base io,λb o h=>⟨hp b o h,by simp⟩,Kept.refl _ _ _,F',
  λn i=>if n=s then(match i with|none=>some Bs|some 0=>some blk|some _=>none) else none,?_⟩,hf,(λp h=>by cases h),hs.hB⟩
 refine⟨λb o h=>.inl h,λb o h=>h.imp_right (λh=>by omega),λb o h=>?_,λs1 i1 s2 i2 b h1 h2=>?_,λs1 i1 b h1=>?_,λn=>?_⟩
 .rcases h with h|⟨rfl,h⟩
  .rw[cell_of_heap (hg b (hp b o h))];exact hL b o h
  .have hi:o / 3<ys.length:=by omega
   have:=hz (o / 3) ys[o / 3] (List.getElem?_eq_getElem hi) (o % 3) (Nat.mod_lt _ (by omega));rw[show o / 3*3+o % 3=o by omega]at this;rw[this,List.getElem?_eq_getElem (by show _<3;omega)];rfl
 .by_cases e1:s1=s<;>by_cases e2:s2=s<;>simp only[e1,e2,if_true,if_false]at h1 h2
  .refine⟨by rw[e1,e2],?_⟩
   match i1,i2,h1,h2 with
   |none,none,_,_=>rfl
   |none,some 0,h1,h2=>simp at h1 h2;omega
   |some 0,none,h1,h2=>simp at h1 h2;omega
   |some 0,some 0,_,_=>rfl
   |some (_+1),_,h1,_=>simp at h1
   |none,some (_+1),_,h2=>simp at h2
   |some 0,some (_+1),_,h2=>simp at h2
  .simp at h2
  .simp at h1
  .simp at h1
 .by_cases e1:s1=s
  .simp only[e1,if_true]at h1
   match i1,h1 with
   |none,h1=>simp at h1;subst h1;exact⟨hm.lt,.inl hBs⟩
   |some 0,h1=>simp at h1;subst h1;exact⟨hr.lt,.inl hbl⟩
   |some (_+1),h1=>simp at h1
  .simp[e1]at h1
 .simp only[ca];cases hn:Nat.beq s n with
  |false=>trivial
  |true=>
   have:=Nat.eq_of_beq_eq_true hn;subst this;refine⟨Bs,[.slice (some ⟨blk,0,none⟩) out.length cap],htm,by simp,hm,λo h=>?_,rfl,λj kc u hk hu=>?_⟩
   .rcases h with h|⟨h,_⟩
    .have:=hp _ _ h;omega
    .exact hne h.symm
   .match j,hk,hu with
    |0,hk,hu=>
     simp only[List.getElem?_cons_zero,Option.some.injEq]at hk hu;subst hk;subst hu;simp only[if_true];rw[<-hy]
     refine⟨.lst .item ys blk 0 cap (λi j=>(encI (ys.getD i ⟨0,0,0⟩)).getD j undef) hbl (by omega) (λi j hi hj=>.inr ⟨rfl,by rw[Nat.zero_add,<-hy];exact Yf hi hj⟩) (λi j hi hj=>?_) (λi j x c hx hc=>?_),
      .inr ⟨.item,ys,blk,cap,hh,rfl,rfl,rfl,hr,ha,λo ho h=>?_⟩⟩
     .have hj:j<3:=hj;have h1:=hz i ys[i] (List.getElem?_eq_getElem hi) j hj;show w'.cell? ⟨blk,0+(i*3+j),none⟩=_;rw[Nat.zero_add,h1];have hl:(encI ys[i]).length=3:=rfl;rw[List.getElem?_eq_getElem (by omega)];simp[List.getD_eq_getElem?_getD,List.getElem?_eq_getElem hi,List.getElem?_eq_getElem (show j<(encI ys[i]).length by omega)]
     .have hv:ys.getD i ⟨0,0,0⟩=x:=by rw[List.getD_eq_getElem?_getD,hx];rfl
      rw[hv]
      have hj:j<3:=by
       have:=(List.getElem?_eq_some_iff.1 hc).1;simpa [cells] using this
      rcases (show j=0\/j=1\/j=2 by omega) with rfl|rfl|rfl<;>(simp[cells]at hc;subst hc;exact RC.int _ _)
     .rcases h with h|⟨_,h⟩
      .have:=hp _ _ h;omega
      .have ho:ys.length*3<=o:=ho;omega
    |j+1,hk,hu=>simp at hk
theorem cF{xs:List Item}{S:List Nat}(hnd:S.Nodup)(hlt:∀i∈S,i<(Sa (chI xs)).length)(hall:∀i,i<(Sa (chI xs)).length->i∈S){ys:List Item}(hp:ys.Perm (mb (Sa (chI xs)) S))
  (hso:∀i j,i<j->j<ys.length->ltI (ys.getD j ⟨0,0,0⟩) (ys.getD i ⟨0,0,0⟩)=false):ys=gathI xs:=by
 have hm:=Vi xs;generalize hM:Sa (chI xs)=m at hlt hall hp hm;have hs:(na m).Nodup:=by rw[<-hM];exact jm _
 have hS:S.Perm (List.range m.length):=(List.perm_ext_iff_of_nodup hnd List.nodup_range).2 λi=>⟨λh=>List.mem_range.2 (hlt i h),λh=>hall i (List.mem_range.1 h)⟩
 have hn:(List.range m.length).map (λi=>m.getD i (([0,0,0]:List Int),(0:Int)))=m:=by
  apply List.ext_getElem?;intro i;rw[List.getElem?_map];by_cases h:i<m.length
  .rw[List.getElem?_range h];simp[List.getD_eq_getElem?_getD,List.getElem?_eq_getElem h]
  .rw[List.getElem?_eq_none (by simpa using h),List.getElem?_eq_none (by omega)];rfl
 have ht:ys.Perm ((m.filter λp=>p.2 != 0).map mkI):=by
  refine hp.trans ?_;unfold mb;have:=((hS.map λi=>m.getD i (([0,0,0]:List Int),(0:Int))).filter λp=>p.2 != 0).map mkI;rw[hn]at this;exact this
 have hk:∀p∈m,(kI (mkI p),(mkI p).Count)=p:=λp hp=>by
  obtain⟨k,v,h⟩:=hm.2 p hp;obtain⟨ks,c⟩:=p;simp only at h;subst h;rfl
 have hu:(ys.map λx=>(kI x,x.Count)).Perm (m.filter λp=>p.2 != 0):=by
  have h1:=ht.map λx=>(kI x,x.Count)
  have h2:((m.filter λp=>p.2 != 0).map mkI).map (λx=>(kI x,x.Count))=m.filter λp=>p.2 != 0:=by
   rw[List.map_map]
   conv=>rhs;rw[<-List.map_id (m.filter λp=>p.2 != 0)]
   exact List.map_congr_left (λp hp=>hk p (List.mem_filter.1 hp).1)
  rw[h2]at h1;exact h1
 have ho:(na (ys.map λx=>(kI x,x.Count))).Nodup:=by
  have h1:(na (m.filter λp=>p.2 != 0)).Nodup:=hs.sublist (List.Sublist.map _ List.filter_sublist);exact(hu.map (λp:List Int×Int=>p.1)).nodup_iff.2 h1
 have hh:Asc (ys.map λx=>(kI x,x.Count)):=by
  refine List.pairwise_iff_getElem.2 ?_;intro i j hi hj hl;simp only[List.length_map]at hi hj;simp only[List.getElem_map];have h1:=hso i j hl hj;rw[List.getD_eq_getElem?_getD,List.getD_eq_getElem?_getD,List.getElem?_eq_getElem hi,List.getElem?_eq_getElem hj]at h1;simp only[Option.getD_some]at h1
  have hq:kI ys[i]≠kI ys[j]:=by
   intro e;have h2:(na (ys.map λx=>(kI x,x.Count)))[i]'(by simp[na];exact hi)=(na (ys.map λx=>(kI x,x.Count)))[j]'(by simp[na];exact hj):=by simpa [na] using e
   exact absurd h2 (List.pairwise_iff_getElem.1 ho i j (by simp[na];exact hi) (by simp[na];exact hj) hl)
  simp only[ltI,Bool.or_eq_false_iff,Bool.and_eq_false_iff,decide_eq_false_iff_not]at h1;have hr:¬ (ys[i].Key=ys[j].Key/\ys[i].Val=ys[j].Val):=λ⟨a,b⟩=>hq (by simp[kI,a,b]);simp only[kI,ltK,Bool.or_eq_true,Bool.and_eq_true,decide_eq_true_eq];omega
 have hg:(ys.map λx=>(kI x,x.Count))=qc (chI xs):=by
  unfold qc;rw[hM];have hv:=hu.trans (lm (m.filter λp=>p.2 != 0)).symm;refine uE hv hh (Ts (n:=3) (hs.sublist (List.Sublist.map _ List.filter_sublist)) (λp hp=>hm.1 p (List.mem_filter.1 hp).1))
 unfold gathI;rw[<-hg,List.map_map]
 conv=>lhs;rw[<-List.map_id ys]
 exact List.map_congr_left (λx _=>by cases x;rfl)
theorem dF:(o14 0).op=.load 35 (.tmp 6)/\(o14 0).dst=some 45/\(o14 0).guard=none/\(o14 1).op=.makeInterface 35 (.tmp 45)/\(o14 1).dst=some 46/\(o14 1).guard=none /\
  (o14 2).op=.makeFunc (.func 127) #[] #[.tmp 6]/\(o14 2).dst=some 47/\(o14 2).guard=none/\(o14 3).op=.call ⟨.value (.func 84),#[.tmp 46,.tmp 47],#[20, 98]⟩/\(o14 3).dst=some 48/\(o14 3).guard=none:=by
 refine⟨by kernel_rfl,by kernel_rfl,by kernel_rfl,by kernel_rfl,by kernel_rfl,by kernel_rfl,by kernel_rfl,by kernel_rfl,by kernel_rfl,by kernel_rfl,by kernel_rfl,by kernel_rfl⟩
theorem Hf:(opsOf (nav C0 [1,1,1,1,1,0]))[0]? = some (o14 0)/\(opsOf (nav C0 [1,1,1,1,1,0]))[1]? = some (o14 1)/\(opsOf (nav C0 [1,1,1,1,1,0]))[2]? = some (o14 2)/\(opsOf (nav C0 [1,1,1,1,1,0]))[3]? = some (o14 3) /\
 List.range (opsOf (nav C0 [1,1,1,1,1,0])).size=[0,1,2,3]:=⟨by kernel_rfl,by kernel_rfl,by kernel_rfl,by kernel_rfl,by kernel_rfl⟩
noncomputable def fnS:Func:=(Tryz.prog.funcs[84]?).getD default
theorem bk : Tryz.prog.funcs[84]? = some fnS/\(fnS.name == "runtime.NumGoroutine")=false/\fnS.body.isNone=false:=⟨by kernel_rfl,by kernel_rfl,by kernel_rfl⟩
theorem tdT:Cb Tryz.prog 35 ⟨.slice 77,1,[.nl .item],none,false⟩:=Be.td _ _ (by kernel_rfl)
theorem SL{P:Program}{a:Act}{w:World}{o:Oper}{f x y t u:Nat}{fn:Func}(hop:o.op=.call ⟨.value (.func f),#[.tmp x,.tmp y],#[t,u]⟩)(hfn:P.funcs[f]? = some fn)(hname:(fn.name == "runtime.NumGoroutine")=false)(hbody:fn.body.isNone=false) :
  (execOp a.eval o).run P w=.ok (.enter f #[a.tmps.getD x undef,a.tmps.getD y undef]) w:=by
 obtain⟨hh,op,ty,pos,aft,gd⟩:=o;simp only[]at hop;subst hop;have hj:¬ fn.name="runtime.NumGoroutine":=by simpa using hname
 have hi:¬ fn.body=none:=by intro e;rw[e]at hbody;simp at hbody
 simp[execOp,resolve,Act.eval,Deferred.ofValue,invoke,callFunc,hfn,hj,hi]
theorem fF{a:Act}{w:World}{o:Oper}(hop:o.op=.load 35 (.tmp 6)){Bs:Nat}{sl:Value}(hx:a.tmps.getD 6 undef=.pointer (some ⟨Bs,0,none⟩))(hb:Blk w Bs [sl]):(execOp a.eval o).run Tryz.prog w=.ok (.value sl) w:=Ff hop hx tdT rfl (by rw[hb.cell];rfl)
set_option maxRecDepth 20000 in
theorem gF{out:List Item}(hlen:out.length<=1099511627776){Q:Exit->Act->World->Prop}{B:Nat}{W0:World}{F0:Fz}(hL:Live F0 W0){a:Act}{w:World}(hs:MS ⟨50,none,[]⟩ B [] W0 F0 [] (E2 out) a w)
  (hQ:∀ys a w,ys.Perm out->(∀i j,i<j->j<ys.length->ltI (ys.getD j ⟨0,0,0⟩) (ys.getD i ⟨0,0,0⟩)=false)->MS ⟨50,none,[]⟩ B [] W0 F0 [] (E2 ys) a w->Q .normal a w):(nav C0 [1,1,1,1,1,0]).wp Tryz.prog Q a w:=by
 obtain⟨p0,d0,g0,p1,d1,g1,p2,d2,g2,p3,d3,g3⟩:=dF;obtain⟨Bs,sl,h6,hB,ho,hu⟩:=YE (s:=6) hs rfl;have hsz:a.tmps.size=50:=hs.sim.tmps.size;refine Gc (by kernel_rfl) Hf.2.2.2.2 ?_;rw[wpOps_cons];refine ra Hf.1 g0 ?_;refine Ra (fF p0 h6 hB) ?_;rw[d0,wpOps_cons];refine ra Hf.2.1 g1 ?_;refine Ra (UK p1 (e:=77) (by kernel_rfl)) ?_;rw[d1,wpOps_cons];refine ra Hf.2.2.1 g2 ?_;refine Ra (VK p2) ?_;rw[d2,wpOps_cons];refine ra Hf.2.2.2.1 g3 ?_;have hm:(a.put (some 45) sl).tmps.getD 45 undef=sl:=by rw[Ga a 45 sl (by omega),if_pos rfl]
 rw[hm];generalize ha1:a.put (some 45) sl=a1;have s1:a1.tmps.size=50:=by rw[<-ha1,xe,hsz]
 have t1:a1.tmps.getD 6 undef=.pointer (some ⟨Bs,0,none⟩):=by rw[<-ha1,Ga a 45 sl (by omega),if_neg (by omega)];exact h6
 have hh:a1.defers=[]:=by rw[<-ha1];exact hs.sim.defers
 generalize ha2:a1.put (some 46) (.iface 35 sl)=a2;have s2:a2.tmps.size=50:=by rw[<-ha2,xe,s1]
 have t2:a2.tmps.getD 6 undef=.pointer (some ⟨Bs,0,none⟩):=by rw[<-ha2,Ga a1 46 _ (by omega),if_neg (by omega)];exact t1
 have v2:a2.tmps.getD 46 undef=.iface 35 sl:=by rw[<-ha2,Ga a1 46 _ (by omega),if_pos rfl]
 have hi:a2.defers=[]:=by rw[<-ha2];exact hh
 rw[t2];generalize ha3:a2.put (some 47) (.func (.func 127) #[] #[.pointer (some ⟨Bs,0,none⟩)])=a3;have s3:a3.tmps.size=50:=by rw[<-ha3,xe,s2]
 have t3:a3.tmps.getD 6 undef=.pointer (some ⟨Bs,0,none⟩):=by rw[<-ha3,Ga a2 47 _ (by omega),if_neg (by omega)];exact t2
 have v3:a3.tmps.getD 46 undef=.iface 35 sl:=by rw[<-ha3,Ga a2 47 _ (by omega),if_neg (by omega)];exact v2
 have u3:a3.tmps.getD 47 undef=.func (.func 127) #[] #[.pointer (some ⟨Bs,0,none⟩)]:=by rw[<-ha3,Ga a2 47 _ (by omega),if_pos rfl]
 have hl:a3.defers=[]:=by rw[<-ha3];exact hi
 unfold Oper.wp;rw[SL p3 bk.1 bk.2.1 bk.2.2,Oper.upon_enter,v3,u3];have s4:∀v,(a3.put (some 48) v).tmps.size=50:=λv=>by rw[xe,s3]
 have t4:∀v,(a3.put (some 48) v).tmps.getD 6 undef=.pointer (some ⟨Bs,0,none⟩):=λv=>by rw[Ga a3 48 _ (by omega),if_neg (by omega)];exact t3
 rcases hu with⟨rfl,rfl⟩|⟨blk,cap,cs,rfl,hb,hv,ht,hr,ha,hw⟩
 .have hK : Tryz.prog.funcs.findIdx? (·.name == "internal/reflectlite"++".Swapper$"++toString (Lib.swapperK 0 svE 25))=some 142:=by
   rw[show Lib.swapperK 0 svE 25=1 by kernel_rfl];kernel_rfl
  refine(Any.sort_Slice_tiny sl6 35 77 svT svE (by kernel_rfl) (by kernel_rfl) (by kernel_rfl) (by kernel_rfl) 25 (λ_=>by kernel_rfl) none 0 0 (by omega) 142 hK (.func 127) #[] _ w).mono ?_;rintro e w' ⟨rfl,os,rfl⟩;show wpOps _ _ _ _ _ _;rw[d3];refine sc _ (hQ [] _ _ (.refl _) (λi j _ h=>by simp at h) ?_);have hg:Pa (λ_ _=>False) w (λ_ _=>False) (grow w os):=⟨rfl,rfl,rfl,by show w.heap.size<=(w.heap++os).size;simp,λk hk=>Ce hk,λ_ _ h=>h,λ_ _ h=>.inl h⟩;obtain⟨F,ow,hx⟩:=hs.sim.rep
  have ih:ga B [] F0 (E2 []) (λn=>a.tmps.getD n undef) (grow w os) F ow:=hx.grow hs.sim.base ⟨hg.os,hg.tape,hg.output,hg.size,hg.block,λ_ _ h=>h,λ_ _ h=>.inl h⟩ (λb o h=>by
   rw[cell_of_heap (Ce ((show Live F w from hx.live).lt h))];exact hx.live b o h)
  have hc:Sim ⟨50,none,[]⟩ B [] w F0 (E2 []) a (grow w os):=⟨hs.sim.defers,hs.sim.tmps,hs.sim.base,hs.sim.f0,⟨rfl,rfl,rfl,hg.size,λk hk _=>Ce (Nat.lt_of_lt_of_le hk hs.sim.base),λk o hk _=>by
   rw[Ce (Array.getElem?_eq_some_iff.1 hk).1];exact hk⟩,F,ow,ih⟩
  have hz:=hs.of_sim hc;refine hz.tmps (D:=[45,46,47,48]) (by kernel_rfl) (λd hd=>?_) rfl (by rw[show(a3.put (some 48) _).defers=a3.defers from rfl];exact hl) (by rw[s4,hsz]) (λn hn=>?_)
  .simp at hd;rcases hd with rfl|rfl|rfl|rfl<;>exact⟨rfl,rfl⟩
  .simp at hn;rw[Ga a3 48 _ (by omega),if_neg (by omega),<-ha3,Ga a2 47 _ (by omega),if_neg (by omega),<-ha2,Ga a1 46 _ (by omega),if_neg (by omega),<-ha1,Ga a 45 _ (by omega),if_neg (by omega)]
 .have hH:=holds_of hb hv hw;have hd:out.toArray.size=out.length:=by simp
  have hf:=ME blk 0 cap Bs out.toArray (by rw[hd];omega) w hH hb.lt (by rw[hd,hB.cell];rfl) hB.lt (Ne.symm ha);rw[hd]at hf;refine hf.mono ?_;rintro e w' ⟨rfl,d',n,os,hp,he,rfl⟩;show wpOps _ _ _ _ _ _;rw[d3];have hp:d'.toList.Perm out:=by simpa using hp
  have hq:=bF (a':=a3.put (some 48) (.tuple #[])) (s:=6) (ys:=d'.toList) (n:=n) (os:=os) hs hL hB ho hb hv ht hr ha hH hp.length_eq hl (s4 _) (t4 _);rw[Array.toArray_toList]at hq;refine sc _ (hQ d'.toList _ _ hp (λi j hij hj=>?_) hq);have hy:j<d'.size:=by simpa using hj
  have:=he i j hij hy;rw[getElem!_pos d' j hy,getElem!_pos d' i (by omega)]at this;rw[List.getD_eq_getElem?_getD,List.getD_eq_getElem?_getD,List.getElem?_eq_getElem hj,List.getElem?_eq_getElem (show i<d'.toList.length by simp;omega)];simpa using this
end
theorem op1:(o1 0).op=.makeMap 128 none/\(o1 0).dst=some 9/\(o1 0).guard=none/\(o1 1).op=.assign (.tmp 9)/\(o1 1).dst=some 3/\(o1 1).guard=none /\
  (o8 0).op=.move (.tmp 3)/\(o8 0).dst=some 30/\(o8 0).guard=none/\(o8 1).op=.range 128 (.tmp 30)/\(o8 1).dst=some 31/\(o8 1).guard=none:=by
 refine⟨by kernel_rfl,by kernel_rfl,by kernel_rfl,by kernel_rfl,by kernel_rfl,by kernel_rfl,by kernel_rfl,by kernel_rfl,by kernel_rfl,by kernel_rfl,by kernel_rfl,by kernel_rfl⟩
theorem at1:(opsOf (nav C0 [1,0]))[0]? = some (o1 0)/\(opsOf (nav C0 [1,0]))[1]? = some (o1 1)/\List.range (opsOf (nav C0 [1,0])).size=[0,1] /\
 (opsOf (nav C0 [1,1,1,1,0,0]))[0]? = some (o8 0)/\(opsOf (nav C0 [1,1,1,1,0,0]))[1]? = some (o8 1)/\List.range (opsOf (nav C0 [1,1,1,1,0,0])).size=[0,1]:=⟨by kernel_rfl,by kernel_rfl,by kernel_rfl,by kernel_rfl,by kernel_rfl,by kernel_rfl⟩
set_option maxRecDepth 20000 in
set_option maxHeartbeats 800000 in
theorem UL:Con Tryz.prog 96 iF:=by
 refine fm Be (fn:=Tryz.f96) (c:=C0) (by kernel_rfl) (by kernel_rfl) (by kernel_rfl) (rs:=[.tmp 2]) (by kernel_rfl) (by kernel_rfl) (λ_=>rfl) ?_;intro x hx fr hm hn hl a w hs;obtain⟨B,IoB,W0,F0⟩:=fr;have hl:IoB=[]:=hl rfl;subst hl;obtain⟨xs,u⟩:=x;have ho:lim (ba .item xs) 1:=hx;obtain⟨p0,d0,g0,p1,d1,g1,hv,hh,hj,hw,hi,hk⟩:=op1;have ht:MS ⟨50,none,[]⟩ B [] W0 F0 [] [(0,.v .sh (.lst .item xs))] a w:=(MS.of hs hm).forget (by kernel_rfl) rfl (λp h=>by cases h) (λp h=>by cases h);refine ma (c1:=nav C0 [0]) (c2:=nav C0 [1]) (by kernel_rfl) ?_;refine MS.regC gg (keep:=[0]) (e':=[(0,.v .sh (.lst .item xs))]) (ps:=[]) (by kernel_rfl) trivial ht (λa w hs=>?_);refine ma (c1:=nav C0 [1,0]) (c2:=nav C0 [1,1]) (by kernel_rfl) ?_;refine Gc (by kernel_rfl) at1.2.2.1 ?_;rw[wpOps_cons];refine ra at1.1 g0 ?_;refine Ra (vE p0) ?_;rw[d0,wpOps_cons];have h1:=hs.alloc (d:=9) (by kernel_rfl) (v:=.map (some w.heap.size)) (o:=.map #[] 0) rfl;refine ra at1.2.1 g1 ?_;refine Ra (Us p1) ?_;rw[d1,h1.k (s:=9) (v:=.map (some w.heap.size)) (by simp)];have h2:=h1.val (d:=3) (by kernel_rfl) (v:=.map (some w.heap.size)) (av:=.dead) rfl (λ_ _=>trivial);have h3:MS (N1 w.heap.size) B [] W0 F0 [(w.heap.size,oa [])] [(0,.v .sh (.lst .item xs))] _ _:=(h2.weak (xa.cast (pat:=[(0,.same)]) (by kernel_rfl) (by kernel_rfl))).forget rfl rfl (λp hp=>by simp at hp⊢;simp[hp]) (λp hp=>hp);generalize w.heap.size=r at h3;clear h1 h2;refine sc _ ?_;show(nav C0 [1,1]).wp _ _ _ _;generalize w.alloc (.map #[] 0)=w1 at h3⊢;generalize (a.put (some 9) _).put (some 3) _=a1 at h3⊢;refine ma (c1:=nav C0 [1,1,0]) (c2:=nav C0 [1,1,1]) (by kernel_rfl) ?_;refine ma (c1:=nav C0 [1,1,0,0]) (c2:=nav C0 [1,1,0,1]) (by kernel_rfl) ?_;refine MS.regC gg (keep:=[10,11,12]) (e':=EL xs 0) (ps:=[]) (by kernel_rfl) trivial h3 (λa w hs=>?_);refine VE ho hs (λa w hs=>?_);show(nav C0 [1,1,1]).wp _ _ a w;refine ma (c1:=nav C0 [1,1,1,0]) (c2:=nav C0 [1,1,1,1]) (by kernel_rfl) ?_;refine MS.regC gg (keep:=[6]) (e':=E2 []) (ps:=[]) (by kernel_rfl) trivial hs (λa w hs=>?_);refine ma (c1:=nav C0 [1,1,1,1,0]) (c2:=nav C0 [1,1,1,1,1]) (by kernel_rfl) ?_;refine ma (c1:=nav C0 [1,1,1,1,0,0]) (c2:=nav C0 [1,1,1,1,0,1]) (by kernel_rfl) ?_;refine Gc (by kernel_rfl) at1.2.2.2.2.2 ?_;rw[wpOps_cons];refine ra at1.2.2.2.1 hj ?_;refine Ra (Ae hv) ?_;rw[hh,wpOps_cons,hs.k (s:=3) (v:=.map (some r)) (by simp)];have h4:=hs.val (d:=30) (by kernel_rfl) (v:=.map (some r)) (av:=.dead) rfl (λ_ _=>trivial);refine ra at1.2.2.2.2.1 hk ?_;refine Ra (RK hw (by rw[h4.k (s:=30) (v:=.map (some r)) (by simp)];exact XK (K:=77) (E:=3) (by kernel_rfl) (h4.o (r:=r) (o:=oa (Sa (chI xs))) (by simp)))) ?_;rw[hi];have hq:r<w.heap.size:=(Array.getElem?_eq_some_iff.1 (h4.o (r:=r) (o:=oa (Sa (chI xs))) (by simp))).1;have h5:=h4.alloc (d:=31) (by kernel_rfl) (v:=.pointer (some ⟨w.heap.size,0,none⟩)) (o:=vb r (Sa (chI xs)) []) rfl;have h6:MS (N2 w.heap.size) B [] W0 F0 [(w.heap.size,vb r (Sa (chI xs)) []),(r,oa (Sa (chI xs)))] (E2 []) _ _:=(h5.weak (xa.cast (pat:=[(6,.same)]) (by kernel_rfl) (by kernel_rfl))).forget rfl rfl (λp hp=>by simp at hp⊢;simp[hp]) (λp hp=>hp);refine sc _ ?_;show(nav C0 [1,1,1,1,0,1]).wp _ _ _ _
 have hr:(Sa (chI xs)).length<=1099511627775:=by
  have h1:=RL (chI xs);have h2:(chI xs).length=xs.length:=by simp[chI]
  have h3:(xs.length:Int)+1<=1099511627776:=ho;omega
 refine XE (Vi xs).2 hr (by omega) h6 (λS a w hnd hq hall hs=>?_);show(nav C0 [1,1,1,1,1]).wp _ _ a w;refine ma (c1:=nav C0 [1,1,1,1,1,0]) (c2:=nav C0 [1,1,1,1,1,1]) (by kernel_rfl) ?_
 have hu:(mb (Sa (chI xs)) S).length<=1099511627776:=by
  have h1:=zm (Sa (chI xs)) S;have h2:=Wi hnd hq;omega
 refine gF hu hn (hs.forget rfl rfl (λp h=>by cases h) (λp h=>by cases h)) (λys a w hp hso hs=>?_);have hy:=cF hnd hq hall hp hso;subst hy;show(nav C0 [1,1,1,1,1,1]).wp _ _ a w;refine ma (c1:=nav C0 [1,1,1,1,1,1,0]) (c2:=nav C0 [1,1,1,1,1,1,1]) (by kernel_rfl) ?_;refine MS.regC gg (keep:=[2]) (e':=[(2,.v .fr (.lst .item (gathI xs)))]) (ps:=[]) (by kernel_rfl) trivial hs (λa w hs=>?_);refine Pi (by kernel_rfl) ?_;refine⟨[(2,.v .fr (.lst .item (gathI xs)))],?_,?_⟩
 .exact (hs.forget (N':=⟨(Tryz.f96).ntmps,none,[]⟩) (obs':=[]) (by kernel_rfl) rfl (λp h=>by cases h) (λp h=>by cases h)).to
 .exact⟨rfl,trivial⟩
section
open Go Go.Shelf Go.RowKit Go.Lib Go.Sort
structure Ln where
 n:Nat
 os:Array Obj
instance:Add Ln:=⟨λa b=>⟨a.n+b.n,a.os++b.os⟩⟩
instance:OfNat Ln 0:=⟨⟨0,#[]⟩⟩
def later(w:World)(x:Ln):World:=grow (Sort.ahead w x.n) x.os
theorem nb(w:World)(x y:Ln):later (later w x) y=later w (x+y):=by
 show grow (Sort.ahead (grow (Sort.ahead w x.n) x.os) y.n) y.os=grow (Sort.ahead w (x.n+y.n)) (x.os++y.os);rw[ahead_grow,grow_grow,ahead_ahead]
theorem re(w:World):later w 0=w:=by
 show grow (Sort.ahead w 0) #[]=w;rw[grow_empty];rfl
theorem NS{w:World}{a:Addr}(h:a.block<w.heap.size)(x:Ln):(later w x).cell? a=w.cell? a:=cell?_grow _ _ _ h
section
variable {P:Program}{α:Type} [Inhabited α] {enc:α->List Value}{k:Nat}{w w0 W:World}{blk off:Nat}{d dk X:Array α}
theorem Gag(n:Nat)(dk:Array α)(os:Array Obj)(x:Ln):later (sortWorldK enc k w0 blk off n dk os) x=sortWorldK enc k w0 blk off (n+x.n) dk (os++x.os):=by
 unfold sortWorldK;show grow (Sort.ahead (grow (putRowK enc k (Sort.ahead w0 n) blk off dk) os) x.n) x.os=_;rw[ahead_grow,grow_grow];have:=putRowK_drewN enc k w0 n x.n blk off dk;rw[<-this];rfl
theorem Gl(h:SWK enc k w0 blk off dk W)(x:Ln):SWK enc k w0 blk off dk (later W x):=by
 obtain⟨n,os,rfl⟩:=h;exact⟨_,_,Gag n dk os x⟩
theorem Hag(h:HoldsK enc k w blk off d)(hb:blk<w.heap.size)(x:Ln):HoldsK enc k (later w x) blk off d:=holdsK_grow enc k _ _ blk off d hb (holdsK_ahead enc k w x.n blk off d h)
def LessReadsK(P:Program)(g:Nat)(lb:Array Value)(enc:α->List Value)(k:Nat)(lt:α->α->Bool)(blk off size:Nat)(w:World):Prop:=
 ∀ (m:Nat) (os:Array Obj) (dk:Array α),dk.size=size->∀i j:Nat,i<size->j<size ->
   Calls P g (#[.int .i64 i,.int .i64 j]++lb) (sortWorldK enc k w blk off m dk os) λe w'=>e=.returned (.bool (lt dk[i]! dk[j]!))/\∃q,w'=later (sortWorldK enc k w blk off m dk os) q
variable {g:Nat}{lb:Array Value}{lt:α->α->Bool}{size:Nat}
theorem LessReadsK.grow(h:LessReadsK P g lb enc k lt blk off size w)(hblk:blk<w.heap.size)(os0:Array Obj) :
  LessReadsK P g lb enc k lt blk off size (Sort.grow w os0):=λm os dk hs i j hi hj=>by
 have e:sortWorldK enc k (Sort.grow w os0) blk off m dk os=sortWorldK enc k w blk off m dk (os0++os):=by
  unfold sortWorldK;rw[ahead_grow,putRowK_grow enc k (Sort.ahead w m) _ blk off _ hblk,grow_grow]
 rw[e];exact h m _ dk hs i j hi hj
theorem LessReadsK.on(h:LessReadsK P g lb enc k lt blk off size w)(hblk:blk<w.heap.size)(n:Nat)(dk:Array α)(os:Array Obj)(hs:dk.size=size) :
  LessReadsK P g lb enc k lt blk off size (sortWorldK enc k w blk off n dk os):=λm os' dk' hs' i j hi hj=>by
 rw[sortWorldK_on enc k w blk off n m dk dk' os os' hblk (hs'.trans hs.symm)];exact h _ _ dk' hs' i j hi hj
theorem gh(h:SWK enc k w0 blk off dk W)(hL:LessReadsK P g lb enc k lt blk off size w0)(hs:dk.size=size)(i j:Nat)(hi:i<size)(hj:j<size) :
  Calls P g (#[.int .i64 i,.int .i64 j]++lb) W λe w'=>e=.returned (.bool (lt dk[i]! dk[j]!))/\∃q,w'=later W q:=by
 obtain⟨n,os,rfl⟩:=h;exact hL n os dk hs i j hi hj
theorem DI(h:SWK enc k w0 blk off dk W)(hL:LessReadsK P g lb enc k lt blk off size w0)(hblk:blk<w0.heap.size)(hs:dk.size=size):LessReadsK P g lb enc k lt blk off size W:=by
 obtain⟨n,os,rfl⟩:=h;exact hL.on hblk n dk os hs
theorem jh(enc:α->List Value)(k:Nat)(w:World)(o:Obj)(blk off:Nat)(x:Ln)(X:Array α)(hblk:blk<w.heap.size) :
  later (putRowK enc k (w.alloc o) blk off X) x=sortWorldK enc k w blk off x.n X (#[o]++x.os):=by
 unfold sortWorldK;rw[alloc_eq_grow,putRowK_grow enc k w _ blk off X hblk];show grow (Sort.ahead (grow (putRowK enc k w blk off X) #[o]) x.n) x.os=_;rw[ahead_grow,grow_grow];have:=putRowK_drewN enc k w 0 x.n blk off X;rw[Nat.zero_add]at this;rw[<-this];rfl
theorem QS(h:LessReadsK P g lb enc k lt blk off size w)(o:Obj)(hblk:blk<w.heap.size)(hX:X.size=size)(x:Ln)(i j:Nat)(hi:i<size)(hj:j<size) :
  Calls P g (#[.int .i64 i,.int .i64 j]++lb) (later (putRowK enc k (w.alloc o) blk off X) x) λe w'=>e=.returned (.bool (lt X[i]! X[j]!))/\∃q,w'=later (putRowK enc k (w.alloc o) blk off X) (x+q):=by
 have:=h x.n (#[o]++x.os) X hX i j hi hj;rw[<-jh enc k w o blk off x X hblk]at this;exact this.mono λe w' ⟨he,q,hq⟩=>⟨he,q,hq.trans (nb _ _ _)⟩
theorem swap_worldFK(enc:α->List Value)(k:Nat)(hk:∀x,(enc x).length=k)(w:World)(blk off:Nat)(hblk:blk<w.heap.size)(dk:Array α)(n:Ln)(i j:Nat)(hi:i<dk.size)(hj:j<dk.size) :
  ((later (putRowK enc k w blk off dk) n).setCells blk (off+i*k) (enc dk[j]!)).setCells blk (off+j*k) (enc dk[i]!)=later (putRowK enc k w blk off (swp dk i j)) n:=by
 have h1:blk<(Sort.ahead (putRowK enc k w blk off dk) n.n).heap.size:=by
  show blk<(putRowK enc k w blk off dk).heap.size;rw[size_putRowK];exact hblk
 show((grow (Sort.ahead (putRowK enc k w blk off dk) n.n) n.os).setCells _ _ _).setCells _ _ _=grow (Sort.ahead (putRowK enc k w blk off (swp dk i j)) n.n) n.os;rw[setCells_grow _ _ _ _ _ h1,setCells_grow _ _ _ _ _ (by rw[size_setCells];exact h1)];rw[show Sort.ahead (putRowK enc k w blk off dk) n.n=(putRowK enc k w blk off dk).drewN n.n from rfl,setCells_drewN,setCells_drewN,putRowK_swp enc k hk w blk off dk i j hi hj];rfl
theorem FI{sf:Nat}{sb:Array Value}(hswap:SwapSwapsK P sf sb enc k blk off size)(hk:∀x,(enc x).length=k)(hH:HoldsK enc k w blk off d)(hblk:blk<w.heap.size)(hd:d.size=size)(hX:X.size=size)(x:Ln)(i j:Nat)(hi:i<size)(hj:j<size) :
  (callFunc sf (#[.int .i64 i,.int .i64 j]++sb)).run P (later (putRowK enc k w blk off X) x)=.ok (.value (.tuple #[])) (later (putRowK enc k w blk off (swp X i j)) x):=by
 rw[hswap _ X (Hag (holdsK_putRowK enc k _ blk off d X hH (hX.trans hd.symm)) (by rw[size_putRowK];exact hblk) x) hX i j hi hj];rw[swap_worldFK enc k hk w blk off hblk X x i j (by omega) (by omega)]
theorem yg{o:Obj}{kk:Nat}{v:Value}(h:(w.alloc o).cell? ⟨w.heap.size,kk,none⟩=some v)(hblk:blk<w.heap.size)(x:Ln) :
  (later (putRowK enc k (w.alloc o) blk off X) x).cell? ⟨w.heap.size,kk,none⟩=some v:=by
 rw[NS (by rw[size_putRowK,alloc_eq_grow,size_grow];show w.heap.size<w.heap.size+1;omega),cell?_putRowK_other enc k _ blk off X _ (by show w.heap.size≠blk;omega)];exact h
theorem GI(hH:HoldsK enc k w blk off d):w=later (putRowK enc k w blk off d) 0:=by
 rw[re,putRowK_self enc k w blk off d hH]
end
end
section
open Go Go.Shelf Go.RowKit Go.Lib Go.Sort
variable {P:Program}{ρ:Ren}{α:Type} [Inhabited α]
set_option maxHeartbeats 2000000 in
set_option maxRecDepth 100000 in
theorem Any.insertionSort_func_cells(L:LaysGg.n26 P ρ)(enc:α->List Value)(k:Nat)(hk:∀x,(enc x).length=k)(lt:α->α->Bool)(g:Nat)(lb:Array Value)(sf:Nat)(sb:Array Value)(blk off a b:Nat)(d:Array α)(w:World)
  (eg:∀args w,(callFunc g args).run P w=.ok (.enter g args) w) (hless:LessReadsK P g lb enc k lt blk off d.size w) (hswap:SwapSwapsK P sf sb enc k blk off d.size)
  (hH:HoldsK enc k w blk off d) (hblk:blk<w.heap.size) (hab:a<=b) (hb:b<=d.size) (hsz:d.size<4611686018427387904) :
  Calls P (ρ.f 26) #[.agg #[.func (.func g) #[] lb,.func (.func sf) #[] sb],.int .i64 a,.int .i64 b] w λe w'=>
   e=.returned (.tuple #[])/\∃n,w'=(later (putRowK enc k (w.alloc (.cells #[.func (.func g) #[] lb,.func (.func sf) #[] sb] (ρ.t 44))) blk off (Sort.insertionSort lt d a b)) n):=by
 have mixed:=L.mixed;have t0:=L.t0;have a0:=L.a0;have z0:=L.z0;have v0:=L.v0;have t3:=L.t3;have a3:=L.a3;have z3:=L.z3;have v3:=L.v3;have t4:=L.t4;have a4:=L.a4;have z4:=L.z4;have v4:=L.v4;have he:=L.t26;have hh:=L.a26;have z26:=L.z26;have io:=L.v26;have hf:=L.t37;have hi:=L.a37;have ie:=L.z37;have it:=L.v37;have hg:=L.t44;have hj:=L.a44;have ju:=L.z44;have ix:=L.v44;have ih:=run_underlying L.t44;have hn:HoldsK enc k (w.alloc (.cells #[.func (.func g) #[] lb,.func (.func sf) #[] sb] (ρ.t 44))) blk off d:=by rw[alloc_eq_grow];exact holdsK_grow enc k w _ blk off d hblk hH
 have hr:blk<(w.alloc (.cells #[.func (.func g) #[] lb,.func (.func sf) #[] sb] (ρ.t 44))).heap.size:=by rw[alloc_eq_grow,size_grow];omega
 go_enter L.f26,BodyGg.n26_ntmps ρ
 go_wp2
 go_loopw [6] (λvi wr=>∃(i:Nat) (n:Ln) (dk:Array α),vi=.int .i64 i/\a<i/\i<=b+1/\dk.size=d.size/\wr=(later (putRowK enc k (w.alloc (.cells #[.func (.func g) #[] lb,.func (.func sf) #[] sb] (ρ.t 44))) blk off dk) n) /\
  insOuter lt a b i dk=insOuter lt a b (a+1) d) (λvi _=>b+1 - (intOf vi).toNat)
 case atStart=>exact⟨a+1,0,d,by go_num,by omega,by omega,rfl,GI hn,rfl⟩
 case round=>
  obtain⟨i,n,dk,rfl,hp,hu,hz,hc,hO⟩:=hrel;have HO:Hid (insOuter lt a b i dk=insOuter lt a b (a+1) d):=hO;clear hO
  go_wp2
  ·
   go_loopw [7] (λvj wr2=>∃(j:Nat) (m:Ln) (dj:Array α),vj=.int .i64 j/\a<=j/\j<=i/\dj.size=d.size/\wr2=(later (putRowK enc k (w.alloc (.cells #[.func (.func g) #[] lb,.func (.func sf) #[] sb] (ρ.t 44))) blk off dj) m) /\
    insInner lt a j dj=insInner lt a i dk) (λvj _=>(intOf vj).toNat)
   case atStart=>exact⟨i,n,dk,rfl,by omega,Nat.le_refl _,hz,rfl,rfl⟩
   case round=>
    obtain⟨j,m,dj,rfl,hq,hv,hy,ha,hI⟩:=hrel;have hw:i<b:=by assumption
    have c0:∀q,(later wr q).cell? ⟨w.heap.size,0,none⟩=some (.func (.func g) #[] lb):=λq=>by rw[ha,nb];exact yg (by simp) hblk _
    have c1:∀q,(later wr q).cell? ⟨w.heap.size,1,none⟩=some (.func (.func sf) #[] sb):=λq=>by rw[ha,nb];exact yg (by simp) hblk _
    have hm:wr.cell? ⟨w.heap.size,0,none⟩=some (.func (.func g) #[] lb):=by have:=c0 0;rwa [re]at this
    have HW:Hid (wr=(later (putRowK enc k (w.alloc (.cells #[.func (.func g) #[] lb,.func (.func sf) #[] sb] (ρ.t 44))) blk off dj) m)):=ha;have HI:Hid (insInner lt a j dj=insInner lt a i dk):=hI;have HH1:Aside _:=hn;clear ha hI hH hn
    have out:(j<=a\/lt dj[j]! dj[j - 1]! = false)->∀q,∃i' n' dk',Value.int .i64 ((i:Int)+1)=.int .i64 (i':Nat)/\a<i'/\i'<=b+1/\dk'.size=d.size /\
      (later wr q)=(later (putRowK enc k (w.alloc (.cells #[.func (.func g) #[] lb,.func (.func sf) #[] sb] (ρ.t 44))) blk off dk') n')/\insOuter lt a b i' dk'=insOuter lt a b (a+1) d:=λhs q=>
     ⟨i+1,m+q,dj,by go_num,by omega,by omega,hy,by rw[HW.out,nb],
       by rw[<-HO.out,insOuter_go _ _ _ _ _ hw,<-HI.out,insInner_stop _ _ _ _ hs]⟩
    have OUT:Hid _:=out;clear out;by_cases hja:a<j
    .have ho:SWK enc k w blk off dj wr:=by rw[HW.out,jh enc k w _ blk off m dj hblk];exact⟨_,_,rfl⟩
     have hl:=gh ho hless hy j (j - 1) (by omega) (by omega);clear ho;rw[show(((j - 1:Nat):Int))=(j:Int) - 1 by omega]at hl;cases hlv:lt dj[j]! dj[j - 1]! with
     |true=>
      rw[hlv]at hl
      go_wp2_with (go_at_fn g;refine hl.mono ?_;rintro e w' ⟨rfl,q,rfl⟩)
      have hs:=FI hswap hk HH1.out hr rfl hy (m+q) j (j - 1) (by omega) (by omega);rw[<-nb,<-HW.out]at hs;rw[show(((j - 1:Nat):Int))=(j:Int) - 1 by omega]at hs;rw[hs,Oper.upon_value]
      go_wp2
      go_roundw
      case rel=>
       (repeat apply Exists.intro)
       refine⟨⟨j - 1,m+q,swp dj j (j - 1),by congr 1<;>omega,by omega,by omega,by rw[size_swp];exact hy,?_,?_⟩,by rw[decide_eq_true hw,show((j - 1:Nat):Int)=(j:Int) - 1 by omega]⟩
       .rfl
       .rw[<-HI.out,insInner_go lt a j dj hja hlv]
      case measure=>simp[intOf];omega
     |false=>
      rw[hlv]at hl
      go_wp2_with (go_at_fn g;refine hl.mono ?_;rintro e w' ⟨rfl,q,rfl⟩)
      go_roundw
      case rel=>exact OUT.out (Or.inr hlv) q
      case measure=>simp[intOf];omega
    .go_wp2
     go_roundw
     case rel=>have h0:=OUT.out (Or.inl (by omega)) 0;rw[re]at h0;exact h0
     case measure=>simp[intOf];omega
  ·
   have ht:¬ i<b:=by assumption
   go_end0
   exact⟨rfl,n,by unfold Sort.insertionSort;rw[<-HO.out,insOuter_stop _ _ _ _ _ ht]⟩
theorem Any.insertionSort_func_cells_w(L:LaysGg.n26 P ρ)(enc:α->List Value)(k:Nat)(hk:∀x,(enc x).length=k)(lt:α->α->Bool)(g:Nat)(lb:Array Value)(sf:Nat)(sb:Array Value)(blk off a b:Nat)(d:Array α)(w:World)
  (eg:∀args w,(callFunc g args).run P w=.ok (.enter g args) w) (hless:LessReadsK P g lb enc k lt blk off d.size w) (hswap:SwapSwapsK P sf sb enc k blk off d.size)
  (hH:HoldsK enc k w blk off d) (hblk:blk<w.heap.size) (hab:a<=b) (hb:b<=d.size) (hsz:d.size<4611686018427387904) :
  Calls P (ρ.f 26) #[.agg #[.func (.func g) #[] lb,.func (.func sf) #[] sb],.int .i64 a,.int .i64 b] w λe w'=>e=.returned (.tuple #[])/\∃n os,w'=sortWorldK enc k w blk off n (Sort.insertionSort lt d a b) os:=(Any.insertionSort_func_cells L enc k hk lt g lb sf sb blk off a b d w eg hless hswap hH hblk hab hb hsz).mono λ_ _ ⟨he,n,hw⟩=>⟨he,n.n,_,hw.trans (jh enc k w _ blk off n _ hblk)⟩
end
section
open Go Go.Shelf Go.RowKit Go.Lib Go.Sort
variable {P:Program}{ρ:Ren}{α:Type} [Inhabited α]
theorem Iag{β:Type}[Inhabited β]{e:β->Value}{w:World}{blk off:Nat}{d:Array β}(h:Holds e w blk off d)(hb:blk<w.heap.size)(x:Ln):Holds e (later w x) blk off d:=holds_grow e _ _ blk off d hb (holds_ahead e w x.n blk off d h)
theorem Jag(W:World)(o:Obj)(q:Ln)(cb co s:Nat)(hS:Holds (Value.int .i64) W cb co (one s))(_hcb:cb<W.heap.size):later (W.alloc o) q=sortWorld (Value.int .i64) W cb co q.n (one s) (#[o]++q.os):=by
 unfold sortWorld;rw[putRow_self _ _ _ _ _ (holds_ahead _ W q.n cb co _ hS),alloc_eq_grow];show grow (Sort.ahead (grow W #[o]) q.n) q.os=_;rw[ahead_grow,grow_grow]
theorem Kag(W:World)(o:Obj)(q:Ln)(cb co s:Nat)(hS:Holds (Value.int .i64) W cb co (one s))(hcb:cb<W.heap.size) :
  (later (W.alloc o) q).setCell ⟨cb,co,none⟩ (.int .i64 ((s:Int)+1))=sortWorld (Value.int .i64) W cb co q.n (one (s+1)) (#[o]++q.os):=by
 have h:=counter_succ W o q.n cb co s hS hcb;have e:later (W.alloc o) q=grow ((W.alloc o).drewN q.n) q.os:=rfl
 have hb:cb<((W.alloc o).drewN q.n).heap.size:=by
  show cb<(W.alloc o).heap.size;rw[alloc_eq_grow,size_grow];omega
 rw[e,setCell_eq,mapBlock_grow _ _ _ _ hb,<-setCell_eq,h];unfold sortWorld;rw[grow_grow]
set_option maxHeartbeats 1000000 in
set_option maxRecDepth 100000 in
theorem Any.order2_func_cells(L:LaysGg.n39 P ρ)(enc:α->List Value)(k:Nat)(_hk:∀x,(enc x).length=k)(lt:α->α->Bool)(g:Nat)(lb:Array Value)(sfn:Fn)(sa sb:Array Value)(blk off:Nat)(w0 W:World)(d:Array α)(a b cb co s:Nat)
  (eg:∀args w,(callFunc g args).run P w=.ok (.enter g args) w) (hL:LessReadsK P g lb enc k lt blk off d.size w0) (hW:SWK enc k w0 blk off d W) (ha:a<d.size) (hb:b<d.size)
  (hS:Holds (Value.int .i64) W cb co (one s)) (hcb:cb<W.heap.size) (hs:s<4611686018427387904) :
  Calls P (ρ.f 39) #[.agg #[.func (.func g) #[] lb,.func sfn sa sb],.int .i64 a,.int .i64 b,.pointer (some ⟨cb,co,none⟩)] W λe w'=>
   e=.returned (.tuple #[.int .i64 (order2 lt d a b s).1,.int .i64 (order2 lt d a b s).2.1])/\∃n os,w'=sortWorld (Value.int .i64) W cb co n (one (order2 lt d a b s).2.2) os:=by
 have mixed:=L.mixed;have t0:=L.t0;have a0:=L.a0;have z0:=L.z0;have v0:=L.v0;have t3:=L.t3;have a3:=L.a3;have z3:=L.z3;have v3:=L.v3;have t4:=L.t4;have a4:=L.a4;have z4:=L.z4;have v4:=L.v4;have hq:=L.t26;have hh:=L.a26;have z26:=L.z26;have hw:=L.v26;have hr:=L.t37;have hi:=L.a37;have he:=L.z37;have hy:=L.v37;have ht:=L.t44;have hj:=L.a44;have hf:=L.z44;have hz:=L.v44;have hu:=L.t64;have hk:=L.a64;have hg:=L.z64;have hc:=L.v64;have hv:=run_underlying L.t44;obtain⟨cs,fs⟩:=one_cell hS;have hl:=gh (hW.alloc (.cells #[.func (.func g) #[] lb,.func sfn sa sb] (ρ.t 44))) hL rfl b a hb ha;have hp:cb<(W.alloc (.cells #[.func (.func g) #[] lb,.func sfn sa sb] (ρ.t 44))).heap.size:=by rw[alloc_eq_grow,size_grow];omega
 have ho:∀q:Ln,Holds (Value.int .i64) (later (W.alloc (.cells #[.func (.func g) #[] lb,.func sfn sa sb] (ρ.t 44))) q) cb co (one s):=λq=>Iag (by rw[alloc_eq_grow];exact holds_grow _ W _ cb co _ hcb hS) hp q;have hm:∀q:Ln,(later (W.alloc (.cells #[.func (.func g) #[] lb,.func sfn sa sb] (ρ.t 44))) q).cell? ⟨cb,co,none⟩=some (.int .i64 s):=λq=>(one_cell (ho q)).1;have hn:∀q:Ln,(later (W.alloc (.cells #[.func (.func g) #[] lb,.func sfn sa sb] (ρ.t 44))) q).frozen? ⟨cb,co,none⟩=false:=λq=>(one_cell (ho q)).2;clear ho
 go_enter L.f39,BodyGg.n39_ntmps ρ
 cases hlv:lt d[b]! d[a]! with
 |true=>
  rw[hlv]at hl;have e2:order2 lt d a b s=(b,a,s+1):=by simp[order2,hlv]
  go_wp2_with (go_at_fn g;refine hl.mono ?_;rintro e w' ⟨rfl,q,rfl⟩)
  go_ret2
  rw[e2];exact⟨rfl,_,_,Kag W _ q cb co s hS hcb⟩
 |false=>
  rw[hlv]at hl;have e2:order2 lt d a b s=(a,b,s):=by simp[order2,hlv]
  go_wp2_with (go_at_fn g;refine hl.mono ?_;rintro e w' ⟨rfl,q,rfl⟩)
  go_ret2
  rw[e2];exact⟨rfl,_,_,Jag W _ q cb co s hS hcb⟩
set_option maxHeartbeats 1000000 in
set_option maxRecDepth 100000 in
theorem Any.median_func_cells(L:LaysGg.n38 P ρ)(enc:α->List Value)(k:Nat)(hk:∀x,(enc x).length=k)(lt:α->α->Bool)(g:Nat)(lb:Array Value)(sfn:Fn)(sa sb:Array Value)(blk off:Nat)(w0 W:World)(d:Array α)(a b c cb co s:Nat)
  (eg:∀args w,(callFunc g args).run P w=.ok (.enter g args) w) (hL:LessReadsK P g lb enc k lt blk off d.size w0) (hW:SWK enc k w0 blk off d W) (ha:a<d.size) (hb:b<d.size) (hc:c<d.size)
  (hS:Holds (Value.int .i64) W cb co (one s)) (hcb0:w0.heap.size<=cb) (hcb:cb<W.heap.size) (hs:s+3<4611686018427387904) :
  Calls P (ρ.f 38) #[.agg #[.func (.func g) #[] lb,.func sfn sa sb],.int .i64 a,.int .i64 b,.int .i64 c,.pointer (some ⟨cb,co,none⟩)] W λe w'=>
   e=.returned (.int .i64 (median lt d a b c s).1)/\∃n os,w'=sortWorld (Value.int .i64) W cb co n (one (median lt d a b c s).2) os:=by
 have mixed:=L.mixed;have t0:=L.t0;have a0:=L.a0;have z0:=L.z0;have v0:=L.v0;have t3:=L.t3;have a3:=L.a3;have z3:=L.z3;have v3:=L.v3;have t4:=L.t4;have a4:=L.a4;have z4:=L.z4;have v4:=L.v4;have hf:=L.t26;have hh:=L.a26;have z26:=L.z26;have ie:=L.v26;have hg:=L.t37;have hi:=L.a37;have kk:=L.z37;have ju:=L.v37;have ih:=L.t44;have hj:=L.a44;have km:=L.z44;have jb:=L.v44;have io:=L.t64;have hl:=L.a64;have kn:=L.z64;have ki:=L.v64;have it:=L.t67;have hm:=L.a67;have kp:=L.z67;have kj:=L.v67;have ix:=run_underlying L.t44;have hp:∀args w,(callFunc (ρ.f 39) args).run P w=.ok (.enter (ρ.f 39) args) w:=enters_of L.f39 (by kernel_rfl) rfl;have l1:=order2_lt' lt d s ha hb;have s1:=order2_swaps' lt d a b s;have l2:=order2_lt' lt d (order2 lt d a b s).2.2 l1.2 hc;have s2:=order2_swaps' lt d (order2 lt d a b s).2.1 c (order2 lt d a b s).2.2;have hr:=hW.alloc (.cells #[.func (.func g) #[] lb,.func sfn sa sb] (ρ.t 44));have hq:Holds (Value.int .i64) (W.alloc (.cells #[.func (.func g) #[] lb,.func sfn sa sb] (ρ.t 44))) cb co (one s):=by rw[alloc_eq_grow];exact holds_grow _ W _ cb co _ hcb hS
 have hu:cb<(W.alloc (.cells #[.func (.func g) #[] lb,.func sfn sa sb] (ρ.t 44))).heap.size:=by rw[alloc_eq_grow,size_grow];omega
 have step:∀(n:Nat) (os:Array Obj) (t a' b':Nat),a'<d.size->b'<d.size->t<4611686018427387904 ->
   Calls P (ρ.f 39) #[.agg #[.func (.func g) #[] lb,.func sfn sa sb],.int .i64 a',.int .i64 b',.pointer (some ⟨cb,co,none⟩)] (sortWorld (Value.int .i64) (W.alloc (.cells #[.func (.func g) #[] lb,.func sfn sa sb] (ρ.t 44))) cb co n (one t) os) λe w'=>
    e=.returned (.tuple #[.int .i64 (order2 lt d a' b' t).1,.int .i64 (order2 lt d a' b' t).2.1])/\∃n' os',w'=sortWorld (Value.int .i64) (W.alloc (.cells #[.func (.func g) #[] lb,.func sfn sa sb] (ρ.t 44))) cb co n' (one (order2 lt d a' b' t).2.2) os':=λn os t a' b' ha' hb' ht=>
  (Any.order2_func_cells (P:=P) (ρ:=ρ) { L with } enc k hk lt g lb sfn sa sb blk off w0 _ d a' b' cb co t eg hL (hr.counter cb co n _ os hcb0) ha' hb' (holds_sortWorld _ _ cb co n (one s) _ os hu hq rfl) (lt_sortWorld _ _ cb co n _ os hu) ht).mono
    λ_ _ ⟨he,n',os',hw⟩=>⟨he,_,_,hw.trans (sortWorld_on _ _ cb co n n' _ _ os os' hu rfl)⟩
 have step0:=step 0 #[] s a b ha hb (by omega);rw[sortWorld_start _ _ cb co _ hq]at step0
 have bx:∀(kx:Nat) (v:Value),(W.alloc (.cells #[.func (.func g) #[] lb,.func sfn sa sb] (ρ.t 44))).cell? ⟨W.heap.size,kx,none⟩=some v->∀n t os,(sortWorld (Value.int .i64) (W.alloc (.cells #[.func (.func g) #[] lb,.func sfn sa sb] (ρ.t 44))) cb co n (one t) os).cell? ⟨W.heap.size,kx,none⟩=some v:=λkx v h n t os=>by
  unfold sortWorld;rw[cell?_grow _ _ _ (by show W.heap.size<(putRow _ _ _ _ _).heap.size;rw[size_putRow];show W.heap.size<(W.alloc _).heap.size;rw[alloc_eq_grow,size_grow];simp),cell?_putRow_other _ _ cb co _ _ (Or.inl (by show W.heap.size≠cb;omega))];exact h
 have hn:=bx 0 (.func (.func g) #[] lb) (by simp);have ho:=bx 1 (.func sfn sa sb) (by simp);clear hS hq hL hW hr bx
 go_enter L.f38,BodyGg.n38_ntmps ρ
 go_wp2_with (go_at_fn_of (ρ.f 39) (Value.int .i64 (b:Int));refine step0.mono ?_;rintro e w' ⟨rfl,n1,hv,rfl⟩)
 go_wp2_with (go_at_fn_of (ρ.f 39) (Value.int .i64 (c:Int));refine(step n1 hv _ _ c l1.2 hc (by omega)).mono ?_;rintro e w' ⟨rfl,n2,hy,rfl⟩)
 go_wp2_with (go_at_fn_of (ρ.f 39) (Value.int .i64 ((order2 lt d a b s).1:Int));refine(step n2 hy _ _ _ l1.1 l2.1 (by omega)).mono ?_;rintro e w' ⟨rfl,n3,hz,rfl⟩)
 go_ret
 exact⟨rfl,_,_,sortWorld_alloc _ W _ cb co _ _ _ hcb⟩
set_option maxHeartbeats 1000000 in
set_option maxRecDepth 100000 in
theorem Any.medianAdjacent_func_cells(L:LaysGg.n37 P ρ)(enc:α->List Value)(k:Nat)(hk:∀x,(enc x).length=k)(lt:α->α->Bool)(g:Nat)(lb:Array Value)(sfn:Fn)(sa sb:Array Value)(blk off:Nat)(w0 W:World)(d:Array α)(a cb co s:Nat)
  (eg:∀args w,(callFunc g args).run P w=.ok (.enter g args) w) (hL:LessReadsK P g lb enc k lt blk off d.size w0) (hW:SWK enc k w0 blk off d W) (ha1:1<=a) (ha2:a+1<d.size) (hsz:d.size<4611686018427387904)
  (hS:Holds (Value.int .i64) W cb co (one s)) (hcb0:w0.heap.size<=cb) (hcb:cb<W.heap.size) (hs:s+3<4611686018427387904) :
  Calls P (ρ.f 37) #[.agg #[.func (.func g) #[] lb,.func sfn sa sb],.int .i64 a,.pointer (some ⟨cb,co,none⟩)] W λe w'=>
   e=.returned (.int .i64 (medianAdjacent lt d a s).1)/\∃n os,w'=sortWorld (Value.int .i64) W cb co n (one (medianAdjacent lt d a s).2) os:=by
 have mixed:=L.mixed;have t0:=L.t0;have a0:=L.a0;have z0:=L.z0;have v0:=L.v0;have t3:=L.t3;have a3:=L.a3;have z3:=L.z3;have v3:=L.v3;have t4:=L.t4;have a4:=L.a4;have z4:=L.z4;have v4:=L.v4;have hp:=L.t26;have hh:=L.a26;have z26:=L.z26;have hw:=L.v26;have hq:=L.t37;have hi:=L.a37;have he:=L.z37;have hy:=L.v37;have hr:=L.t44;have hj:=L.a44;have hf:=L.z44;have hz:=L.v44;have ht:=L.t64;have hl:=L.a64;have hg:=L.z64;have ha:=L.v64;have hu:=L.t67;have hn:=L.a67;have ih:=L.z67;have hc:=L.v67;have hv:=run_underlying L.t44;have ho:∀args w,(callFunc (ρ.f 38) args).run P w=.ok (.enter (ρ.f 38) args) w:=enters_of L.f38 (by kernel_rfl) rfl
 have hm:=Any.median_func_cells (P:=P) (ρ:=ρ) { L with } enc k hk lt g lb sfn sa sb blk off w0 _ d (a - 1) a (a+1) cb co s eg hL (hW.alloc (.cells #[.func (.func g) #[] lb,.func sfn sa sb] (ρ.t 44))) (by omega) (by omega) ha2
  (by rw[alloc_eq_grow];exact holds_grow _ W _ cb co _ hcb hS) hcb0 (by rw[alloc_eq_grow,size_grow];omega) hs
 rw[show((a - 1:Nat):Int)=(a:Int) - 1 by omega,show((a+1:Nat):Int)=(a:Int)+1 by omega]at hm;clear hS hL hW
 go_enter L.f37,BodyGg.n37_ntmps ρ
 go_wp2_with (go_at_fn (ρ.f 38);refine hm.mono ?_;rintro e w' ⟨rfl,n,os,rfl⟩)
 go_ret
 exact⟨rfl,_,_,sortWorld_alloc _ W _ cb co _ _ _ hcb⟩
end
section
open Go Go.Shelf Go.RowKit Go.Lib Go.Sort
variable {P:Program}{ρ:Ren}{α:Type} [Inhabited α]
theorem pivot_world_func_cells(L:LaysGg.n29 P ρ)(enc:α->List Value)(k:Nat)(hk:∀x,(enc x).length=k)(lt:α->α->Bool)(g:Nat)(lb:Array Value)(sfn:Fn)(sa sb:Array Value)(blk off:Nat)(W:World)(d:Array α)
  (eg:∀args w,(callFunc g args).run P w=.ok (.enter g args) w) (hless:LessReadsK P g lb enc k lt blk off d.size W) (hH:HoldsK enc k W blk off d) (hsz:d.size<4611686018427387904) :
  ∃ Wc:Nat->Nat->Array Obj->World,
    ((W.alloc (.cells #[.func (.func g) #[] lb,.func sfn sa sb] (ρ.t 44))).alloc (.cells #[.int .i64 0] (ρ.t 3)))=Wc 0 0 #[] /\
    (∀N S os,(Wc N S os).cell? ⟨W.heap.size+1,0,none⟩=some (.int .i64 S)) /\
    (∀N S os,(Wc N S os).cell? ⟨W.heap.size,0,none⟩=some (.func (.func g) #[] lb)) /\
    (∀N S os,(Wc N S os).cell? ⟨W.heap.size,1,none⟩=some (.func sfn sa sb)) /\
    (∀N S os,∃n os',Wc N S os=grow (Sort.ahead W n) os') /\
    (∀x s N os,1<=x->x+1<d.size->s+3<4611686018427387904->Calls P (ρ.f 37) #[.agg #[.func (.func g) #[] lb,.func sfn sa sb],.int .i64 x,.pointer (some ⟨W.heap.size+1,0,none⟩)] (Wc N s os) λe w'=>e=.returned (.int .i64 (medianAdjacent lt d x s).1)/\∃N' os',w'=Wc N' (medianAdjacent lt d x s).2 os') /\
    (∀x y z s N os,x<d.size->y<d.size->z<d.size->s+3<4611686018427387904->Calls P (ρ.f 38) #[.agg #[.func (.func g) #[] lb,.func sfn sa sb],.int .i64 x,.int .i64 y,.int .i64 z,.pointer (some ⟨W.heap.size+1,0,none⟩)] (Wc N s os) λe w'=>e=.returned (.int .i64 (median lt d x y z s).1)/\∃N' os',w'=Wc N' (median lt d x y z s).2 os'):=by
 have hi:Holds (Value.int .i64) ((W.alloc (.cells #[.func (.func g) #[] lb,.func sfn sa sb] (ρ.t 44))).alloc (.cells #[.int .i64 0] (ρ.t 3))) (W.heap.size+1) 0 (one 0):=λj hj=>by
  have:j=0:=by simp at hj;omega
  subst this;exact⟨by rw[World.cell?_alloc_at _ _ _ _ (by simp)];rfl,World.frozen?_alloc_at _ _ _ _ (by simp)⟩
 have hm:W.heap.size+1<(((W.alloc (.cells #[.func (.func g) #[] lb,.func sfn sa sb] (ρ.t 44))).alloc (.cells #[.int .i64 0] (ρ.t 3)))).heap.size:=by simp
 have hl:SWK enc k W blk off d ((W.alloc (.cells #[.func (.func g) #[] lb,.func sfn sa sb] (ρ.t 44))).alloc (.cells #[.int .i64 0] (ρ.t 3))):=((SWK.start hH).alloc _).alloc _;have hh:=λN S os=>holds_sortWorld (Value.int .i64) ((W.alloc (.cells #[.func (.func g) #[] lb,.func sfn sa sb] (ρ.t 44))).alloc (.cells #[.int .i64 0] (ρ.t 3))) (W.heap.size+1) 0 N (one 0) (one S) os hm hi rfl
 have bx:∀(kx:Nat) (v:Value),(((W.alloc (.cells #[.func (.func g) #[] lb,.func sfn sa sb] (ρ.t 44))).alloc (.cells #[.int .i64 0] (ρ.t 3)))).cell? ⟨W.heap.size,kx,none⟩=some v->∀N S os,(sortWorld (Value.int .i64) ((W.alloc (.cells #[.func (.func g) #[] lb,.func sfn sa sb] (ρ.t 44))).alloc (.cells #[.int .i64 0] (ρ.t 3))) (W.heap.size+1) 0 N (one S) os).cell? ⟨W.heap.size,kx,none⟩=some v:=λkx v h N S os=>by
  unfold sortWorld;rw[cell?_grow _ _ _ (by show W.heap.size<(putRow _ _ _ _ _).heap.size;rw[size_putRow];show W.heap.size<(((W.alloc (.cells #[.func (.func g) #[] lb,.func sfn sa sb] (ρ.t 44))).alloc (.cells #[.int .i64 0] (ρ.t 3)))).heap.size;simp;omega),cell?_putRow_other _ _ _ 0 _ _ (Or.inl (by show W.heap.size≠W.heap.size+1;omega))];exact h
 refine⟨λN S os=>sortWorld (Value.int .i64) ((W.alloc (.cells #[.func (.func g) #[] lb,.func sfn sa sb] (ρ.t 44))).alloc (.cells #[.int .i64 0] (ρ.t 3))) (W.heap.size+1) 0 N (one S) os,(sortWorld_start _ _ _ 0 _ hi).symm,λN S os=>(one_cell (hh N S os)).1,
  bx 0 _ (by rw[World.cell?_alloc_past _ _ _ (by simp)];simp),bx 1 _ (by rw[World.cell?_alloc_past _ _ _ (by simp)];simp),λN S os=>?_,λx s N os h1 h2 hs=>?_,λx y z s N os hx hy hz hs=>?_⟩
 .show ∃n os',sortWorld _ _ _ _ _ _ _=_;unfold sortWorld;rw[alloc_eq_grow,alloc_eq_grow,grow_grow,ahead_grow];obtain⟨os',_,e⟩:=putRow_grow_new (Value.int .i64) (Sort.ahead W N) (#[.cells #[.func (.func g) #[] lb,.func sfn sa sb] (ρ.t 44)]++#[.cells #[.int .i64 0] (ρ.t 3)]) (W.heap.size+1) 0 (one S) (by show W.heap.size<=_;omega);exact⟨N,_,by rw[e,grow_grow]⟩
 .exact(Any.medianAdjacent_func_cells (P:=P) (ρ:=ρ) { L with } enc k hk lt g lb sfn sa sb blk off W _ d x (W.heap.size+1) 0 s eg hless (hl.counter _ 0 N _ os (by omega)) h1 h2 hsz (hh N s os) (by omega) (lt_sortWorld _ _ _ 0 N _ os hm) hs).mono
   λ_ _ ⟨he,n',os',hw⟩=>⟨he,_,_,hw.trans (sortWorld_on _ _ _ 0 N n' _ _ os os' hm rfl)⟩
 .exact(Any.median_func_cells (P:=P) (ρ:=ρ) { L with } enc k hk lt g lb sfn sa sb blk off W _ d x y z (W.heap.size+1) 0 s eg hless (hl.counter _ 0 N _ os (by omega)) hx hy hz (hh N s os) (by omega) (lt_sortWorld _ _ _ 0 N _ os hm) hs).mono
   λ_ _ ⟨he,n',os',hw⟩=>⟨he,_,_,hw.trans (sortWorld_on _ _ _ 0 N n' _ _ os os' hm rfl)⟩
set_option maxHeartbeats 2000000 in
set_option maxRecDepth 100000 in
theorem Any.choosePivot_func_cells(L:LaysGg.n29 P ρ)(enc:α->List Value)(k:Nat)(hk:∀x,(enc x).length=k)(lt:α->α->Bool)(g:Nat)(lb:Array Value)(sfn:Fn)(sa sb:Array Value)(blk off a b:Nat)(W:World)(d:Array α)
  (eg:∀args w,(callFunc g args).run P w=.ok (.enter g args) w) (hless:LessReadsK P g lb enc k lt blk off d.size W) (hH:HoldsK enc k W blk off d) (hab:a<b) (hb:b<=d.size) (hsz:d.size<4611686018427387904) :
  Calls P (ρ.f 29) #[.agg #[.func (.func g) #[] lb,.func sfn sa sb],.int .i64 a,.int .i64 b] W λe w'=>
   e=.returned (.tuple #[.int .i64 (choosePivot lt d a b).1,.int .i64 (hintCode (choosePivot lt d a b).2)])/\∃n os,w'=grow (Sort.ahead W n) os:=by
 obtain⟨Wc,ht,cS,b0,b1,hG,MA,MD⟩:=pivot_world_func_cells L enc k hk lt g lb sfn sa sb blk off W d eg hless hH hsz;clear hH hless;have mixed:=L.mixed;have t0:=L.t0;have a0:=L.a0;have z0:=L.z0;have v0:=L.v0;have t3:=L.t3;have a3:=L.a3;have z3:=L.z3;have v3:=L.v3;have t4:=L.t4;have a4:=L.a4;have z4:=L.z4;have v4:=L.v4;have ha:=L.t26;have hh:=L.a26;have z26:=L.z26;have it:=L.v26;have hc:=L.t37;have hi:=L.a37;have kj:=L.z37;have ix:=L.v37;have he:=L.t44;have hj:=L.a44;have kk:=L.z44;have ie:=L.v44;have hf:=L.t53;have hl:=L.a53;have km:=L.z53;have ju:=L.v53;have hg:=L.t64;have hm:=L.a64;have kn:=L.z64;have jb:=L.v64;have ih:=L.t67;have hn:=L.a67;have kp:=L.z67;have ki:=L.v67;have io:=run_underlying L.t44;have ho:∀args w,(callFunc (ρ.f 37) args).run P w=.ok (.enter (ρ.f 37) args) w:=enters_of L.f37 (by kernel_rfl) rfl;have hq:∀args w,(callFunc (ρ.f 38) args).run P w=.ok (.enter (ρ.f 38) args) w:=enters_of L.f38 (by kernel_rfl) rfl;rw[choosePivot_eq];obtain⟨I,hI⟩ : ∃I:Nat,I=a+(b - a) / 4*1:=⟨_,rfl⟩;obtain⟨J,hJ⟩ : ∃J:Nat,J=a+(b - a) / 4*2:=⟨_,rfl⟩;obtain⟨K,hK⟩ : ∃K:Nat,K=a+(b - a) / 4*3:=⟨_,rfl⟩;have eI:((a:Int)+((b:Int) - (a:Int)) / 4)=(I:Int):=by omega
 have eJ:((a:Int)+((b:Int) - (a:Int)) / 4*2)=(J:Int):=by omega
 have eK:((a:Int)+((b:Int) - (a:Int)) / 4*3)=(K:Int):=by omega
 by_cases h8:b - a >= 8
 .by_cases h50:b - a >= 50
  ·
   obtain⟨i1,s1,h1⟩ : ∃i1 s1,medianAdjacent lt d I 0=(i1,s1):=⟨_,_,rfl⟩;obtain⟨j1,s2,h2⟩ : ∃j1 s2,medianAdjacent lt d J s1=(j1,s2):=⟨_,_,rfl⟩;obtain⟨k1,s3,h3⟩ : ∃k1 s3,medianAdjacent lt d K s2=(k1,s3):=⟨_,_,rfl⟩;obtain⟨p,s,h4⟩ : ∃p s,median lt d i1 j1 k1 s3=(p,s):=⟨_,_,rfl⟩;have hz:rawPivot lt d a b=(p,s):=by simp only[rawPivot,if_pos h8,if_pos h50,<-hI,<-hJ,<-hK,h1,h2,h3,h4]
   have m1:=medianAdjacent_mem lt d I 0;rw[h1]at m1;have m2:=medianAdjacent_mem lt d J s1;rw[h2]at m2;have m3:=medianAdjacent_mem lt d K s2;rw[h3]at m3;have n1:=medianAdjacent_count lt d I 0;rw[h1]at n1;have n2:=medianAdjacent_count lt d J s1;rw[h2]at n2;have n3:=medianAdjacent_count lt d K s2;rw[h3]at n3;simp only[]at m1 m2 m3 n1 n2 n3
   have c1:Calls P (ρ.f 37) #[.agg #[.func (.func g) #[] lb,.func sfn sa sb],.int .i64 (I:Int),.pointer (some ⟨W.heap.size+1,0,none⟩)] (Wc 0 0 #[]) λe w'=>e=.returned (.int .i64 (i1:Int))/\∃N' os',w'=Wc N' s1 os':=by
    have h:=MA I 0 0 #[] (by omega) (by omega) (by omega);rw[h1]at h;exact h
   have c2:∀N os,Calls P (ρ.f 37) #[.agg #[.func (.func g) #[] lb,.func sfn sa sb],.int .i64 (J:Int),.pointer (some ⟨W.heap.size+1,0,none⟩)] (Wc N s1 os) λe w'=>e=.returned (.int .i64 (j1:Int))/\∃N' os',w'=Wc N' s2 os':=λN os=>by
    have h:=MA J s1 N os (by omega) (by omega) (by omega);rw[h2]at h;exact h
   have c3:∀N os,Calls P (ρ.f 37) #[.agg #[.func (.func g) #[] lb,.func sfn sa sb],.int .i64 (K:Int),.pointer (some ⟨W.heap.size+1,0,none⟩)] (Wc N s2 os) λe w'=>e=.returned (.int .i64 (k1:Int))/\∃N' os',w'=Wc N' s3 os':=λN os=>by
    have h:=MA K s2 N os (by omega) (by omega) (by omega);rw[h3]at h;exact h
   have c4:∀N os,Calls P (ρ.f 38) #[.agg #[.func (.func g) #[] lb,.func sfn sa sb],.int .i64 (i1:Int),.int .i64 (j1:Int),.int .i64 (k1:Int),.pointer (some ⟨W.heap.size+1,0,none⟩)] (Wc N s3 os) λe w'=>e=.returned (.int .i64 (p:Int))/\∃N' os',w'=Wc N' s os':=λN os=>by
    have h:=MD i1 j1 k1 s3 N os (by omega) (by omega) (by omega) (by omega);rw[h4]at h;exact h
   rw[hz];obtain⟨Hc,hr⟩ : ∃Hc:Int,Hc=hintCode (hintOf s):=⟨_,rfl⟩;have hv:s=0->Hc=1:=λh=>by rw[hr,h];rfl
   have hw:s=12->Hc=2:=λh=>by rw[hr,h];rfl
   have hy:s≠0->s≠12->Hc=0:=λh1 h2=>by rw[hr];unfold hintOf;rw[if_neg h1,if_neg h2];rfl
   show Calls P (ρ.f 29) _ W λe w'=>e=.returned (.tuple #[.int .i64 (p:Int),.int .i64 (hintCode (hintOf s))])/\∃n os,w'=grow (Sort.ahead W n) os;rw[<-hr];clear hr hz;clear h1 h2 h3 h4 MA MD hI hJ hK m1 m2 m3
   go_enter L.f29,BodyGg.n29_ntmps ρ
   go_wp2_with (first
    |(go_at_fn_of (ρ.f 37) (Value.int .i64 (I:Int));refine c1.mono ?_;rintro e w' ⟨rfl,N1,o1,rfl⟩)
    |(go_at_fn_of (ρ.f 37) (Value.int .i64 (J:Int));refine(c2 _ _).mono ?_;rintro e w' ⟨rfl,N2,o2,rfl⟩)
    |(go_at_fn_of (ρ.f 37) (Value.int .i64 (K:Int));refine(c3 _ _).mono ?_;rintro e w' ⟨rfl,N3,o3,rfl⟩)
    |(go_at_fn (ρ.f 38);refine(c4 _ _).mono ?_;rintro e w' ⟨rfl,N4,o4,rfl⟩))
   all_goals
    go_ret2
    refine⟨?_,hG _ _ _⟩
    first
     |(have e0:(s:Int)=0:=of_beq_int (by assumption)
       rw[hv (by omega)];rfl)
     |(have e1:(s:Int)=12:=of_beq_int (by assumption)
       rw[hw (by omega)];rfl)
     |(have e0:(s:Int)≠0:=of_bne_int (by assumption)
       have e1:(s:Int)≠12:=of_bne_int (by assumption);rw[hy (by omega) (by omega)];rfl)
     |(rw[hv (by omega)];rfl)
  ·
   obtain⟨p,s,h4⟩ : ∃p s,median lt d I J K 0=(p,s):=⟨_,_,rfl⟩;have hz:rawPivot lt d a b=(p,s):=by simp only[rawPivot,if_pos h8,if_neg h50,<-hI,<-hJ,<-hK,h4]
   have c4:Calls P (ρ.f 38) #[.agg #[.func (.func g) #[] lb,.func sfn sa sb],.int .i64 (I:Int),.int .i64 (J:Int),.int .i64 (K:Int),.pointer (some ⟨W.heap.size+1,0,none⟩)] (Wc 0 0 #[]) λe w'=>e=.returned (.int .i64 (p:Int))/\∃N' os',w'=Wc N' s os':=by
    have h:=MD I J K 0 0 #[] (by omega) (by omega) (by omega) (by omega);rw[h4]at h;exact h
   rw[hz];obtain⟨Hc,hr⟩ : ∃Hc:Int,Hc=hintCode (hintOf s):=⟨_,rfl⟩;have hv:s=0->Hc=1:=λh=>by rw[hr,h];rfl
   have hw:s=12->Hc=2:=λh=>by rw[hr,h];rfl
   have hy:s≠0->s≠12->Hc=0:=λh1 h2=>by rw[hr];unfold hintOf;rw[if_neg h1,if_neg h2];rfl
   show Calls P (ρ.f 29) _ W λe w'=>e=.returned (.tuple #[.int .i64 (p:Int),.int .i64 (hintCode (hintOf s))])/\∃n os,w'=grow (Sort.ahead W n) os;rw[<-hr];clear hr hz;clear h4 MA MD hI hJ hK
   go_enter L.f29,BodyGg.n29_ntmps ρ
   go_wp2_with (first|(go_at_fn (ρ.f 38);refine c4.mono ?_;rintro e w' ⟨rfl,N4,o4,rfl⟩))
   all_goals
    go_ret2
    refine⟨?_,hG _ _ _⟩
    first
     |(have e0:(s:Int)=0:=of_beq_int (by assumption)
       rw[hv (by omega)];rfl)
     |(have e1:(s:Int)=12:=of_beq_int (by assumption)
       rw[hw (by omega)];rfl)
     |(have e0:(s:Int)≠0:=of_bne_int (by assumption)
       have e1:(s:Int)≠12:=of_bne_int (by assumption);rw[hy (by omega) (by omega)];rfl)
     |(rw[hv (by omega)];rfl)
 ·
  obtain⟨p,hp⟩ : ∃p:Nat,p=J:=⟨_,rfl⟩;obtain⟨s,hs⟩ : ∃s:Nat,s=0:=⟨_,rfl⟩;have hz:rawPivot lt d a b=(p,s):=by simp only[rawPivot,if_neg h8,<-hJ,hp,hs]
  rw[hz];obtain⟨Hc,hr⟩ : ∃Hc:Int,Hc=hintCode (hintOf s):=⟨_,rfl⟩;have hv:s=0->Hc=1:=λh=>by rw[hr,h];rfl
  have hw:s=12->Hc=2:=λh=>by rw[hr,h];rfl
  have hy:s≠0->s≠12->Hc=0:=λh1 h2=>by rw[hr];unfold hintOf;rw[if_neg h1,if_neg h2];rfl
  show Calls P (ρ.f 29) _ W λe w'=>e=.returned (.tuple #[.int .i64 (p:Int),.int .i64 (hintCode (hintOf s))])/\∃n os,w'=grow (Sort.ahead W n) os;rw[<-hr];clear hr hz;subst hp;clear MA MD hI hJ hK;have hu:((W.alloc (.cells #[.func (.func g) #[] lb,.func sfn sa sb] (ρ.t 44))).alloc (.cells #[.int .i64 0] (ρ.t 3)))=Wc 0 s #[]:=by rw[hs];exact ht
  clear ht
  go_enter L.f29,BodyGg.n29_ntmps ρ
  go_wp2
  all_goals
   go_ret2
   refine⟨?_,hG _ _ _⟩
   first
    |(have e0:(s:Int)=0:=of_beq_int (by assumption)
      rw[hv (by omega)];rfl)
    |(have e1:(s:Int)=12:=of_beq_int (by assumption)
      rw[hw (by omega)];rfl)
    |(have e0:(s:Int)≠0:=of_bne_int (by assumption)
      have e1:(s:Int)≠12:=of_bne_int (by assumption);rw[hy (by omega) (by omega)];rfl)
    |(rw[hv (by omega)];rfl)
end
section
open Go Go.Shelf Go.RowKit Go.Lib Go.Sort
variable {P:Program}{ρ:Ren}{α:Type} [Inhabited α]
set_option maxHeartbeats 6400000 in
set_option maxRecDepth 100000 in
theorem Any.partitionEqual_func_cells(L:LaysGg.n32 P ρ)(enc:α->List Value)(k:Nat)(hk:∀x,(enc x).length=k)(lt:α->α->Bool)(g:Nat)(lb:Array Value)(sf:Nat)(sb:Array Value)(blk off a b pivot:Nat)(d:Array α)(W:World)
  (eg:∀args w,(callFunc g args).run P w=.ok (.enter g args) w) (hless:LessReadsK P g lb enc k lt blk off d.size W) (hswap:SwapSwapsK P sf sb enc k blk off d.size)
  (hH:HoldsK enc k W blk off d) (hblk:blk<W.heap.size) (hap:a<=pivot) (hpb:pivot<b) (hb:b<=d.size) (hsz:d.size<4611686018427387904) :
  Calls P (ρ.f 32) #[.agg #[.func (.func g) #[] lb,.func (.func sf) #[] sb],.int .i64 a,.int .i64 b,.int .i64 pivot] W λe w'=>
   e=.returned (.int .i64 (Sort.partitionEqual lt d a b pivot).1)/\∃n,w'=(later (putRowK enc k (W.alloc (.cells #[.func (.func g) #[] lb,.func (.func sf) #[] sb] (ρ.t 44))) blk off (Sort.partitionEqual lt d a b pivot).2) n):=by
 have mixed:=L.mixed;have t0:=L.t0;have a0:=L.a0;have z0:=L.z0;have v0:=L.v0;have t3:=L.t3;have a3:=L.a3;have z3:=L.z3;have v3:=L.v3;have t4:=L.t4;have a4:=L.a4;have z4:=L.z4;have v4:=L.v4;have km:=L.t26;have hh:=L.a26;have z26:=L.z26;have kr:=L.v26;have kn:=L.t37;have hi:=L.a37;have ky:=L.z37;have ks:=L.v37;have kp:=L.t44;have hj:=L.a44;have kz:=L.z44;have kx:=L.v44;have kq:=run_underlying L.t44;have ih:a<d.size:=by omega
 have io:pivot<d.size:=by omega
 have ho:HoldsK enc k (W.alloc (.cells #[.func (.func g) #[] lb,.func (.func sf) #[] sb] (ρ.t 44))) blk off d:=by rw[alloc_eq_grow];exact holdsK_grow enc k W _ blk off d hblk hH
 have kk:∀(dk:Array α) (n:Ln),SWK enc k W blk off dk (later (putRowK enc k (W.alloc (.cells #[.func (.func g) #[] lb,.func (.func sf) #[] sb] (ρ.t 44))) blk off dk) n):=λdk n=>by rw[jh enc k W _ blk off n dk hblk];exact⟨_,_,rfl⟩
 have ht:blk<(W.alloc (.cells #[.func (.func g) #[] lb,.func (.func sf) #[] sb] (ρ.t 44))).heap.size:=by rw[alloc_eq_grow,size_grow];omega
 have b0:∀(dk:Array α) (n:Ln),(later (putRowK enc k (W.alloc (.cells #[.func (.func g) #[] lb,.func (.func sf) #[] sb] (ρ.t 44))) blk off dk) n).cell? ⟨W.heap.size,0,none⟩=some (.func (.func g) #[] lb):=λdk n=>yg (by simp) hblk n;have b1:∀(dk:Array α) (n:Ln),(later (putRowK enc k (W.alloc (.cells #[.func (.func g) #[] lb,.func (.func sf) #[] sb] (ρ.t 44))) blk off dk) n).cell? ⟨W.heap.size,1,none⟩=some (.func (.func sf) #[] sb):=λdk n=>yg (by simp) hblk n;obtain⟨E0,hm⟩ : ∃E0:Nat->List Value,∀t,E0 t=enc d[t]!:=⟨λt=>enc d[t]!,λ_=>rfl⟩
 have ix:(callFunc sf (#[.int .i64 a,.int .i64 pivot]++sb)).run P (W.alloc (.cells #[.func (.func g) #[] lb,.func (.func sf) #[] sb] (ρ.t 44)))=.ok (.value (.tuple #[])) ((((W.alloc (.cells #[.func (.func g) #[] lb,.func (.func sf) #[] sb] (ρ.t 44)))).setCells blk (off+a*k) (E0 pivot)).setCells blk (off+pivot*k) (E0 a)):=by
  rw[hm,hm];exact hswap _ d ho rfl a pivot ih io
 have A0:Hid (∀t,E0 t=enc d[t]!):=hm;have AH:Hid (HoldsK enc k (W.alloc (.cells #[.func (.func g) #[] lb,.func (.func sf) #[] sb] (ρ.t 44))) blk off d):=ho;clear hm ho
 go_enter L.f32,BodyGg.n32_ntmps ρ
 go_wp2
 go_loopw [9,10] (λvi vj wr=>∃(i j:Nat) (n:Ln) (dk:Array α),vi=.int .i64 i/\vj=.int .i64 j/\a<i/\i<=j+1/\j<b/\dk.size=d.size/\wr=(later (putRowK enc k (W.alloc (.cells #[.func (.func g) #[] lb,.func (.func sf) #[] sb] (ρ.t 44))) blk off dk) n) /\
   Sort.partEqLoop lt a i j dk=Sort.partEqLoop lt a (a+1) (b - 1) (Sort.swp d a pivot))
  (λvi vj _=>(intOf vj).toNat+1 - (intOf vi).toNat)
 case atStart=>
  refine⟨a+1,b - 1,0,Sort.swp d a pivot,by go_num,by go_num,by omega,by omega,by omega,size_swp _ _ _,?_,rfl⟩;rw[A0.out a,A0.out pivot,re,alloc_eq_grow];show _=putRowK enc k (W.alloc (.cells #[.func (.func g) #[] lb,.func (.func sf) #[] sb] (ρ.t 44))) blk off (Sort.swp d a pivot);rw[alloc_eq_grow,putRowK_grow enc k W _ blk off _ hblk,<-putRowK_swp enc k hk W blk off d a pivot ih io,putRowK_self enc k W blk off d hH,setCells_grow _ _ _ _ _ hblk,setCells_grow _ _ _ _ _ (by simpa using hblk)]
 case round=>
  obtain⟨i,j,n,dk,rfl,rfl,hr,hz,hf,hs,hw,hu⟩:=hrel;clear ix A0 AH
  rename World=>W1
  have hp:∀m,SWK enc k W blk off dk (later W1 m):=λm=>by rw[hw];exact Gl (kk dk n) m
  have c0:∀m,(later W1 m).cell? ⟨W.heap.size,0,none⟩=some (.func (.func g) #[] lb):=λm=>by rw[hw,nb];exact b0 dk _
  have c1:∀m,(later W1 m).cell? ⟨W.heap.size,1,none⟩=some (.func (.func sf) #[] sb):=λm=>by rw[hw,nb];exact b1 dk _
  have AW:Hid (W1=(later (putRowK enc k (W.alloc (.cells #[.func (.func g) #[] lb,.func (.func sf) #[] sb] (ρ.t 44))) blk off dk) n)):=hw;have AE:Hid (Sort.partEqLoop lt a i j dk=Sort.partEqLoop lt a (a+1) (b - 1) (Sort.swp d a pivot)):=hu;clear hw hu
  go_wp2
  go_loopw [9] (λvi w1=>∃(i':Nat) (n1:Ln),vi=.int .i64 i'/\i<=i'/\i'<=j+1/\w1=(later W1 n1) /\
    Hid (Sort.scanUp (λx=>!lt dk[a]! x) dk j i'=Sort.scanUp (λx=>!lt dk[a]! x) dk j i))
   (λvi _=>j+1 - (intOf vi).toNat)
  case atStart=>exact⟨i,0,rfl,Nat.le_refl _,hz,(re _).symm,rfl⟩
  case round=>
   obtain⟨i',n1,rfl,hy,ha,ki,ie⟩:=hrel;have d0:wr.cell? ⟨W.heap.size,0,none⟩=some (.func (.func g) #[] lb):=by rw[ki];exact c0 n1
   have hq:SWK enc k W blk off dk wr:=by rw[ki];exact hp n1
   have HW1:Hid (wr=(later W1 n1)):=ki;clear ki;by_cases hle:i'<=j
   .have hl:=gh hq hless hs a i' (by omega) (by omega);clear hq;cases hlv:lt dk[a]! dk[i']! with
    |false=>
     rw[hlv]at hl
     go_wp2_with (go_at_fn g;refine hl.mono ?_;rintro e w' ⟨rfl,nq,rfl⟩)
     go_roundw
     case rel=>exact⟨i'+1,n1+nq,by go_num,by omega,by omega,by rw[HW1.out,nb],(scanUp_go (λx=>!lt dk[a]! x) dk j i' hle (by simp[hlv])).symm.trans ie.out⟩
     case measure=>simp[intOf];omega
    |true=>
     rw[hlv]at hl;have hv:Hid (i'=Sort.scanUp (λx=>!lt dk[a]! x) dk j i):=(scanUp_end (λx=>!lt dk[a]! x) dk j i' (Or.inr (by simp[hlv]))).symm.trans ie.out
     go_wp2_with (go_at_fn g;refine hl.mono ?_;rintro e w' ⟨rfl,nq,rfl⟩)
     have kj:(later wr nq)=(later W1 (n1+nq)):=by rw[HW1.out,nb]
     clear d0 HW1 ie
     go_loopw [10] (λvj w2=>∃(j':Nat) (n2:Ln),vj=.int .i64 j'/\j'<=j/\i'<=j'+1/\w2=(later W1 n2) /\
       Hid (Sort.scanDown (λx=>lt dk[a]! x) dk i' j'=Sort.scanDown (λx=>lt dk[a]! x) dk i' j))
      (λvj _=>(intOf vj).toNat)
     case atStart=>exact⟨j,n1+nq,rfl,Nat.le_refl _,ha,kj,rfl⟩
     case round=>
      clear kj;obtain⟨j',n2,rfl,hg,hc,kj,ju⟩:=hrel;have d0:wr.cell? ⟨W.heap.size,0,none⟩=some (.func (.func g) #[] lb):=by rw[kj];exact c0 n2
      have d1:∀q,(later wr q).cell? ⟨W.heap.size,1,none⟩=some (.func (.func sf) #[] sb):=λq=>by rw[kj,nb];exact c1 _
      have hq:SWK enc k W blk off dk wr:=by rw[kj];exact hp n2
      have HW2:Hid (wr=(later W1 n2)):=kj;clear kj;by_cases hle2:i'<=j'
      .have hl:=gh hq hless hs a j' (by omega) (by omega);cases hlv2:lt dk[a]! dk[j']! with
       |true=>
        rw[hlv2]at hl
        go_wp2_with (go_at_fn g;refine hl.mono ?_;rintro e w' ⟨rfl,nq,rfl⟩)
        go_roundw
        case rel=>exact⟨j' - 1,n2+nq,by go_num,by omega,by omega,by rw[HW2.out,nb],(scanDown_go (λx=>lt dk[a]! x) dk i' j' hle2 (by omega) hlv2).symm.trans ju.out⟩
        case measure=>simp[intOf];omega
       |false=>
        rw[hlv2]at hl;have he:Hid (j'=Sort.scanDown (λx=>lt dk[a]! x) dk i' j):=(scanDown_end (λx=>lt dk[a]! x) dk i' j' (Or.inr hlv2)).symm.trans ju.out;have it:=scans_lt lt a i j dk (by omega) hv.out he.out hle2;obtain⟨Ek,hn⟩ : ∃Ek:Nat->List Value,∀t,Ek t=enc dk[t]!:=⟨λt=>enc dk[t]!,λ_=>rfl⟩
        have jb:∀q,(callFunc sf (#[.int .i64 i',.int .i64 j']++sb)).run P (later wr q)=.ok (.value (.tuple #[])) (((later wr q).setCells blk (off+i'*k) (Ek j')).setCells blk (off+j'*k) (Ek i')):=λq=>by
         rw[hn,hn];exact hswap (later wr q) dk ((Gl hq q).holds hblk hH hs) hs i' j' (by omega) (by omega)
        have AK:Hid (∀t,Ek t=enc dk[t]!):=hn;clear hn ju hq
        go_wp2_with (go_at_fn g;refine hl.mono ?_;rintro e w' ⟨rfl,nq,rfl⟩)
        go_roundw
        case rel=>
         refine⟨i'+1,j' - 1,n+(n2+nq),Sort.swp dk i' j',by go_num,by go_num,by omega,by omega,by omega,by rw[size_swp];exact hs,?_,?_⟩
         .rw[HW2.out,AW.out,nb,nb,AK.out i',AK.out j'];exact swap_worldFK enc k hk _ blk off ht dk _ i' j' (by omega) (by omega)
         .rw[<-AE.out];exact(partEq_go lt a i j dk hv.out he.out (by omega)).symm
        case measure=>simp[intOf];omega
      ·
       have he:Hid (j'=Sort.scanDown (λx=>lt dk[a]! x) dk i' j):=(scanDown_end (λx=>lt dk[a]! x) dk i' j' (Or.inl hle2)).symm.trans ju.out;clear ju
       go_wp2
       go_ret
       have e:=partEq_break lt a i j dk hv.out he.out (by omega);refine⟨?_,n+n2,?_⟩
       .unfold Sort.partitionEqual;rw[<-AE.out,e];rfl
       .unfold Sort.partitionEqual;rw[<-AE.out,e,HW2.out,AW.out,nb]
   ·
    clear hq;have hv:Hid (i'=Sort.scanUp (λx=>!lt dk[a]! x) dk j i):=(scanUp_end (λx=>!lt dk[a]! x) dk j i' (Or.inl hle)).symm.trans ie.out
    go_wp2
    have kj:wr=(later W1 (n1)):=by exact HW1.out
    clear d0 HW1 ie
    go_loopw [10] (λvj w2=>∃(j':Nat) (n2:Ln),vj=.int .i64 j'/\j'<=j/\i'<=j'+1/\w2=(later W1 n2) /\
      Hid (Sort.scanDown (λx=>lt dk[a]! x) dk i' j'=Sort.scanDown (λx=>lt dk[a]! x) dk i' j))
     (λvj _=>(intOf vj).toNat)
    case atStart=>exact⟨j,n1,rfl,Nat.le_refl _,ha,kj,rfl⟩
    case round=>
     clear kj;obtain⟨j',n2,rfl,hg,hc,kj,ju⟩:=hrel;have d0:wr.cell? ⟨W.heap.size,0,none⟩=some (.func (.func g) #[] lb):=by rw[kj];exact c0 n2
     have d1:∀q,(later wr q).cell? ⟨W.heap.size,1,none⟩=some (.func (.func sf) #[] sb):=λq=>by rw[kj,nb];exact c1 _
     have hq:SWK enc k W blk off dk wr:=by rw[kj];exact hp n2
     have HW2:Hid (wr=(later W1 n2)):=kj;clear kj;by_cases hle2:i'<=j'
     .exfalso;omega
     ·
      have he:Hid (j'=Sort.scanDown (λx=>lt dk[a]! x) dk i' j):=(scanDown_end (λx=>lt dk[a]! x) dk i' j' (Or.inl hle2)).symm.trans ju.out;clear ju
      go_wp2
      go_ret
      have e:=partEq_break lt a i j dk hv.out he.out (by omega);refine⟨?_,n+n2,?_⟩
      .unfold Sort.partitionEqual;rw[<-AE.out,e];rfl
      .unfold Sort.partitionEqual;rw[<-AE.out,e,HW2.out,AW.out,nb]
set_option maxHeartbeats 12800000 in
set_option maxRecDepth 100000 in
theorem Any.partition_func_cells(L:LaysGg.n33 P ρ)(enc:α->List Value)(k:Nat)(hk:∀x,(enc x).length=k)(lt:α->α->Bool)(g:Nat)(lb:Array Value)(sf:Nat)(sb:Array Value)(blk off a b pivot:Nat)(d:Array α)(W:World)
  (eg:∀args w,(callFunc g args).run P w=.ok (.enter g args) w) (hless:LessReadsK P g lb enc k lt blk off d.size W) (hswap:SwapSwapsK P sf sb enc k blk off d.size)
  (hH:HoldsK enc k W blk off d) (hblk:blk<W.heap.size) (hap:a<=pivot) (hpb:pivot<b) (hb:b<=d.size) (hsz:d.size<4611686018427387904) :
  Calls P (ρ.f 33) #[.agg #[.func (.func g) #[] lb,.func (.func sf) #[] sb],.int .i64 a,.int .i64 b,.int .i64 pivot] W λe w'=>
   e=.returned (.tuple #[.int .i64 (Sort.partition lt d a b pivot).1,.bool (Sort.partition lt d a b pivot).2.1])/\∃n,w'=(later (putRowK enc k (W.alloc (.cells #[.func (.func g) #[] lb,.func (.func sf) #[] sb] (ρ.t 44))) blk off (Sort.partition lt d a b pivot).2.2) n):=by
 have mixed:=L.mixed;have t0:=L.t0;have a0:=L.a0;have z0:=L.z0;have v0:=L.v0;have t3:=L.t3;have a3:=L.a3;have z3:=L.z3;have v3:=L.v3;have t4:=L.t4;have a4:=L.a4;have z4:=L.z4;have v4:=L.v4;have kz:=L.t26;have hh:=L.a26;have z26:=L.z26;have li:=L.v26;have kb:=L.t37;have hm:=L.a37;have lx:=L.z37;have lo:=L.v37;have kc:=L.t44;have ho:=L.a44;have mp:=L.z44;have lp:=L.v44;have ke:=run_underlying L.t44;have kj:a<d.size:=by omega
 have kk:pivot<d.size:=by omega
 have ht:HoldsK enc k (W.alloc (.cells #[.func (.func g) #[] lb,.func (.func sf) #[] sb] (ρ.t 44))) blk off d:=by rw[alloc_eq_grow];exact holdsK_grow enc k W _ blk off d hblk hH
 have ky:∀(dk:Array α) (n:Ln),SWK enc k W blk off dk (later (putRowK enc k (W.alloc (.cells #[.func (.func g) #[] lb,.func (.func sf) #[] sb] (ρ.t 44))) blk off dk) n):=λdk n=>by rw[jh enc k W _ blk off n dk hblk];exact⟨_,_,rfl⟩
 have he:blk<(W.alloc (.cells #[.func (.func g) #[] lb,.func (.func sf) #[] sb] (ρ.t 44))).heap.size:=by rw[alloc_eq_grow,size_grow];omega
 have b0:∀(dk:Array α) (n:Ln),(later (putRowK enc k (W.alloc (.cells #[.func (.func g) #[] lb,.func (.func sf) #[] sb] (ρ.t 44))) blk off dk) n).cell? ⟨W.heap.size,0,none⟩=some (.func (.func g) #[] lb):=λdk n=>yg (by simp) hblk n;have b1:∀(dk:Array α) (n:Ln),(later (putRowK enc k (W.alloc (.cells #[.func (.func g) #[] lb,.func (.func sf) #[] sb] (ρ.t 44))) blk off dk) n).cell? ⟨W.heap.size,1,none⟩=some (.func (.func sf) #[] sb):=λdk n=>yg (by simp) hblk n;obtain⟨i,hi⟩ : ∃i:Nat,i=a+1:=⟨_,rfl⟩;obtain⟨j,hj⟩ : ∃j:Nat,j=b - 1:=⟨_,rfl⟩;obtain⟨dk,hf⟩ : ∃dk:Array α,dk=Sort.swp d a pivot:=⟨_,rfl⟩;obtain⟨n,hn⟩ : ∃n:Ln,n=0:=⟨_,rfl⟩;have hs:dk.size=d.size:=by rw[hf];exact size_swp _ _ _
 have hc:a<i:=by omega
 have it:i<=j+1:=by omega
 have jb:j<b:=by omega
 obtain⟨W1,ha⟩ : ∃W1:World,W1=(((W.alloc (.cells #[.func (.func g) #[] lb,.func (.func sf) #[] sb] (ρ.t 44)))).setCells blk (off+a*k) (enc d[pivot]!)).setCells blk (off+pivot*k) (enc d[a]!):=⟨_,rfl⟩;have kn:(callFunc sf (#[.int .i64 a,.int .i64 pivot]++sb)).run P (W.alloc (.cells #[.func (.func g) #[] lb,.func (.func sf) #[] sb] (ρ.t 44)))=.ok (.value (.tuple #[])) W1:=by rw[ha];exact hswap _ d ht rfl a pivot kj kk
 have hw:W1=(later (putRowK enc k (W.alloc (.cells #[.func (.func g) #[] lb,.func (.func sf) #[] sb] (ρ.t 44))) blk off dk) n):=by
  have e:=swap_worldFK enc k hk (W.alloc (.cells #[.func (.func g) #[] lb,.func (.func sf) #[] sb] (ρ.t 44))) blk off he d 0 a pivot kj kk;rw[re,re,putRowK_self _ _ _ blk off d ht]at e;rw[ha,hf,hn,re];exact e
 have hy:∀m,SWK enc k W blk off dk (later W1 m):=λm=>by rw[hw];exact Gl (ky dk n) m
 have c0:∀m,(later W1 m).cell? ⟨W.heap.size,0,none⟩=some (.func (.func g) #[] lb):=λm=>by rw[hw,nb];exact b0 dk _
 have c1:∀m,(later W1 m).cell? ⟨W.heap.size,1,none⟩=some (.func (.func sf) #[] sb):=λm=>by rw[hw,nb];exact b1 dk _
 have AW:Hid (W1=(later (putRowK enc k (W.alloc (.cells #[.func (.func g) #[] lb,.func (.func sf) #[] sb] (ρ.t 44))) blk off dk) n)):=hw;have Hi:Hid (i=a+1):=hi;have Hj:Hid (j=b - 1):=hj;have Hdk:Hid (dk=Sort.swp d a pivot):=hf;clear hw ha ht hn hi hj hf
 go_enter L.f33,BodyGg.n33_ntmps ρ
 go_wp2
 rw[show((a:Int)+1)=(i:Int) by have:=Hi.out;omega,show((b:Int) - 1)=(j:Int) by have:=Hj.out;omega]
 go_loopw [10] (λvi w1=>∃(i':Nat) (n1:Ln),vi=.int .i64 i'/\i<=i'/\i'<=j+1/\w1=(later W1 n1) /\
   Hid (Sort.scanUp (λx=>lt x dk[a]!) dk j i'=Sort.scanUp (λx=>lt x dk[a]!) dk j i))
  (λvi _=>j+1 - (intOf vi).toNat)
 case atStart=>exact⟨i,0,rfl,Nat.le_refl _,it,(re _).symm,rfl⟩
 case round=>
  obtain⟨i',n1,rfl,io,ix,ks,kp⟩:=hrel;have d0:wr.cell? ⟨W.heap.size,0,none⟩=some (.func (.func g) #[] lb):=by rw[ks];exact c0 n1
  have hz:SWK enc k W blk off dk wr:=by rw[ks];exact hy n1
  have HW1:Hid (wr=(later W1 n1)):=ks;clear ks;by_cases hle:i'<=j
  .have hl:=gh hz hless hs i' a (by omega) (by omega);clear hz;cases hlv:lt dk[i']! dk[a]! with
   |true=>
    rw[hlv]at hl
    go_wp2_with (go_at_fn g;refine hl.mono ?_;rintro e w' ⟨rfl,nq,rfl⟩)
    go_roundw
    case rel=>exact⟨i'+1,n1+nq,by go_num,by omega,by omega,by rw[HW1.out,nb],(scanUp_go (λx=>lt x dk[a]!) dk j i' hle hlv).symm.trans kp.out⟩
    case measure=>simp[intOf];omega
   |false=>
    rw[hlv]at hl;have ih:Hid (i'=Sort.scanUp (λx=>lt x dk[a]!) dk j i):=(scanUp_end (λx=>lt x dk[a]!) dk j i' (Or.inr hlv)).symm.trans kp.out
    go_wp2_with (go_at_fn g;refine hl.mono ?_;rintro e w' ⟨rfl,nq,rfl⟩)
    have kx:(later wr nq)=(later W1 (n1+nq)):=by rw[HW1.out,nb]
    clear d0 HW1 kp
    go_loopw [11] (λvj w2=>∃(j':Nat) (n2:Ln),vj=.int .i64 j'/\j'<=j/\i'<=j'+1/\w2=(later W1 n2) /\
      Hid (Sort.scanDown (λx=>!lt x dk[a]!) dk i' j'=Sort.scanDown (λx=>!lt x dk[a]!) dk i' j))
     (λvj _=>(intOf vj).toNat)
    case atStart=>exact⟨j,n1+nq,rfl,Nat.le_refl _,ix,kx,rfl⟩
    case round=>
     clear kx;obtain⟨j',n2,rfl,ki,ie,kx,kq⟩:=hrel;have d0:wr.cell? ⟨W.heap.size,0,none⟩=some (.func (.func g) #[] lb):=by rw[kx];exact c0 n2
     have d1:∀q,(later wr q).cell? ⟨W.heap.size,1,none⟩=some (.func (.func sf) #[] sb):=λq=>by rw[kx,nb];exact c1 _
     have hz:SWK enc k W blk off dk wr:=by rw[kx];exact hy n2
     have HW2:Hid (wr=(later W1 n2)):=kx;clear kx;by_cases hle2:i'<=j'
     .have hl:=gh hz hless hs j' a (by omega) (by omega);cases hlv2:lt dk[j']! dk[a]! with
      |false=>
       rw[hlv2]at hl
       go_wp2_with (go_at_fn g;refine hl.mono ?_;rintro e w' ⟨rfl,nq,rfl⟩)
       go_roundw
       case rel=>exact⟨j' - 1,n2+nq,by go_num,by omega,by omega,by rw[HW2.out,nb],(scanDown_go (λx=>!lt x dk[a]!) dk i' j' hle2 (by omega) (by simp[hlv2])).symm.trans kq.out⟩
       case measure=>simp[intOf];omega
      |true=>
       rw[hlv2]at hl;have ju:Hid (j'=Sort.scanDown (λx=>!lt x dk[a]!) dk i' j):=(scanDown_end (λx=>!lt x dk[a]!) dk i' j' (Or.inr (by simp[hlv2]))).symm.trans kq.out;have km:=part_scans_lt lt a i j dk (by omega) ih.out ju.out hle2;obtain⟨Ek,hr⟩ : ∃Ek:Nat->List Value,∀t,Ek t=enc dk[t]!:=⟨λt=>enc dk[t]!,λ_=>rfl⟩
       have kr:∀q,(callFunc sf (#[.int .i64 i',.int .i64 j']++sb)).run P (later wr q)=.ok (.value (.tuple #[])) (((later wr q).setCells blk (off+i'*k) (Ek j')).setCells blk (off+j'*k) (Ek i')):=λq=>by
        rw[hr,hr];exact hswap (later wr q) dk ((Gl hz q).holds hblk hH hs) hs i' j' (by omega) (by omega)
       have AK:Hid (∀t,Ek t=enc dk[t]!):=hr;clear hr kq hz
       go_wp2_with (go_at_fn g;refine hl.mono ?_;rintro e w' ⟨rfl,nq,rfl⟩)
       rw[decide_eq_false (show ¬ j'<i' by omega)];obtain⟨I0,hu⟩ : ∃I0:Nat,I0=i'+1:=⟨_,rfl⟩;obtain⟨J0,hv⟩ : ∃J0:Nat,J0=j' - 1:=⟨_,rfl⟩;obtain⟨D0,hq⟩ : ∃D0:Array α,D0=Sort.swp dk i' j':=⟨_,rfl⟩
       have PF:Hid (Sort.partition lt d a b pivot=((Sort.partLoop lt a I0 J0 D0).1,false,Sort.swp (Sort.partLoop lt a I0 J0 D0).2 (Sort.partLoop lt a I0 J0 D0).1 a)):=by
        rw[hu,hv,hq];exact part_first_go lt d a b pivot Hi.out Hj.out Hdk.out ih.out ju.out (by omega)
       go_loopw [10,11] (λvi vj wr=>∃(i j:Nat) (n:Ln) (dk:Array α),vi=.int .i64 i/\vj=.int .i64 j/\a<i/\i<=j+1/\j<b/\dk.size=d.size/\wr=(later (putRowK enc k (W.alloc (.cells #[.func (.func g) #[] lb,.func (.func sf) #[] sb] (ρ.t 44))) blk off dk) n) /\
         Sort.partLoop lt a i j dk=Sort.partLoop lt a I0 J0 D0)
        (λvi vj _=>(intOf vj).toNat+1 - (intOf vi).toNat)
       case atStart=>
        refine⟨i'+1,j' - 1,n+(n2+nq),Sort.swp dk i' j',by go_num,by go_num,by omega,by omega,by omega,by rw[size_swp];exact hs,?_,by rw[hu,hv,hq]⟩;rw[HW2.out,AW.out,nb,nb,AK.out i',AK.out j'];exact swap_worldFK enc k hk _ blk off he dk _ i' j' (by omega) (by omega)
       case round=>
        clear hu hv hq kr AK HW2 ju ih km d0 d1 hl c0 c1 hy AW Hi Hj Hdk hs;obtain⟨i,j,n,dk,rfl,rfl,hc,it,jb,hs,hw,hg⟩:=hrel
        rename World=>W1
        have hy:∀m,SWK enc k W blk off dk (later W1 m):=λm=>by rw[hw];exact Gl (ky dk n) m
        have c0:∀m,(later W1 m).cell? ⟨W.heap.size,0,none⟩=some (.func (.func g) #[] lb):=λm=>by rw[hw,nb];exact b0 dk _
        have c1:∀m,(later W1 m).cell? ⟨W.heap.size,1,none⟩=some (.func (.func sf) #[] sb):=λm=>by rw[hw,nb];exact b1 dk _
        have AW:Hid (W1=(later (putRowK enc k (W.alloc (.cells #[.func (.func g) #[] lb,.func (.func sf) #[] sb] (ρ.t 44))) blk off dk) n)):=hw;have AE:Hid (Sort.partLoop lt a i j dk=Sort.partLoop lt a I0 J0 D0):=hg;clear hw hg
        go_wp2
        go_loopw [10] (λvi w1=>∃(i':Nat) (n1:Ln),vi=.int .i64 i'/\i<=i'/\i'<=j+1/\w1=(later W1 n1) /\
          Hid (Sort.scanUp (λx=>lt x dk[a]!) dk j i'=Sort.scanUp (λx=>lt x dk[a]!) dk j i))
         (λvi _=>j+1 - (intOf vi).toNat)
        case atStart=>exact⟨i,0,rfl,Nat.le_refl _,it,(re _).symm,rfl⟩
        case round=>
         obtain⟨i',n1,rfl,io,ix,ks,kp⟩:=hrel;have d0:wr.cell? ⟨W.heap.size,0,none⟩=some (.func (.func g) #[] lb):=by rw[ks];exact c0 n1
         have hz:SWK enc k W blk off dk wr:=by rw[ks];exact hy n1
         have HW1:Hid (wr=(later W1 n1)):=ks;clear ks;by_cases hle:i'<=j
         .have hl:=gh hz hless hs i' a (by omega) (by omega);clear hz;cases hlv:lt dk[i']! dk[a]! with
          |true=>
           rw[hlv]at hl
           go_wp2_with (go_at_fn g;refine hl.mono ?_;rintro e w' ⟨rfl,nq,rfl⟩)
           go_roundw
           case rel=>exact⟨i'+1,n1+nq,by go_num,by omega,by omega,by rw[HW1.out,nb],(scanUp_go (λx=>lt x dk[a]!) dk j i' hle hlv).symm.trans kp.out⟩
           case measure=>simp[intOf];omega
          |false=>
           rw[hlv]at hl;have ih:Hid (i'=Sort.scanUp (λx=>lt x dk[a]!) dk j i):=(scanUp_end (λx=>lt x dk[a]!) dk j i' (Or.inr hlv)).symm.trans kp.out
           go_wp2_with (go_at_fn g;refine hl.mono ?_;rintro e w' ⟨rfl,nq,rfl⟩)
           have kx:(later wr nq)=(later W1 (n1+nq)):=by rw[HW1.out,nb]
           clear d0 HW1 kp
           go_loopw [11] (λvj w2=>∃(j':Nat) (n2:Ln),vj=.int .i64 j'/\j'<=j/\i'<=j'+1/\w2=(later W1 n2) /\
             Hid (Sort.scanDown (λx=>!lt x dk[a]!) dk i' j'=Sort.scanDown (λx=>!lt x dk[a]!) dk i' j))
            (λvj _=>(intOf vj).toNat)
           case atStart=>exact⟨j,n1+nq,rfl,Nat.le_refl _,ix,kx,rfl⟩
           case round=>
            clear kx;obtain⟨j',n2,rfl,ki,ie,kx,kq⟩:=hrel;have d0:wr.cell? ⟨W.heap.size,0,none⟩=some (.func (.func g) #[] lb):=by rw[kx];exact c0 n2
            have d1:∀q,(later wr q).cell? ⟨W.heap.size,1,none⟩=some (.func (.func sf) #[] sb):=λq=>by rw[kx,nb];exact c1 _
            have hz:SWK enc k W blk off dk wr:=by rw[kx];exact hy n2
            have HW2:Hid (wr=(later W1 n2)):=kx;clear kx;by_cases hle2:i'<=j'
            .have hl:=gh hz hless hs j' a (by omega) (by omega);cases hlv2:lt dk[j']! dk[a]! with
             |false=>
              rw[hlv2]at hl
              go_wp2_with (go_at_fn g;refine hl.mono ?_;rintro e w' ⟨rfl,nq,rfl⟩)
              go_roundw
              case rel=>exact⟨j' - 1,n2+nq,by go_num,by omega,by omega,by rw[HW2.out,nb],(scanDown_go (λx=>!lt x dk[a]!) dk i' j' hle2 (by omega) (by simp[hlv2])).symm.trans kq.out⟩
              case measure=>simp[intOf];omega
             |true=>
              rw[hlv2]at hl;have ju:Hid (j'=Sort.scanDown (λx=>!lt x dk[a]!) dk i' j):=(scanDown_end (λx=>!lt x dk[a]!) dk i' j' (Or.inr (by simp[hlv2]))).symm.trans kq.out;have km:=part_scans_lt lt a i j dk (by omega) ih.out ju.out hle2;obtain⟨Ek,hr⟩ : ∃Ek:Nat->List Value,∀t,Ek t=enc dk[t]!:=⟨λt=>enc dk[t]!,λ_=>rfl⟩
              have kr:∀q,(callFunc sf (#[.int .i64 i',.int .i64 j']++sb)).run P (later wr q)=.ok (.value (.tuple #[])) (((later wr q).setCells blk (off+i'*k) (Ek j')).setCells blk (off+j'*k) (Ek i')):=λq=>by
               rw[hr,hr];exact hswap (later wr q) dk ((Gl hz q).holds hblk hH hs) hs i' j' (by omega) (by omega)
              have AK:Hid (∀t,Ek t=enc dk[t]!):=hr;clear hr kq hz
              go_wp2_with (go_at_fn g;refine hl.mono ?_;rintro e w' ⟨rfl,nq,rfl⟩)
              go_roundw
              case rel=>
               refine⟨i'+1,j' - 1,n+(n2+nq),Sort.swp dk i' j',by go_num,by go_num,by omega,by omega,by omega,by rw[size_swp];exact hs,?_,?_⟩
               .rw[HW2.out,AW.out,nb,nb,AK.out i',AK.out j'];exact swap_worldFK enc k hk _ blk off he dk _ i' j' (by omega) (by omega)
               .rw[<-AE.out];exact(part_go lt a i j dk ih.out ju.out (by omega)).symm
              case measure=>simp[intOf];omega
            ·
             have ju:Hid (j'=Sort.scanDown (λx=>!lt x dk[a]!) dk i' j):=(scanDown_end (λx=>!lt x dk[a]!) dk i' j' (Or.inl hle2)).symm.trans kq.out;obtain⟨Ek,hr⟩ : ∃Ek:Nat->List Value,∀t,Ek t=enc dk[t]!:=⟨λt=>enc dk[t]!,λ_=>rfl⟩
             have kr:(callFunc sf (#[.int .i64 j',.int .i64 a]++sb)).run P wr=.ok (.value (.tuple #[])) ((wr.setCells blk (off+j'*k) (Ek a)).setCells blk (off+a*k) (Ek j')):=by
              rw[hr,hr];exact hswap wr dk (hz.holds hblk hH hs) hs j' a (by omega) (by omega)
             have hp:wr.cell? ⟨W.heap.size,1,none⟩=some (.func (.func sf) #[] sb):=(by have h0:=d1 0;rwa [re]at h0);have AK:Hid (∀t,Ek t=enc dk[t]!):=hr;clear hr kq hz
             go_wp2
             go_ret2
             have e:=part_break lt a i j dk ih.out ju.out (by omega);rw[PF.out,<-AE.out,e];refine⟨rfl,n+n2,?_⟩;rw[HW2.out,AW.out,nb,AK.out j',AK.out a];exact swap_worldFK enc k hk _ blk off he dk _ j' a (by omega) (by omega)
         ·
          clear hz;have ih:Hid (i'=Sort.scanUp (λx=>lt x dk[a]!) dk j i):=(scanUp_end (λx=>lt x dk[a]!) dk j i' (Or.inl hle)).symm.trans kp.out
          go_wp2
          have kx:wr=(later W1 (n1)):=by exact HW1.out
          clear d0 HW1 kp
          go_loopw [11] (λvj w2=>∃(j':Nat) (n2:Ln),vj=.int .i64 j'/\j'<=j/\i'<=j'+1/\w2=(later W1 n2) /\
            Hid (Sort.scanDown (λx=>!lt x dk[a]!) dk i' j'=Sort.scanDown (λx=>!lt x dk[a]!) dk i' j))
           (λvj _=>(intOf vj).toNat)
          case atStart=>exact⟨j,n1,rfl,Nat.le_refl _,ix,kx,rfl⟩
          case round=>
           clear kx;obtain⟨j',n2,rfl,ki,ie,kx,kq⟩:=hrel;have d0:wr.cell? ⟨W.heap.size,0,none⟩=some (.func (.func g) #[] lb):=by rw[kx];exact c0 n2
           have d1:∀q,(later wr q).cell? ⟨W.heap.size,1,none⟩=some (.func (.func sf) #[] sb):=λq=>by rw[kx,nb];exact c1 _
           have hz:SWK enc k W blk off dk wr:=by rw[kx];exact hy n2
           have HW2:Hid (wr=(later W1 n2)):=kx;clear kx;by_cases hle2:i'<=j'
           .exfalso;omega
           ·
            have ju:Hid (j'=Sort.scanDown (λx=>!lt x dk[a]!) dk i' j):=(scanDown_end (λx=>!lt x dk[a]!) dk i' j' (Or.inl hle2)).symm.trans kq.out;obtain⟨Ek,hr⟩ : ∃Ek:Nat->List Value,∀t,Ek t=enc dk[t]!:=⟨λt=>enc dk[t]!,λ_=>rfl⟩
            have kr:(callFunc sf (#[.int .i64 j',.int .i64 a]++sb)).run P wr=.ok (.value (.tuple #[])) ((wr.setCells blk (off+j'*k) (Ek a)).setCells blk (off+a*k) (Ek j')):=by
             rw[hr,hr];exact hswap wr dk (hz.holds hblk hH hs) hs j' a (by omega) (by omega)
            have hp:wr.cell? ⟨W.heap.size,1,none⟩=some (.func (.func sf) #[] sb):=(by have h0:=d1 0;rwa [re]at h0);have AK:Hid (∀t,Ek t=enc dk[t]!):=hr;clear hr kq hz
            go_wp2
            go_ret2
            have e:=part_break lt a i j dk ih.out ju.out (by omega);rw[PF.out,<-AE.out,e];refine⟨rfl,n+n2,?_⟩;rw[HW2.out,AW.out,nb,AK.out j',AK.out a];exact swap_worldFK enc k hk _ blk off he dk _ j' a (by omega) (by omega)
     ·
      have ju:Hid (j'=Sort.scanDown (λx=>!lt x dk[a]!) dk i' j):=(scanDown_end (λx=>!lt x dk[a]!) dk i' j' (Or.inl hle2)).symm.trans kq.out;obtain⟨Ek,hr⟩ : ∃Ek:Nat->List Value,∀t,Ek t=enc dk[t]!:=⟨λt=>enc dk[t]!,λ_=>rfl⟩
      have kr:(callFunc sf (#[.int .i64 j',.int .i64 a]++sb)).run P wr=.ok (.value (.tuple #[])) ((wr.setCells blk (off+j'*k) (Ek a)).setCells blk (off+a*k) (Ek j')):=by
       rw[hr,hr];exact hswap wr dk (hz.holds hblk hH hs) hs j' a (by omega) (by omega)
      have hp:wr.cell? ⟨W.heap.size,1,none⟩=some (.func (.func sf) #[] sb):=(by have h0:=d1 0;rwa [re]at h0);have AK:Hid (∀t,Ek t=enc dk[t]!):=hr;clear hr kq hz
      go_wp2
      go_ret2
      have e:=part_first_break lt d a b pivot Hi.out Hj.out Hdk.out ih.out ju.out (by omega);rw[e];refine⟨rfl,n+n2,?_⟩;rw[HW2.out,AW.out,nb,AK.out j',AK.out a];exact swap_worldFK enc k hk _ blk off he dk _ j' a (by omega) (by omega)
  ·
   clear hz;have ih:Hid (i'=Sort.scanUp (λx=>lt x dk[a]!) dk j i):=(scanUp_end (λx=>lt x dk[a]!) dk j i' (Or.inl hle)).symm.trans kp.out
   go_wp2
   have kx:wr=(later W1 (n1)):=by exact HW1.out
   clear d0 HW1 kp
   go_loopw [11] (λvj w2=>∃(j':Nat) (n2:Ln),vj=.int .i64 j'/\j'<=j/\i'<=j'+1/\w2=(later W1 n2) /\
     Hid (Sort.scanDown (λx=>!lt x dk[a]!) dk i' j'=Sort.scanDown (λx=>!lt x dk[a]!) dk i' j))
    (λvj _=>(intOf vj).toNat)
   case atStart=>exact⟨j,n1,rfl,Nat.le_refl _,ix,kx,rfl⟩
   case round=>
    clear kx;obtain⟨j',n2,rfl,ki,ie,kx,kq⟩:=hrel;have d0:wr.cell? ⟨W.heap.size,0,none⟩=some (.func (.func g) #[] lb):=by rw[kx];exact c0 n2
    have d1:∀q,(later wr q).cell? ⟨W.heap.size,1,none⟩=some (.func (.func sf) #[] sb):=λq=>by rw[kx,nb];exact c1 _
    have hz:SWK enc k W blk off dk wr:=by rw[kx];exact hy n2
    have HW2:Hid (wr=(later W1 n2)):=kx;clear kx;by_cases hle2:i'<=j'
    .exfalso;omega
    ·
     have ju:Hid (j'=Sort.scanDown (λx=>!lt x dk[a]!) dk i' j):=(scanDown_end (λx=>!lt x dk[a]!) dk i' j' (Or.inl hle2)).symm.trans kq.out;obtain⟨Ek,hr⟩ : ∃Ek:Nat->List Value,∀t,Ek t=enc dk[t]!:=⟨λt=>enc dk[t]!,λ_=>rfl⟩
     have kr:(callFunc sf (#[.int .i64 j',.int .i64 a]++sb)).run P wr=.ok (.value (.tuple #[])) ((wr.setCells blk (off+j'*k) (Ek a)).setCells blk (off+a*k) (Ek j')):=by
      rw[hr,hr];exact hswap wr dk (hz.holds hblk hH hs) hs j' a (by omega) (by omega)
     have hp:wr.cell? ⟨W.heap.size,1,none⟩=some (.func (.func sf) #[] sb):=(by have h0:=d1 0;rwa [re]at h0);have AK:Hid (∀t,Ek t=enc dk[t]!):=hr;clear hr kq hz
     go_wp2
     go_ret2
     have e:=part_first_break lt d a b pivot Hi.out Hj.out Hdk.out ih.out ju.out (by omega);rw[e];refine⟨rfl,n+n2,?_⟩;rw[HW2.out,AW.out,nb,AK.out j',AK.out a];exact swap_worldFK enc k hk _ blk off he dk _ j' a (by omega) (by omega)
theorem Any.partitionEqual_func_cells_w(L:LaysGg.n32 P ρ)(enc:α->List Value)(k:Nat)(hk:∀x,(enc x).length=k)(lt:α->α->Bool)(g:Nat)(lb:Array Value)(sf:Nat)(sb:Array Value)(blk off a b pivot:Nat)(d:Array α)(W:World)
  (eg:∀args w,(callFunc g args).run P w=.ok (.enter g args) w) (hless:LessReadsK P g lb enc k lt blk off d.size W) (hswap:SwapSwapsK P sf sb enc k blk off d.size)
  (hH:HoldsK enc k W blk off d) (hblk:blk<W.heap.size) (hap:a<=pivot) (hpb:pivot<b) (hb:b<=d.size) (hsz:d.size<4611686018427387904) :
  Calls P (ρ.f 32) #[.agg #[.func (.func g) #[] lb,.func (.func sf) #[] sb],.int .i64 a,.int .i64 b,.int .i64 pivot] W λe w'=>e=.returned (.int .i64 (Sort.partitionEqual lt d a b pivot).1)/\∃n os,w'=sortWorldK enc k W blk off n (Sort.partitionEqual lt d a b pivot).2 os:=(Any.partitionEqual_func_cells L enc k hk lt g lb sf sb blk off a b pivot d W eg hless hswap hH hblk hap hpb hb hsz).mono λ_ _ ⟨he,n,hw⟩=>⟨he,n.n,_,hw.trans (jh enc k W _ blk off n _ hblk)⟩
theorem Any.partition_func_cells_w(L:LaysGg.n33 P ρ)(enc:α->List Value)(k:Nat)(hk:∀x,(enc x).length=k)(lt:α->α->Bool)(g:Nat)(lb:Array Value)(sf:Nat)(sb:Array Value)(blk off a b pivot:Nat)(d:Array α)(W:World)
  (eg:∀args w,(callFunc g args).run P w=.ok (.enter g args) w) (hless:LessReadsK P g lb enc k lt blk off d.size W) (hswap:SwapSwapsK P sf sb enc k blk off d.size)
  (hH:HoldsK enc k W blk off d) (hblk:blk<W.heap.size) (hap:a<=pivot) (hpb:pivot<b) (hb:b<=d.size) (hsz:d.size<4611686018427387904) :
  Calls P (ρ.f 33) #[.agg #[.func (.func g) #[] lb,.func (.func sf) #[] sb],.int .i64 a,.int .i64 b,.int .i64 pivot] W λe w'=>e=.returned (.tuple #[.int .i64 (Sort.partition lt d a b pivot).1,.bool (Sort.partition lt d a b pivot).2.1])/\∃n os,w'=sortWorldK enc k W blk off n (Sort.partition lt d a b pivot).2.2 os:=(Any.partition_func_cells L enc k hk lt g lb sf sb blk off a b pivot d W eg hless hswap hH hblk hap hpb hb hsz).mono λ_ _ ⟨he,n,hw⟩=>⟨he,n.n,_,hw.trans (jh enc k W _ blk off n _ hblk)⟩
end
section
open Go Go.Shelf Go.RowKit Go.Lib Go.Sort
variable {P:Program}{ρ:Ren}{α:Type} [Inhabited α]
set_option maxHeartbeats 16000000 in
set_option maxRecDepth 1000000 in
theorem Any.partialInsertionSort_func_cells(L:LaysGg.n31 P ρ)(enc:α->List Value)(k:Nat)(hk:∀x,(enc x).length=k)(lt:α->α->Bool)(g:Nat)(lb:Array Value)(sf:Nat)(sb:Array Value)(blk off a b:Nat)(d:Array α)(w:World)
  (eg:∀args w,(callFunc g args).run P w=.ok (.enter g args) w) (hless:LessReadsK P g lb enc k lt blk off d.size w) (hswap:SwapSwapsK P sf sb enc k blk off d.size)
  (hH:HoldsK enc k w blk off d) (hblk:blk<w.heap.size) (hab:a<b) (hb:b<=d.size) (hsz:d.size<4611686018427387904) :
  Calls P (ρ.f 31) #[.agg #[.func (.func g) #[] lb,.func (.func sf) #[] sb],.int .i64 a,.int .i64 b] w λe w'=>
   e=.returned (.bool (Sort.partialInsertionSort lt d a b).2)/\∃n,w'=(later (putRowK enc k (w.alloc (.cells #[.func (.func g) #[] lb,.func (.func sf) #[] sb] (ρ.t 44))) blk off (Sort.partialInsertionSort lt d a b).1) n):=by
 have mixed:=L.mixed;have t0:=L.t0;have a0:=L.a0;have z0:=L.z0;have v0:=L.v0;have t3:=L.t3;have a3:=L.a3;have z3:=L.z3;have v3:=L.v3;have t4:=L.t4;have a4:=L.a4;have z4:=L.z4;have v4:=L.v4;have kc:=L.t26;have hh:=L.a26;have z26:=L.z26;have lp:=L.v26;have ke:=L.t37;have hi:=L.a37;have nl:=L.z37;have lx:=L.v37;have li:=L.t44;have hm:=L.a44;have nq:=L.z44;have mp:=L.v44;have lo:=run_underlying L.t44;have ho:HoldsK enc k (w.alloc (.cells #[.func (.func g) #[] lb,.func (.func sf) #[] sb] (ρ.t 44))) blk off d:=by rw[alloc_eq_grow];exact holdsK_grow enc k w _ blk off d hblk hH
 have c0:∀(m:Ln) (X:Array α),(later (putRowK enc k (w.alloc (.cells #[.func (.func g) #[] lb,.func (.func sf) #[] sb] (ρ.t 44))) blk off X) m).cell? ⟨w.heap.size,0,none⟩=some (.func (.func g) #[] lb):=λm X=>yg (by simp) hblk m;have c1:∀(m:Ln) (X:Array α),(later (putRowK enc k (w.alloc (.cells #[.func (.func g) #[] lb,.func (.func sf) #[] sb] (ρ.t 44))) blk off X) m).cell? ⟨w.heap.size,1,none⟩=some (.func (.func sf) #[] sb):=λm X=>yg (by simp) hblk m;have ht:blk<(w.alloc (.cells #[.func (.func g) #[] lb,.func (.func sf) #[] sb] (ρ.t 44))).heap.size:=by rw[alloc_eq_grow,size_grow];omega
 have kk:∀(X:Array α) (j:Nat) (v:Bool),X.size=d.size->1<=j->j<d.size->lt X[j]! X[j - 1]! = v->∀m,Calls P g (#[.int .i64 (j:Int),.int .i64 ((j:Int) - 1)]++lb) (later (putRowK enc k (w.alloc (.cells #[.func (.func g) #[] lb,.func (.func sf) #[] sb] (ρ.t 44))) blk off X) m) λe w'=>e=.returned (.bool v)/\∃q,w'=(later (putRowK enc k (w.alloc (.cells #[.func (.func g) #[] lb,.func (.func sf) #[] sb] (ρ.t 44))) blk off X) (m+q)):=λX j v hX h1 hj hv m=>by
  have hl:=QS hless (.cells #[.func (.func g) #[] lb,.func (.func sf) #[] sb] (ρ.t 44)) hblk hX m j (j - 1) hj (by omega);rw[hv,show((j - 1:Nat):Int)=(j:Int) - 1 by omega]at hl;exact hl
 have kr:∀(X:Array α) (j:Nat),X.size=d.size->1<=j->j<d.size->∀m,(callFunc sf (#[.int .i64 (j:Int),.int .i64 ((j:Int) - 1)]++sb)).run P (later (putRowK enc k (w.alloc (.cells #[.func (.func g) #[] lb,.func (.func sf) #[] sb] (ρ.t 44))) blk off X) m)=.ok (.value (.tuple #[])) (later (putRowK enc k (w.alloc (.cells #[.func (.func g) #[] lb,.func (.func sf) #[] sb] (ρ.t 44))) blk off (swp X j (j - 1))) m):=λX j hX h1 hj m=>by
  have:=FI hswap hk ho ht rfl hX m j (j - 1) hj (by omega);rw[show((j - 1:Nat):Int)=(j:Int) - 1 by omega]at this;exact this
 have HL:Aside _:=kk;have HS:Aside _:=kr;have HST:Hid ((w.alloc (.cells #[.func (.func g) #[] lb,.func (.func sf) #[] sb] (ρ.t 44)))=(later (putRowK enc k (w.alloc (.cells #[.func (.func g) #[] lb,.func (.func sf) #[] sb] (ρ.t 44))) blk off d) 0)):=GI ho;clear kk kr hless hswap hH ho
 go_enter L.f31,BodyGg.n31_ntmps ρ
 go_wp2
 go_loopg [7,8] 5 (λg1 vi vs wr=>∃(i s:Nat) (n:Ln) (dk:Array α),vi=.int .i64 i/\vs=.int .i64 s/\s<=5/\5 - s<=g1/\a<i/\i<=b/\dk.size=d.size/\wr=(later (putRowK enc k (w.alloc (.cells #[.func (.func g) #[] lb,.func (.func sf) #[] sb] (ρ.t 44))) blk off dk) n)/\Hid (partialIns lt a b (5 - s) i dk=partialIns lt a b 5 (a+1) d))
 case atStart=>exact⟨a+1,0,0,d,by go_num,rfl,by omega,by omega,by omega,by omega,rfl,HST.out,rfl⟩
 case round=>
  obtain⟨i,s,n,dk,rfl,rfl,kq,hu,hq,ha,ky,rfl,HO⟩:=hrel;by_cases hs:s<5
  .have kb:(s:Int)<5:=by omega
   go_wp2
   go_loopg [7] (b - i) (λg2 vi wr2=>∃(kx:Nat) (m:Ln),vi=.int .i64 kx/\i<=kx/\kx<=b/\b - kx<=g2/\wr2=(later (putRowK enc k (w.alloc (.cells #[.func (.func g) #[] lb,.func (.func sf) #[] sb] (ρ.t 44))) blk off dk) m)/\Hid (scanSorted lt dk b kx=scanSorted lt dk b i))
   case atStart=>exact⟨i,n,rfl,Nat.le_refl _,ha,Nat.le_refl _,rfl,rfl⟩
   case round=>
    obtain⟨kx,m,rfl,hc,it,hw,rfl,HSc⟩:=hrel;by_cases hkb':kx<b
    .have jb:(kx:Int)<(b:Int):=by omega
     cases hlv:lt dk[kx]! dk[kx - 1]! with
     |false=>
      have hl:=HL.out dk kx false ky (by omega) (by omega) hlv
      go_wp2_with (go_at_fn g;refine(hl _).mono ?_;rintro e w' ⟨rfl,q,rfl⟩)
      go_roundg (b - (kx+1))
      case measure=>omega
      case rel=>exact⟨kx+1,_,by go_num,by omega,by omega,Nat.le_refl _,rfl,(show Hid _ from by rw[<-HSc.out,scanSorted_go lt dk b kx hkb' hlv];exact rfl)⟩
     |true=>
      have hl:=HL.out dk kx true ky (by omega) (by omega) hlv;have HK:Hid (scanSorted lt dk b i=kx):=by show _=_;rw[<-HSc.out,scanSorted_stop lt dk b kx (Or.inr hlv)]
      have ie:((kx:Int) == (b:Int))=false:=beq_eq_false_iff_ne.2 (by omega);by_cases h50:b - a<50
      .have hn:(b:Int) - (a:Int)<50:=by omega
       go_wp2_with (go_at_fn g;refine(hl _).mono ?_;rintro e w' ⟨rfl,q,rfl⟩)
       have hv:Sort.partialInsertionSort lt d a b=(dk,false):=by
        unfold Sort.partialInsertionSort;rw[<-HO.out,pi_short lt a b s i dk hs (by rw[HK.out];omega) h50]
       rw[hv]
       go_ret
       exact⟨rfl,_,rfl⟩
      .have hn:¬ ((b:Int) - (a:Int)<50):=by omega
       have km:=HS.out dk kx ky (by omega) (by omega);have hp:(swp dk kx (kx - 1)).size=d.size:=by rw[size_swp];exact ky
       by_cases hka:kx - a >= 2
       ·
        have io:(2:Int)<=(kx:Int) - (a:Int):=by omega
        go_wp2_with (go_at_fn g;refine(hl _).mono ?_;rintro e w' ⟨rfl,q,rfl⟩)
        go_loopg [9] (kx - 1) (λg3 vj wr3=>∃(j:Nat) (m2:Ln) (dj:Array α),vj=.int .i64 j/\j<=kx - 1/\j<=g3/\dj.size=d.size/\wr3=(later (putRowK enc k (w.alloc (.cells #[.func (.func g) #[] lb,.func (.func sf) #[] sb] (ρ.t 44))) blk off dj) m2)/\Hid (shiftDown lt j dj=shiftDown lt (kx - 1) (swp dk kx (kx - 1))))
        case atStart=>exact⟨kx - 1,_,(swp dk kx (kx - 1)),by congr 1;omega,Nat.le_refl _,Nat.le_refl _,hp,rfl,rfl⟩
        case round=>
         obtain⟨j,m2,dj,rfl,hg,hy,ks,rfl,HDn⟩:=hrel;by_cases hj1:1<=j
         .have he:(1:Int)<=(j:Int):=by omega
          cases hlv2:lt dj[j]! dj[j - 1]! with
          |true=>
           have ki:=HL.out dj j true ks hj1 (by omega) hlv2;have kn:=HS.out dj j ks hj1 (by omega)
           go_wp2_with (go_at_fn g;refine(ki _).mono ?_;rintro e w' ⟨rfl,q,rfl⟩)
           go_roundg (j - 1)
           case measure=>omega
           case rel=>exact⟨j - 1,_,swp dj j (j - 1),by congr 1;omega,by omega,Nat.le_refl _,by rw[size_swp];exact ks,rfl,(show Hid _ from by rw[<-HDn.out,shiftDown_go lt j dj hj1 hlv2];exact rfl)⟩
          |false=>
           have ki:=HL.out dj j false ks hj1 (by omega) hlv2;have HD:Hid (fixDown lt a kx (swp dk kx (kx - 1))=dj):=by show _=_;unfold fixDown;rw[if_pos hka,<-HDn.out,shiftDown_stop lt j dj (Or.inr hlv2)]
           by_cases hbk:b - kx >= 2
           ·
            have hr:(2:Int)<=(b:Int) - (kx:Int):=by omega
            go_wp2_with (go_at_fn g;refine(ki _).mono ?_;rintro e w' ⟨rfl,q,rfl⟩)
            go_loopg [10] (b - (kx+1)) (λg4 vj wr4=>∃(ju:Nat) (m3:Ln) (du:Array α),vj=.int .i64 ju/\kx+1<=ju/\ju<=b/\b - ju<=g4/\du.size=d.size/\wr4=(later (putRowK enc k (w.alloc (.cells #[.func (.func g) #[] lb,.func (.func sf) #[] sb] (ρ.t 44))) blk off du) m3)/\Hid (shiftUp lt b ju du=shiftUp lt b (kx+1) dj))
            case atStart=>exact⟨kx+1,_,dj,by go_num,Nat.le_refl _,by omega,Nat.le_refl _,ks,rfl,rfl⟩
            case round=>
             obtain⟨ju,m3,du,rfl,ix,hf,hz,kz,rfl,HU⟩:=hrel;by_cases hjb':ju<b
             .have ih:(ju:Int)<(b:Int):=by omega
              cases hlv3:lt du[ju]! du[ju - 1]! with
              |true=>
               have kj:=HL.out du ju true kz (by omega) (by omega) hlv3;have kp:=HS.out du ju kz (by omega) (by omega)
               go_wp2_with (go_at_fn g;refine(kj _).mono ?_;rintro e w' ⟨rfl,q,rfl⟩)
               go_roundg (b - (ju+1))
               case measure=>omega
               case rel=>exact⟨ju+1,_,swp du ju (ju - 1),by go_num,by omega,by omega,Nat.le_refl _,by rw[size_swp];exact kz,rfl,(show Hid _ from by rw[<-HU.out,shiftUp_go lt b ju du hjb' hlv3];exact rfl)⟩
              |false=>
               have kj:=HL.out du ju false kz (by omega) (by omega) hlv3
               go_wp2_with (go_at_fn g;refine(kj _).mono ?_;rintro e w' ⟨rfl,q,rfl⟩)
               go_roundg (5 - (s+1))
               case measure=>omega
               case rel=>exact⟨kx,s+1,_,du,rfl,by go_num,by omega,Nat.le_refl _,by omega,by omega,kz,rfl,(show Hid _ from by rw[<-HO.out,pi_go lt a b s i kx dk hs HK.out (by omega) h50,HD.out,show fixUp lt b kx dj=du from by unfold fixUp;rw[if_pos hbk,<-HU.out,shiftUp_stop lt b ju du (Or.inr hlv3)]];exact rfl)⟩
             .have ih:¬ (ju:Int)<(b:Int):=by omega
              go_wp2
              go_roundg (5 - (s+1))
              case measure=>omega
              case rel=>exact⟨kx,s+1,_,du,rfl,by go_num,by omega,Nat.le_refl _,by omega,by omega,kz,rfl,(show Hid _ from by rw[<-HO.out,pi_go lt a b s i kx dk hs HK.out (by omega) h50,HD.out,show fixUp lt b kx dj=du from by unfold fixUp;rw[if_pos hbk,<-HU.out,shiftUp_stop lt b ju du (Or.inl hjb')]];exact rfl)⟩
           .have hr:¬ (2:Int)<=(b:Int) - (kx:Int):=by omega
            go_wp2_with (go_at_fn g;refine(ki _).mono ?_;rintro e w' ⟨rfl,q,rfl⟩)
            go_roundg (5 - (s+1))
            case measure=>omega
            case rel=>exact⟨kx,s+1,_,dj,rfl,by go_num,by omega,Nat.le_refl _,by omega,by omega,ks,rfl,(show Hid _ from by rw[<-HO.out,pi_go lt a b s i kx dk hs HK.out (by omega) h50,HD.out,show fixUp lt b kx dj=dj from by unfold fixUp;rw[if_neg hbk]];exact rfl)⟩
         .have he:¬ (1:Int)<=(j:Int):=by omega
          have HD:Hid (fixDown lt a kx (swp dk kx (kx - 1))=dj):=by show _=_;unfold fixDown;rw[if_pos hka,<-HDn.out,shiftDown_stop lt j dj (Or.inl (by omega))]
          by_cases hbk:b - kx >= 2
          ·
           have hr:(2:Int)<=(b:Int) - (kx:Int):=by omega
           go_wp2
           go_loopg [10] (b - (kx+1)) (λg4 vj wr4=>∃(ju:Nat) (m3:Ln) (du:Array α),vj=.int .i64 ju/\kx+1<=ju/\ju<=b/\b - ju<=g4/\du.size=d.size/\wr4=(later (putRowK enc k (w.alloc (.cells #[.func (.func g) #[] lb,.func (.func sf) #[] sb] (ρ.t 44))) blk off du) m3)/\Hid (shiftUp lt b ju du=shiftUp lt b (kx+1) dj))
           case atStart=>exact⟨kx+1,_,dj,by go_num,Nat.le_refl _,by omega,Nat.le_refl _,ks,rfl,rfl⟩
           case round=>
            obtain⟨ju,m3,du,rfl,ix,hf,hz,kz,rfl,HU⟩:=hrel;by_cases hjb':ju<b
            .have ih:(ju:Int)<(b:Int):=by omega
             cases hlv3:lt du[ju]! du[ju - 1]! with
             |true=>
              have kj:=HL.out du ju true kz (by omega) (by omega) hlv3;have kp:=HS.out du ju kz (by omega) (by omega)
              go_wp2_with (go_at_fn g;refine(kj _).mono ?_;rintro e w' ⟨rfl,q,rfl⟩)
              go_roundg (b - (ju+1))
              case measure=>omega
              case rel=>exact⟨ju+1,_,swp du ju (ju - 1),by go_num,by omega,by omega,Nat.le_refl _,by rw[size_swp];exact kz,rfl,(show Hid _ from by rw[<-HU.out,shiftUp_go lt b ju du hjb' hlv3];exact rfl)⟩
             |false=>
              have kj:=HL.out du ju false kz (by omega) (by omega) hlv3
              go_wp2_with (go_at_fn g;refine(kj _).mono ?_;rintro e w' ⟨rfl,q,rfl⟩)
              go_roundg (5 - (s+1))
              case measure=>omega
              case rel=>exact⟨kx,s+1,_,du,rfl,by go_num,by omega,Nat.le_refl _,by omega,by omega,kz,rfl,(show Hid _ from by rw[<-HO.out,pi_go lt a b s i kx dk hs HK.out (by omega) h50,HD.out,show fixUp lt b kx dj=du from by unfold fixUp;rw[if_pos hbk,<-HU.out,shiftUp_stop lt b ju du (Or.inr hlv3)]];exact rfl)⟩
            .have ih:¬ (ju:Int)<(b:Int):=by omega
             go_wp2
             go_roundg (5 - (s+1))
             case measure=>omega
             case rel=>exact⟨kx,s+1,_,du,rfl,by go_num,by omega,Nat.le_refl _,by omega,by omega,kz,rfl,(show Hid _ from by rw[<-HO.out,pi_go lt a b s i kx dk hs HK.out (by omega) h50,HD.out,show fixUp lt b kx dj=du from by unfold fixUp;rw[if_pos hbk,<-HU.out,shiftUp_stop lt b ju du (Or.inl hjb')]];exact rfl)⟩
          .have hr:¬ (2:Int)<=(b:Int) - (kx:Int):=by omega
           go_wp2
           go_roundg (5 - (s+1))
           case measure=>omega
           case rel=>exact⟨kx,s+1,_,dj,rfl,by go_num,by omega,Nat.le_refl _,by omega,by omega,ks,rfl,(show Hid _ from by rw[<-HO.out,pi_go lt a b s i kx dk hs HK.out (by omega) h50,HD.out,show fixUp lt b kx dj=dj from by unfold fixUp;rw[if_neg hbk]];exact rfl)⟩
       .have io:¬ (2:Int)<=(kx:Int) - (a:Int):=by omega
        have HD:Hid (fixDown lt a kx (swp dk kx (kx - 1))=(swp dk kx (kx - 1))):=by show _=_;unfold fixDown;rw[if_neg hka]
        by_cases hbk:b - kx >= 2
        ·
         have hr:(2:Int)<=(b:Int) - (kx:Int):=by omega
         go_wp2_with (go_at_fn g;refine(hl _).mono ?_;rintro e w' ⟨rfl,q,rfl⟩)
         go_loopg [10] (b - (kx+1)) (λg4 vj wr4=>∃(ju:Nat) (m3:Ln) (du:Array α),vj=.int .i64 ju/\kx+1<=ju/\ju<=b/\b - ju<=g4/\du.size=d.size/\wr4=(later (putRowK enc k (w.alloc (.cells #[.func (.func g) #[] lb,.func (.func sf) #[] sb] (ρ.t 44))) blk off du) m3)/\Hid (shiftUp lt b ju du=shiftUp lt b (kx+1) (swp dk kx (kx - 1))))
         case atStart=>exact⟨kx+1,_,(swp dk kx (kx - 1)),by go_num,Nat.le_refl _,by omega,Nat.le_refl _,hp,rfl,rfl⟩
         case round=>
          obtain⟨ju,m3,du,rfl,ix,hf,hz,kz,rfl,HU⟩:=hrel;by_cases hjb':ju<b
          .have ih:(ju:Int)<(b:Int):=by omega
           cases hlv3:lt du[ju]! du[ju - 1]! with
           |true=>
            have kj:=HL.out du ju true kz (by omega) (by omega) hlv3;have kp:=HS.out du ju kz (by omega) (by omega)
            go_wp2_with (go_at_fn g;refine(kj _).mono ?_;rintro e w' ⟨rfl,q,rfl⟩)
            go_roundg (b - (ju+1))
            case measure=>omega
            case rel=>exact⟨ju+1,_,swp du ju (ju - 1),by go_num,by omega,by omega,Nat.le_refl _,by rw[size_swp];exact kz,rfl,(show Hid _ from by rw[<-HU.out,shiftUp_go lt b ju du hjb' hlv3];exact rfl)⟩
           |false=>
            have kj:=HL.out du ju false kz (by omega) (by omega) hlv3
            go_wp2_with (go_at_fn g;refine(kj _).mono ?_;rintro e w' ⟨rfl,q,rfl⟩)
            go_roundg (5 - (s+1))
            case measure=>omega
            case rel=>exact⟨kx,s+1,_,du,rfl,by go_num,by omega,Nat.le_refl _,by omega,by omega,kz,rfl,(show Hid _ from by rw[<-HO.out,pi_go lt a b s i kx dk hs HK.out (by omega) h50,HD.out,show fixUp lt b kx (swp dk kx (kx - 1))=du from by unfold fixUp;rw[if_pos hbk,<-HU.out,shiftUp_stop lt b ju du (Or.inr hlv3)]];exact rfl)⟩
          .have ih:¬ (ju:Int)<(b:Int):=by omega
           go_wp2
           go_roundg (5 - (s+1))
           case measure=>omega
           case rel=>exact⟨kx,s+1,_,du,rfl,by go_num,by omega,Nat.le_refl _,by omega,by omega,kz,rfl,(show Hid _ from by rw[<-HO.out,pi_go lt a b s i kx dk hs HK.out (by omega) h50,HD.out,show fixUp lt b kx (swp dk kx (kx - 1))=du from by unfold fixUp;rw[if_pos hbk,<-HU.out,shiftUp_stop lt b ju du (Or.inl hjb')]];exact rfl)⟩
        ·
         exfalso;omega
    ·
     obtain rfl:kx=b:=by omega
     have jb:¬ (kx:Int)<(kx:Int):=by omega
     go_wp2
     have hv:Sort.partialInsertionSort lt d a kx=(dk,true):=by
      unfold Sort.partialInsertionSort;rw[<-HO.out,pi_true lt a kx s i dk hs (by rw[<-HSc.out,scanSorted_stop lt dk kx kx (Or.inl (by omega))])]
     rw[hv]
     go_ret
     exact⟨rfl,_,rfl⟩
  ·
   obtain rfl:s=5:=by omega
   go_wp2
   have hv:Sort.partialInsertionSort lt d a b=(dk,false):=by
    unfold Sort.partialInsertionSort;rw[<-HO.out,pi_end]
   rw[hv]
   go_ret
   exact⟨rfl,n,rfl⟩
theorem Any.partialInsertionSort_func_cells_w(L:LaysGg.n31 P ρ)(enc:α->List Value)(k:Nat)(hk:∀x,(enc x).length=k)(lt:α->α->Bool)(g:Nat)(lb:Array Value)(sf:Nat)(sb:Array Value)(blk off a b:Nat)(d:Array α)(w:World)
  (eg:∀args w,(callFunc g args).run P w=.ok (.enter g args) w) (hless:LessReadsK P g lb enc k lt blk off d.size w) (hswap:SwapSwapsK P sf sb enc k blk off d.size)
  (hH:HoldsK enc k w blk off d) (hblk:blk<w.heap.size) (hab:a<b) (hb:b<=d.size) (hsz:d.size<4611686018427387904) :
  Calls P (ρ.f 31) #[.agg #[.func (.func g) #[] lb,.func (.func sf) #[] sb],.int .i64 a,.int .i64 b] w λe w'=>e=.returned (.bool (Sort.partialInsertionSort lt d a b).2)/\∃n os,w'=sortWorldK enc k w blk off n (Sort.partialInsertionSort lt d a b).1 os:=(Any.partialInsertionSort_func_cells L enc k hk lt g lb sf sb blk off a b d w eg hless hswap hH hblk hab hb hsz).mono λ_ _ ⟨he,n,hw⟩=>⟨he,n.n,_,hw.trans (jh enc k w _ blk off n _ hblk)⟩
end
section
open Go Go.Shelf Go.RowKit Go.Lib Go.Sort
variable {P:Program}{ρ:Ren}{α:Type} [Inhabited α]
set_option maxHeartbeats 4000000 in
set_option maxRecDepth 1000000 in
theorem Any.siftDown_func_cells(L:LaysGg.n34 P ρ)(enc:α->List Value)(k:Nat)(hk:∀x,(enc x).length=k)(lt:α->α->Bool)(g:Nat)(lb:Array Value)(sf:Nat)(sb:Array Value)(blk off lo hi first:Nat)(d:Array α)(w:World)
  (eg:∀args w,(callFunc g args).run P w=.ok (.enter g args) w) (hless:LessReadsK P g lb enc k lt blk off d.size w) (hswap:SwapSwapsK P sf sb enc k blk off d.size)
  (hH:HoldsK enc k w blk off d) (hblk:blk<w.heap.size) (hlo:lo<=hi) (hb:first+hi<=d.size) (hsz:d.size<4611686018427387904) :
  Calls P (ρ.f 34) #[.agg #[.func (.func g) #[] lb,.func (.func sf) #[] sb],.int .i64 lo,.int .i64 hi,.int .i64 first] w λe w'=>
   e=.returned (.tuple #[])/\∃n,w'=(later (putRowK enc k (w.alloc (.cells #[.func (.func g) #[] lb,.func (.func sf) #[] sb] (ρ.t 44))) blk off (siftDown lt hi first lo d)) n):=by
 have mixed:=L.mixed;have t0:=L.t0;have a0:=L.a0;have z0:=L.z0;have v0:=L.v0;have t3:=L.t3;have a3:=L.a3;have z3:=L.z3;have v3:=L.v3;have t4:=L.t4;have a4:=L.a4;have z4:=L.z4;have v4:=L.v4;have hz:=L.t26;have hh:=L.a26;have z26:=L.z26;have hf:=L.v26;have ha:=L.t37;have hj:=L.a37;have io:=L.z37;have hg:=L.v37;have hc:=L.t44;have hl:=L.a44;have it:=L.z44;have ih:=L.v44;have he:=run_underlying L.t44;have ho:HoldsK enc k (w.alloc (.cells #[.func (.func g) #[] lb,.func (.func sf) #[] sb] (ρ.t 44))) blk off d:=by rw[alloc_eq_grow];exact holdsK_grow enc k w _ blk off d hblk hH
 have hp:blk<(w.alloc (.cells #[.func (.func g) #[] lb,.func (.func sf) #[] sb] (ρ.t 44))).heap.size:=by rw[alloc_eq_grow,size_grow];omega
 go_enter L.f34,BodyGg.n34_ntmps ρ
 go_wp2
 go_loopg [8] (hi - lo) (λkx s8 wr=>∃(root:Nat) (dk:Array α) (n:Ln),s8=.int .i64 root/\root<=hi/\hi - root<=kx/\dk.size=d.size/\wr=(later (putRowK enc k (w.alloc (.cells #[.func (.func g) #[] lb,.func (.func sf) #[] sb] (ρ.t 44))) blk off dk) n)/\Hid (siftDown lt hi first root dk=siftDown lt hi first lo d))
 case atStart=>exact⟨lo,d,0,rfl,hlo,Nat.le_refl _,rfl,GI ho,rfl⟩
 case round=>
  obtain⟨root,dk,n,rfl,hr,ht,hq,rfl,HE⟩:=hrel;have c0:∀m,(later (putRowK enc k (w.alloc (.cells #[.func (.func g) #[] lb,.func (.func sf) #[] sb] (ρ.t 44))) blk off dk) m).cell? ⟨w.heap.size,0,none⟩=some (.func (.func g) #[] lb):=λm=>yg (by simp) hblk m;have c1:∀m,(later (putRowK enc k (w.alloc (.cells #[.func (.func g) #[] lb,.func (.func sf) #[] sb] (ρ.t 44))) blk off dk) m).cell? ⟨w.heap.size,1,none⟩=some (.func (.func sf) #[] sb):=λm=>yg (by simp) hblk m;have hw:∀(m:Ln) (i j:Nat),i<d.size->j<d.size->Calls P g (#[.int .i64 i,.int .i64 j]++lb) (later (putRowK enc k (w.alloc (.cells #[.func (.func g) #[] lb,.func (.func sf) #[] sb] (ρ.t 44))) blk off dk) m) λe w'=>e=.returned (.bool (lt dk[i]! dk[j]!))/\∃q,w'=(later (putRowK enc k (w.alloc (.cells #[.func (.func g) #[] lb,.func (.func sf) #[] sb] (ρ.t 44))) blk off dk) (m+q)):=λm i j hi' hj'=>QS hless (.cells #[.func (.func g) #[] lb,.func (.func sf) #[] sb] (ρ.t 44)) hblk hq m i j hi' hj';have hy:∀(m:Ln) (i j:Nat),i<d.size->j<d.size->(callFunc sf (#[.int .i64 i,.int .i64 j]++sb)).run P (later (putRowK enc k (w.alloc (.cells #[.func (.func g) #[] lb,.func (.func sf) #[] sb] (ρ.t 44))) blk off dk) m)=.ok (.value (.tuple #[])) (later (putRowK enc k (w.alloc (.cells #[.func (.func g) #[] lb,.func (.func sf) #[] sb] (ρ.t 44))) blk off (swp dk i j)) m):=λm i j hi' hj'=>FI hswap hk ho hp rfl hq m i j hi' hj';have HL:Aside _:=hw;have HS:Aside _:=hy;clear hw hy hless hswap hH ho;by_cases h0:hi<=2*root+1
  ·
   have hm:(hi:Int)<=2*(root:Int)+1:=by omega
   go_wp2
   go_end0
   refine⟨rfl,n,?_⟩;rw[<-HE.out,sd_end lt dk h0]
  .have hm:¬ ((hi:Int)<=2*(root:Int)+1):=by omega
   by_cases h1:2*root+2<hi
   ·
    have hn:2*(root:Int)+1+1<(hi:Int):=by omega
    have hu:=HL.out n (first+(2*root+1)) (first+(2*root+2)) (by omega) (by omega);rw[show((first+(2*root+1):Nat):Int)=(first:Int)+(2*(root:Int)+1) by omega,show((first+(2*root+2):Nat):Int)=(first:Int)+(2*(root:Int)+1)+1 by omega]at hu;cases hL:lt dk[first+(2*root+1)]! dk[first+(2*root+2)]! with
    |true=>
     rw[hL]at hu;cases hG:lt dk[first+root]! dk[first+(2*root+2)]! with
     |true=>
      have hv:∀m,Calls P g (#[.int .i64 ((first:Int)+(root:Int)),.int .i64 ((first:Int)+(2*(root:Int)+1+1))]++lb) (later (putRowK enc k (w.alloc (.cells #[.func (.func g) #[] lb,.func (.func sf) #[] sb] (ρ.t 44))) blk off dk) m) λe w'=>e=.returned (.bool true)/\∃q,w'=(later (putRowK enc k (w.alloc (.cells #[.func (.func g) #[] lb,.func (.func sf) #[] sb] (ρ.t 44))) blk off dk) (m+q)):=λm=>by
       have:=HL.out m (first+root) (first+(2*root+2)) (by omega) (by omega);rw[hG,show((first+root:Nat):Int)=(first:Int)+(root:Int) by omega,show((first+(2*root+2):Nat):Int)=(first:Int)+(2*(root:Int)+1+1) by omega]at this;exact this
      have hs:∀m,(callFunc sf (#[.int .i64 ((first:Int)+(root:Int)),.int .i64 ((first:Int)+(2*(root:Int)+1+1))]++sb)).run P (later (putRowK enc k (w.alloc (.cells #[.func (.func g) #[] lb,.func (.func sf) #[] sb] (ρ.t 44))) blk off dk) m)=.ok (.value (.tuple #[])) (later (putRowK enc k (w.alloc (.cells #[.func (.func g) #[] lb,.func (.func sf) #[] sb] (ρ.t 44))) blk off (swp dk (first+root) (first+(2*root+2)))) m):=λm=>by
       have:=HS.out m (first+root) (first+(2*root+2)) (by omega) (by omega);rw[show((first+root:Nat):Int)=(first:Int)+(root:Int) by omega,show((first+(2*root+2):Nat):Int)=(first:Int)+(2*(root:Int)+1+1) by omega]at this;exact this
      clear HL HS
      go_wp2_with (first|(go_at_fn g;refine hu.mono ?_;rintro e w' ⟨rfl,q1,rfl⟩)|(go_at_fn g;refine(hv _).mono ?_;rintro e w' ⟨rfl,q2,rfl⟩))
      go_roundg (hi - (2*root+2))
      case measure=>omega
      case rel=>exact⟨2*root+2,swp dk (first+root) (first+(2*root+2)),_,by go_num,by omega,Nat.le_refl _,by rw[size_swp];exact hq,rfl,(show Hid _ from by rw[<-HE.out,sd_right_go lt dk h1 hL hG];exact rfl)⟩
     |false=>
      have hv:∀m,Calls P g (#[.int .i64 ((first:Int)+(root:Int)),.int .i64 ((first:Int)+(2*(root:Int)+1+1))]++lb) (later (putRowK enc k (w.alloc (.cells #[.func (.func g) #[] lb,.func (.func sf) #[] sb] (ρ.t 44))) blk off dk) m) λe w'=>e=.returned (.bool false)/\∃q,w'=(later (putRowK enc k (w.alloc (.cells #[.func (.func g) #[] lb,.func (.func sf) #[] sb] (ρ.t 44))) blk off dk) (m+q)):=λm=>by
       have:=HL.out m (first+root) (first+(2*root+2)) (by omega) (by omega);rw[hG,show((first+root:Nat):Int)=(first:Int)+(root:Int) by omega,show((first+(2*root+2):Nat):Int)=(first:Int)+(2*(root:Int)+1+1) by omega]at this;exact this
      clear HL HS
      go_wp2_with (first|(go_at_fn g;refine hu.mono ?_;rintro e w' ⟨rfl,q1,rfl⟩)|(go_at_fn g;refine(hv _).mono ?_;rintro e w' ⟨rfl,q2,rfl⟩))
      (try simp only[Exit.inBlock,Exit.then]);refine bodyPost_ret (results_none rfl _ _ _) rfl ?_
      refine⟨rfl,?_⟩;rw[<-HE.out,sd_right_stop lt dk h1 hL hG];exact⟨_,rfl⟩
    |false=>
     rw[hL]at hu;cases hG:lt dk[first+root]! dk[first+(2*root+1)]! with
     |true=>
      have hv:∀m,Calls P g (#[.int .i64 ((first:Int)+(root:Int)),.int .i64 ((first:Int)+(2*(root:Int)+1))]++lb) (later (putRowK enc k (w.alloc (.cells #[.func (.func g) #[] lb,.func (.func sf) #[] sb] (ρ.t 44))) blk off dk) m) λe w'=>e=.returned (.bool true)/\∃q,w'=(later (putRowK enc k (w.alloc (.cells #[.func (.func g) #[] lb,.func (.func sf) #[] sb] (ρ.t 44))) blk off dk) (m+q)):=λm=>by
       have:=HL.out m (first+root) (first+(2*root+1)) (by omega) (by omega);rw[hG,show((first+root:Nat):Int)=(first:Int)+(root:Int) by omega,show((first+(2*root+1):Nat):Int)=(first:Int)+(2*(root:Int)+1) by omega]at this;exact this
      have hs:∀m,(callFunc sf (#[.int .i64 ((first:Int)+(root:Int)),.int .i64 ((first:Int)+(2*(root:Int)+1))]++sb)).run P (later (putRowK enc k (w.alloc (.cells #[.func (.func g) #[] lb,.func (.func sf) #[] sb] (ρ.t 44))) blk off dk) m)=.ok (.value (.tuple #[])) (later (putRowK enc k (w.alloc (.cells #[.func (.func g) #[] lb,.func (.func sf) #[] sb] (ρ.t 44))) blk off (swp dk (first+root) (first+(2*root+1)))) m):=λm=>by
       have:=HS.out m (first+root) (first+(2*root+1)) (by omega) (by omega);rw[show((first+root:Nat):Int)=(first:Int)+(root:Int) by omega,show((first+(2*root+1):Nat):Int)=(first:Int)+(2*(root:Int)+1) by omega]at this;exact this
      clear HL HS
      go_wp2_with (first|(go_at_fn g;refine hu.mono ?_;rintro e w' ⟨rfl,q1,rfl⟩)|(go_at_fn g;refine(hv _).mono ?_;rintro e w' ⟨rfl,q2,rfl⟩))
      go_roundg (hi - (2*root+1))
      case measure=>omega
      case rel=>exact⟨2*root+1,swp dk (first+root) (first+(2*root+1)),_,by go_num,by omega,Nat.le_refl _,by rw[size_swp];exact hq,rfl,(show Hid _ from by rw[<-HE.out,sd_left_go lt dk (by omega) (λ_=>hL) hG];exact rfl)⟩
     |false=>
      have hv:∀m,Calls P g (#[.int .i64 ((first:Int)+(root:Int)),.int .i64 ((first:Int)+(2*(root:Int)+1))]++lb) (later (putRowK enc k (w.alloc (.cells #[.func (.func g) #[] lb,.func (.func sf) #[] sb] (ρ.t 44))) blk off dk) m) λe w'=>e=.returned (.bool false)/\∃q,w'=(later (putRowK enc k (w.alloc (.cells #[.func (.func g) #[] lb,.func (.func sf) #[] sb] (ρ.t 44))) blk off dk) (m+q)):=λm=>by
       have:=HL.out m (first+root) (first+(2*root+1)) (by omega) (by omega);rw[hG,show((first+root:Nat):Int)=(first:Int)+(root:Int) by omega,show((first+(2*root+1):Nat):Int)=(first:Int)+(2*(root:Int)+1) by omega]at this;exact this
      clear HL HS
      go_wp2_with (first|(go_at_fn g;refine hu.mono ?_;rintro e w' ⟨rfl,q1,rfl⟩)|(go_at_fn g;refine(hv _).mono ?_;rintro e w' ⟨rfl,q2,rfl⟩))
      (try simp only[Exit.inBlock,Exit.then]);refine bodyPost_ret (results_none rfl _ _ _) rfl ?_
      refine⟨rfl,?_⟩;rw[<-HE.out,sd_left_stop lt dk (by omega) (λ_=>hL) hG];exact⟨_,rfl⟩
   ·
    have hn:¬ (2*(root:Int)+1+1<(hi:Int)):=by omega
    cases hG:lt dk[first+root]! dk[first+(2*root+1)]! with
    |true=>
     have hv:∀m,Calls P g (#[.int .i64 ((first:Int)+(root:Int)),.int .i64 ((first:Int)+(2*(root:Int)+1))]++lb) (later (putRowK enc k (w.alloc (.cells #[.func (.func g) #[] lb,.func (.func sf) #[] sb] (ρ.t 44))) blk off dk) m) λe w'=>e=.returned (.bool true)/\∃q,w'=(later (putRowK enc k (w.alloc (.cells #[.func (.func g) #[] lb,.func (.func sf) #[] sb] (ρ.t 44))) blk off dk) (m+q)):=λm=>by
      have:=HL.out m (first+root) (first+(2*root+1)) (by omega) (by omega);rw[hG,show((first+root:Nat):Int)=(first:Int)+(root:Int) by omega,show((first+(2*root+1):Nat):Int)=(first:Int)+(2*(root:Int)+1) by omega]at this;exact this
     have hs:∀m,(callFunc sf (#[.int .i64 ((first:Int)+(root:Int)),.int .i64 ((first:Int)+(2*(root:Int)+1))]++sb)).run P (later (putRowK enc k (w.alloc (.cells #[.func (.func g) #[] lb,.func (.func sf) #[] sb] (ρ.t 44))) blk off dk) m)=.ok (.value (.tuple #[])) (later (putRowK enc k (w.alloc (.cells #[.func (.func g) #[] lb,.func (.func sf) #[] sb] (ρ.t 44))) blk off (swp dk (first+root) (first+(2*root+1)))) m):=λm=>by
      have:=HS.out m (first+root) (first+(2*root+1)) (by omega) (by omega);rw[show((first+root:Nat):Int)=(first:Int)+(root:Int) by omega,show((first+(2*root+1):Nat):Int)=(first:Int)+(2*(root:Int)+1) by omega]at this;exact this
     clear HL HS
     go_wp2_with (go_at_fn g;refine(hv _).mono ?_;rintro e w' ⟨rfl,q2,rfl⟩)
     go_roundg (hi - (2*root+1))
     case measure=>omega
     case rel=>exact⟨2*root+1,swp dk (first+root) (first+(2*root+1)),_,by go_num,by omega,Nat.le_refl _,by rw[size_swp];exact hq,rfl,(show Hid _ from by rw[<-HE.out,sd_left_go lt dk (by omega) (λh=>absurd h h1) hG];exact rfl)⟩
    |false=>
     have hv:∀m,Calls P g (#[.int .i64 ((first:Int)+(root:Int)),.int .i64 ((first:Int)+(2*(root:Int)+1))]++lb) (later (putRowK enc k (w.alloc (.cells #[.func (.func g) #[] lb,.func (.func sf) #[] sb] (ρ.t 44))) blk off dk) m) λe w'=>e=.returned (.bool false)/\∃q,w'=(later (putRowK enc k (w.alloc (.cells #[.func (.func g) #[] lb,.func (.func sf) #[] sb] (ρ.t 44))) blk off dk) (m+q)):=λm=>by
      have:=HL.out m (first+root) (first+(2*root+1)) (by omega) (by omega);rw[hG,show((first+root:Nat):Int)=(first:Int)+(root:Int) by omega,show((first+(2*root+1):Nat):Int)=(first:Int)+(2*(root:Int)+1) by omega]at this;exact this
     clear HL HS
     go_wp2_with (go_at_fn g;refine(hv _).mono ?_;rintro e w' ⟨rfl,q2,rfl⟩)
     (try simp only[Exit.inBlock,Exit.then]);refine bodyPost_ret (results_none rfl _ _ _) rfl ?_
     refine⟨rfl,?_⟩;rw[<-HE.out,sd_left_stop lt dk (by omega) (λh=>absurd h h1) hG];exact⟨_,rfl⟩
theorem Any.siftDown_func_cells_w(L:LaysGg.n34 P ρ)(enc:α->List Value)(k:Nat)(hk:∀x,(enc x).length=k)(lt:α->α->Bool)(g:Nat)(lb:Array Value)(sf:Nat)(sb:Array Value)(blk off lo hi first:Nat)(d:Array α)(w:World)
  (eg:∀args w,(callFunc g args).run P w=.ok (.enter g args) w) (hless:LessReadsK P g lb enc k lt blk off d.size w) (hswap:SwapSwapsK P sf sb enc k blk off d.size)
  (hH:HoldsK enc k w blk off d) (hblk:blk<w.heap.size) (hlo:lo<=hi) (hb:first+hi<=d.size) (hsz:d.size<4611686018427387904) :
  Calls P (ρ.f 34) #[.agg #[.func (.func g) #[] lb,.func (.func sf) #[] sb],.int .i64 lo,.int .i64 hi,.int .i64 first] w λe w'=>e=.returned (.tuple #[])/\∃n os,w'=sortWorldK enc k w blk off n (siftDown lt hi first lo d) os:=(Any.siftDown_func_cells L enc k hk lt g lb sf sb blk off lo hi first d w eg hless hswap hH hblk hlo hb hsz).mono λ_ _ ⟨he,n,hw⟩=>⟨he,n.n,_,hw.trans (jh enc k w _ blk off n _ hblk)⟩
set_option maxHeartbeats 4000000 in
set_option maxRecDepth 1000000 in
theorem Any.heapSort_func_cells_w(L:LaysGg.n27 P ρ)(enc:α->List Value)(k:Nat)(hk:∀x,(enc x).length=k)(lt:α->α->Bool)(g:Nat)(lb:Array Value)(sf:Nat)(sb:Array Value)(blk off a b:Nat)(d:Array α)(w:World)
  (eg:∀args w,(callFunc g args).run P w=.ok (.enter g args) w) (hless:LessReadsK P g lb enc k lt blk off d.size w) (hswap:SwapSwapsK P sf sb enc k blk off d.size)
  (hH:HoldsK enc k w blk off d) (hblk:blk<w.heap.size) (hab:a<=b) (hb:b<=d.size) (hsz:d.size<4611686018427387904) :
  Calls P (ρ.f 27) #[.agg #[.func (.func g) #[] lb,.func (.func sf) #[] sb],.int .i64 a,.int .i64 b] w λe w'=>e=.returned (.tuple #[])/\∃n os,w'=sortWorldK enc k w blk off n (heapSort lt d a b) os:=by
 have mixed:=L.mixed;have t0:=L.t0;have a0:=L.a0;have z0:=L.z0;have v0:=L.v0;have t3:=L.t3;have a3:=L.a3;have z3:=L.z3;have v3:=L.v3;have t4:=L.t4;have a4:=L.a4;have z4:=L.z4;have v4:=L.v4;have ha:=L.t26;have hh:=L.a26;have z26:=L.z26;have hg:=L.v26;have hc:=L.t37;have hi:=L.a37;have it:=L.z37;have ih:=L.v37;have he:=L.t44;have hj:=L.a44;have ix:=L.z44;have io:=L.v44;have hf:=run_underlying L.t44;have hn:∀args w,(callFunc (ρ.f 34) args).run P w=.ok (.enter (ρ.f 34) args) w:=enters_of L.f34 (by kernel_rfl) rfl;have ho:((b - a:Nat):Int)=(b:Int) - (a:Int):=by omega
 have hv:w.heap.size≠blk:=by omega
 go_enter L.f27,BodyGg.n27_ntmps ρ
 go_wp2
 go_loopg [9] ((b - a - 1) / 2+1) (λkx s9 wr=>s9=.int .i64 ((kx:Int) - 1)/\kx<=(b - a - 1) / 2+1/\∃(dk:Array α),dk.size=d.size/\Aside (SWK enc k w blk off dk wr)/\wr.cell? ⟨w.heap.size,0,none⟩=some (.func (.func g) #[] lb)/\wr.cell? ⟨w.heap.size,1,none⟩=some (.func (.func sf) #[] sb)/\w.heap.size<wr.heap.size /\
  Hid (heapBuild lt (b - a) a kx dk=heapBuild lt (b - a) a ((b - a - 1) / 2+1) d))
 case atStart=>exact⟨by rw[half_start hab],Nat.le_refl _,d,rfl,(SWK.start hH).alloc _,by simp,by simp,by simp,rfl⟩
 case round=>
  obtain⟨rfl,hu,dk,ht,S,c0,c1,hy,HE⟩:=hrel;cases gk with
  |zero=>
   have hB:dk=heapBuild lt (b - a) a ((b - a - 1) / 2+1) d:=HE.out;clear HE hu
   go_wp2
   go_loopg [10] (b - a) (λkx s10 wr2=>s10=.int .i64 ((kx:Int) - 1)/\kx<=b - a/\∃(dj:Array α),dj.size=d.size/\Aside (SWK enc k w blk off dj wr2)/\wr2.cell? ⟨w.heap.size,0,none⟩=some (.func (.func g) #[] lb)/\wr2.cell? ⟨w.heap.size,1,none⟩=some (.func (.func sf) #[] sb)/\w.heap.size<wr2.heap.size/\Hid (heapPop lt a kx dj=heapPop lt a (b - a) dk))
   case atStart=>exact⟨by rw[ho],Nat.le_refl _,dk,ht,S,c0,c1,hy,rfl⟩
   case round=>
    clear S c0 c1 hy;obtain⟨rfl,hu,dj,hr,S,c0,c1,hy,HE2⟩:=hrel;cases gk with
    |zero=>
     go_wp2
     go_end0
     have e:dj=heapSort lt d a b:=by rw[heapSort,<-hB,<-HE2.out];rfl
     rw[<-e];exact⟨rfl,S.out⟩
    |succ kx=>
     have hs:=hswap wr dj (S.out.holds hblk hH hr) hr a (a+kx) (by omega) (by omega);rw[show((a+kx:Nat):Int)=(a:Int)+(kx:Int) by omega]at hs;have S2:=S.out.swap hk hblk a (a+kx) (by omega) (by omega);have hq:(swp dj a (a+kx)).size=d.size:=by rw[size_swp];exact hr
     have hl:((wr.setCells blk (off+a*k) (enc dj[a+kx]!)).setCells blk (off+(a+kx)*k) (enc dj[a]!)).cell? ⟨w.heap.size,0,none⟩=some (.func (.func g) #[] lb):=by
      rw[World.cell?_setCells_out blk _ _ _ _ (λe _=>absurd e hv),World.cell?_setCells_out blk _ _ _ _ (λe _=>absurd e hv)];exact c0
     have hm:((wr.setCells blk (off+a*k) (enc dj[a+kx]!)).setCells blk (off+(a+kx)*k) (enc dj[a]!)).cell? ⟨w.heap.size,1,none⟩=some (.func (.func sf) #[] sb):=by
      rw[World.cell?_setCells_out blk _ _ _ _ (λe _=>absurd e hv),World.cell?_setCells_out blk _ _ _ _ (λe _=>absurd e hv)];exact c1
     have hz:w.heap.size<((wr.setCells blk (off+a*k) (enc dj[a+kx]!)).setCells blk (off+(a+kx)*k) (enc dj[a]!)).heap.size:=by simpa using hy
     generalize (wr.setCells blk (off+a*k) (enc dj[a+kx]!)).setCells blk (off+(a+kx)*k) (enc dj[a]!)=w2 at hs S2 hl hm hz;have hp:=Any.siftDown_func_cells_w (P:=P) (ρ:=ρ) { L with } enc k hk lt g lb sf sb blk off 0 kx a (swp dj a (a+kx)) w2 eg (by rw[hq];exact DI S2 hless hblk hq) (by rw[hq];exact hswap) (S2.holds hblk hH hq) (S2.lt hblk) (Nat.zero_le _) (by rw[hq];omega) (by rw[hq];exact hsz);have S2':Aside (SWK enc k w blk off (swp dj a (a+kx)) w2):=S2;clear S2 S hless hswap hH
     go_wp2_with (go_at_fn (ρ.f 34);refine hp.mono ?_;rintro e w1 ⟨rfl,m,os,rfl⟩)
     go_roundg kx
     case measure=>omega
     case rel=>
      have hw:(siftDown lt kx a 0 (swp dj a (a+kx))).size=(swp dj a (a+kx)).size:=size_siftDown lt _ _ _ _ _ (Nat.le_refl _)
      exact⟨by simp,by omega,siftDown lt kx a 0 (swp dj a (a+kx)),by rw[hw,hq],S2'.out.on hblk m _ os hw,
       by rw[cell?_sortWorldK_other enc k w2 blk off m _ os _ hv hz];exact hl,by rw[cell?_sortWorldK_other enc k w2 blk off m _ os _ hv hz];exact hm,
       Nat.lt_of_lt_of_le hz (SWK.le (⟨m,os,rfl⟩ : SWK enc k w2 blk off _ _)),HE2⟩
  |succ kx=>
   have hp:=Any.siftDown_func_cells_w (P:=P) (ρ:=ρ) { L with } enc k hk lt g lb sf sb blk off kx (b - a) a dk wr eg (by rw[ht];exact DI S.out hless hblk ht) (by rw[ht];exact hswap) (S.out.holds hblk hH ht) (S.out.lt hblk) (by omega) (by omega) (by omega);rw[ho]at hp;clear hless hswap hH
   go_wp2_with (go_at_fn (ρ.f 34);refine hp.mono ?_;rintro e w1 ⟨rfl,m,os,rfl⟩)
   go_roundg kx
   case measure=>omega
   case rel=>
    have hw:(siftDown lt (b - a) a kx dk).size=dk.size:=size_siftDown lt _ _ _ _ _ (Nat.le_refl _)
    exact⟨by simp,by omega,siftDown lt (b - a) a kx dk,by rw[hw,ht],S.out.on hblk m _ os hw,
     by rw[cell?_sortWorldK_other enc k wr blk off m _ os _ hv hy];exact c0,by rw[cell?_sortWorldK_other enc k wr blk off m _ os _ hv hy];exact c1,
     Nat.lt_of_lt_of_le hy (SWK.le (⟨m,os,rfl⟩ : SWK enc k wr blk off _ _)),HE⟩
end
section
open Go Go.Shelf Go.RowKit Go.Lib Go.Sort
variable {P:Program}{ρ:Ren}{α:Type} [Inhabited α]
set_option maxHeartbeats 12800000 in
set_option maxRecDepth 1000000 in
theorem Any.pdqsort_func_cells_all(L:LaysGg.n14 P ρ)(enc:α->List Value)(k:Nat)(hk:∀x,(enc x).length=k)(lt:α->α->Bool)(hO:SWO lt)(g:Nat)(lb:Array Value)(sf:Nat)(sb:Array Value)(eg:∀args w,(callFunc g args).run P w=.ok (.enter g args) w) :
  ∀(N blk off a b limit:Nat) (d:Array α) (w:World),b - a<N->LessReadsK P g lb enc k lt blk off d.size w->SwapSwapsK P sf sb enc k blk off d.size->HoldsK enc k w blk off d->blk<w.heap.size->a<=b->b<=d.size->d.size<4611686018427387904->limit<4611686018427387904->Below lt a b d ->
  Calls P (ρ.f 14) #[.agg #[.func (.func g) #[] lb,.func (.func sf) #[] sb],.int .i64 a,.int .i64 b,.int .i64 limit] w λe w'=>e=.returned (.tuple #[])/\AtK enc k w blk off (pdq lt d a b limit true true) w':=by
 have mixed:=L.mixed;have t0:=L.t0;have a0:=L.a0;have z0:=L.z0;have v0:=L.v0;have t3:=L.t3;have a3:=L.a3;have z3:=L.z3;have v3:=L.v3;have t4:=L.t4;have a4:=L.a4;have z4:=L.z4;have v4:=L.v4;have t5:=L.t5;have a5:=L.a5;have z5:=L.z5;have v5:=L.v5;have t9:=L.t9;have a9:=L.a9;have z9:=L.z9;have v9:=L.v9;have vv:=L.t26;have hi:=L.a26;have z26:=L.z26;have zd:=L.v26;have vy:=L.t37;have hj:=L.a37;have ch:=L.z37;have an:=L.v37;have vz:=L.t41;have hm:=L.a41;have ck:=L.z41;have av:=L.v41;have vc:=L.t44;have hn:=L.a44;have co:=L.z44;have aa:=L.v44;have vf:=L.t49;have ho:=L.a49;have cq:=L.z49;have ad:=L.v49;have wd:=L.t51;have hp:=L.a51;have cr:=L.z51;have af:=L.v51;have xs:=L.t53;have hq:=L.a53;have cu:=L.z53;have ag:=L.v53;have xx:=L.t54;have hr:=L.a54;have cb:=L.z54;have bi:=L.v54;have ys:=L.t58;have ht:=L.a58;have di:=L.z58;have bo:=L.v58;have yt:=L.t60;have hu:=L.a60;have dj:=L.z60;have bp:=L.v60;have yy:=L.t64;have hv:=L.a64;have dn:=L.z64;have bs:=L.v64;have yd:=L.t66;have hw:=L.a66;have dr:=L.z66;have bu:=L.v66;have zz:=L.t67;have hy:=L.a67;have ds:=L.z67;have be:=L.v67;have zb:=run_underlying L.t44;have hz:∀args w,(callFunc (ρ.f 26) args).run P w=.ok (.enter (ρ.f 26) args) w:=enters_of L.f26 (by kernel_rfl) rfl;have ha:∀args w,(callFunc (ρ.f 27) args).run P w=.ok (.enter (ρ.f 27) args) w:=enters_of L.f27 (by kernel_rfl) rfl;have he:∀args w,(callFunc (ρ.f 28) args).run P w=.ok (.enter (ρ.f 28) args) w:=enters_of L.f28 (by kernel_rfl) rfl;have hf:∀args w,(callFunc (ρ.f 29) args).run P w=.ok (.enter (ρ.f 29) args) w:=enters_of L.f29 (by kernel_rfl) rfl;have hg:∀args w,(callFunc (ρ.f 30) args).run P w=.ok (.enter (ρ.f 30) args) w:=enters_of L.f30 (by kernel_rfl) rfl;have io:∀args w,(callFunc (ρ.f 31) args).run P w=.ok (.enter (ρ.f 31) args) w:=enters_of L.f31 (by kernel_rfl) rfl;have it:∀args w,(callFunc (ρ.f 32) args).run P w=.ok (.enter (ρ.f 32) args) w:=enters_of L.f32 (by kernel_rfl) rfl;have ix:∀args w,(callFunc (ρ.f 33) args).run P w=.ok (.enter (ρ.f 33) args) w:=enters_of L.f33 (by kernel_rfl) rfl;have e14:∀args w,(callFunc (ρ.f 14) args).run P w=.ok (.enter (ρ.f 14) args) w:=enters_of L.f14 (by kernel_rfl) rfl;intro N
 induction N with
 |zero=>intro _ _ _ _ _ _ _ h;exact absurd h (Nat.not_lt_zero _)
 |succ N ih=>
  intro blk off a b limit d w hN hL hS hH ps ob hb hsz tp kb;have tr:w.heap.size≠blk:=by omega
  have LR:∀ {D:Array α}{X:World},AtK enc k w blk off D X->D.size=d.size->LessReadsK P g lb enc k lt blk off D.size X:=λ{D X} hA hs=>by rw[hs];exact DI (show SWK enc k w blk off D X from hA) hL ps hs
  have SR:∀ {D:Array α},D.size=d.size->SwapSwapsK P sf sb enc k blk off D.size:=λ{D} hs=>by rw[hs];exact hS
  go_enter L.f14,BodyGg.n14_ntmps ρ
  go_wp2
  go_loopg [1,2,3,8,9] (b - a) (λkx s1 s2 s3 s8 s9 wr=>∃(a' b' lim:Nat) (wb wp:Bool) (dk:Array α),s1=.int .i64 a'/\s2=.int .i64 b'/\s3=.int .i64 lim/\s8=.bool wb/\s9=.bool wp /\
   a'<=b'/\b'<=d.size/\b' - a'<=kx/\kx<=b - a/\lim<=limit/\dk.size=d.size/\Below lt a' b' dk/\AtK enc k w blk off dk wr/\BxK w.heap.size (.func (.func g) #[] lb) (.func (.func sf) #[] sb) wr/\pdq lt dk a' b' lim wb wp=pdq lt d a b limit true true)
  case atStart=>exact⟨a,b,limit,true,true,d,rfl,rfl,rfl,rfl,rfl,ob,hb,Nat.le_refl _,Nat.le_refl _,Nat.le_refl _,rfl,kb,(SWK.start hH).alloc _,⟨by simp,by simp,by simp⟩,rfl⟩
  case round=>
   obtain⟨a',b',lim,wb,wp,dk,rfl,rfl,rfl,rfl,rfl,pn,pp,sa,sx,tm,so,kz,km,kc,sp⟩:=hrel;obtain⟨ow,pt⟩:=km.holds hH so ps;obtain⟨x0,x1,_⟩:=kc;have A:Aside (pdq lt dk a' b' lim wb wp=pdq lt d a b limit true true):=sp;clear sp;by_cases h12:b' - a'<=12
   ·
    have ki:(b':Int) - (a':Int)<=12:=by omega
    have hc:=Any.insertionSort_func_cells_w (P:=P) (ρ:=ρ) { L with } enc k hk lt g lb sf sb blk off a' b' dk wr eg (LR km so) (SR so) ow pt pn (by omega) (by omega)
    go_wp2_with (go_at_fn (ρ.f 26);refine hc.mono ?_;rintro e w1 ⟨rfl,td⟩)
    (try simp only[Exit.inBlock,Exit.then]);refine bodyPost_ret (results_none rfl _ _ _) rfl ?_
    refine⟨rfl,?_⟩;rw[<-A.out,pdq_small h12];exact km.stepG ps (insertionSort_holds hO dk a' b' pn (by omega)).1.1 td
   .have ki:¬ ((b':Int) - (a':Int)<=12):=by omega
    by_cases hl0:lim=0
    ·
     subst hl0;have hc:=Any.heapSort_func_cells_w (P:=P) (ρ:=ρ) { L with } enc k hk lt g lb sf sb blk off a' b' dk wr eg (LR km so) (SR so) ow pt pn (by omega) (by omega)
     go_wp2_with (go_at_fn (ρ.f 27);refine hc.mono ?_;rintro e w1 ⟨rfl,td⟩)
     (try simp only[Exit.inBlock,Exit.then]);refine bodyPost_ret (results_none rfl _ _ _) rfl ?_
     refine⟨rfl,?_⟩;rw[<-A.out,pdq_heap h12 rfl];exact km.stepG ps (heapSort_holds hO dk a' b' pn (by omega)).1.1 td
    .have ti:¬ ((lim:Int)=0):=by omega
     obtain⟨s1,B1,pf,s2,B2,ty,s3,B3⟩:=rd_facts (lt:=lt) (limit:=lim) (wb:=wb) (wp:=wp) hO partialInsertionSort_holds reverseRange_holds (show a'<b' by omega) (show b'<=dk.size by omega) kz
     go_upto_if 35 with fail
     go_cut [3] from 19 (λs3 wc=>s3=.int .i64 (Go.Sort.rd lt dk a' b' lim wb wp).lim/\AtK enc k w blk off (Go.Sort.rd lt dk a' b' lim wb wp).d1 wc/\BxK w.heap.size (.func (.func g) #[] lb) (.func (.func sf) #[] sb) wc)
     case first=>
      cases wb
      .have hc:=Any.breakPatterns_func_cells_w (P:=P) (ρ:=ρ) { L with } enc k hk (.func g) #[] lb sf sb blk off a' b' dk wr (SR so) ow pt pn (by omega) (by omega)
       go_wp2_with (go_at_fn (ρ.f 28);refine hc.mono ?_;rintro e w1 ⟨rfl,td⟩)
       go_meet
       case rel=>
        refine⟨?_,km.stepG ps s1 td,BxK.stepG ⟨x0,x1,by assumption⟩ enc k tr td⟩;show Value.int .i64 ((lim:Int) - 1)=Value.int .i64 ((lim - 1:Nat):Int)
        congr 1
        omega
      .go_wp2_with fail
       go_meet
       case rel=>exact⟨rfl,km,⟨x0,x1,by assumption⟩⟩
     case rest=>
      obtain⟨rfl,kn,ke⟩:=hcut;clear x0 x1;obtain⟨nl,pv⟩:=kn.holds hH (s1.trans so) ps;obtain⟨y0,y1,_⟩:=ke
      have qa:Calls P (ρ.f 29) #[.agg #[.func (.func g) #[] lb,.func (.func sf) #[] sb],.int .i64 a',.int .i64 b'] wc λe w'=>e=.returned (.tuple #[.int .i64 (Go.Sort.rd lt dk a' b' lim wb wp).c.1,.int .i64 (hintCode (Go.Sort.rd lt dk a' b' lim wb wp).c.2)])/\∃n os,w'=grow (Sort.ahead wc n) os:=Any.choosePivot_func_cells (P:=P) (ρ:=ρ) { L with } enc k hk lt g lb (.func sf) #[] sb blk off a' b' wc (Go.Sort.rd lt dk a' b' lim wb wp).d1 eg (LR kn (s1.trans so)) nl (by omega) (by omega) (by omega)
      go_upto_if 50 with(go_at_fn (ρ.f 29);refine qa.mono ?_;rintro e w2 ⟨rfl,us⟩)
      have kp:AtK enc k w blk off (Go.Sort.rd lt dk a' b' lim wb wp).d1 w2:=kn.same hH (s1.trans so) ps us;have li:BxK w.heap.size (.func (.func g) #[] lb) (.func (.func sf) #[] sb) w2:=BxK.same ⟨y0,y1,by assumption⟩ us;clear y0 y1;obtain⟨nt,pw⟩:=kp.holds hH (s1.trans so) ps;obtain⟨z0,z1,_⟩:=li
      go_cut [11,12] from 19 (λs11 s12 wc=>s11=.int .i64 (Go.Sort.rd lt dk a' b' lim wb wp).pivot/\s12=.int .i64 (hintCode (Go.Sort.rd lt dk a' b' lim wb wp).hint)/\AtK enc k w blk off (Go.Sort.rd lt dk a' b' lim wb wp).d2 wc/\BxK w.heap.size (.func (.func g) #[] lb) (.func (.func sf) #[] sb) wc)
      case first=>
       by_cases hh:(Go.Sort.rd lt dk a' b' lim wb wp).c.2=.decreasing
       .have sl:hintCode (Go.Sort.rd lt dk a' b' lim wb wp).c.2=2:=by rw[hh];rfl
        obtain⟨e2,jb,ie⟩:=rd_dec hh;have qb:=Any.reverseRange_func_cells_w (P:=P) (ρ:=ρ) { L with } enc k hk (.func g) #[] lb sf sb blk off a' b' (Go.Sort.rd lt dk a' b' lim wb wp).d1 w2 (SR (s1.trans so)) nt pw pn (by omega) (by omega)
        go_wp2_with (go_at_fn (ρ.f 30);refine qb.mono ?_;rintro e w3 ⟨rfl,uu⟩)
        go_meet
        case rel=>
         refine⟨?_,by rw[ie];rfl,by rw[e2];exact kp.stepG ps (by rw[<-e2,s2,s1]) uu,BxK.stepG ⟨z0,z1,by assumption⟩ enc k tr uu⟩;rw[jb]
         congr 1
         omega
       .have sl:¬ (hintCode (Go.Sort.rd lt dk a' b' lim wb wp).c.2=2):=λh=>hh (hintCode_two h);obtain⟨e2,jb,ie⟩:=rd_not hh
        go_wp2_with fail
        go_meet
        case rel=>exact⟨by rw[jb],by rw[ie],by rw[e2];exact kp,⟨z0,z1,by assumption⟩⟩
      case rest=>
       obtain⟨rfl,rfl,kq,lo⟩:=hcut;clear z0 z1;obtain⟨oj,px⟩:=kq.holds hH (s2.trans so) ps;obtain⟨v0,v1,_⟩:=lo
       go_upto_region 16 with fail
       go_cut [12,68] from 19 (λs12 s68 wx=>s12=.int .i64 (hintCode (Go.Sort.rd lt dk a' b' lim wb wp).hint)/\s68=.bool (wb&&wp&&decide ((Go.Sort.rd lt dk a' b' lim wb wp).hint=.increasing))/\wx=wc)
       case first=>
        cases wb<;>cases wp<;>cases hh3:(Go.Sort.rd lt dk a' b' lim _ _).hint <;>
         (have sn:=congrArg hintCode hh3
          simp only[hintCode]at sn
          go_wp2_with fail
          go_meet
          exact⟨by simp[hh3,hintCode],by simp[hh3,hintCode],rfl⟩)
       case rest=>
        obtain⟨rfl,rfl,rfl⟩:=hcut
        go_upto_if 68 with fail
        go_cut [] from 19 (λwx=>(Go.Sort.rd lt dk a' b' lim wb wp).pi.2=false/\AtK enc k w blk off (Go.Sort.rd lt dk a' b' lim wb wp).pi.1 wx/\BxK w.heap.size (.func (.func g) #[] lb) (.func (.func sf) #[] sb) wx)
        case first=>
         cases h68:(wb&&wp&&decide ((Go.Sort.rd lt dk a' b' lim wb wp).hint=.increasing))
         .have ju:=rd_pi_no h68
          go_wp2_with fail
          go_meet
          case rel=>exact⟨by rw[ju],by rw[ju];exact kq,⟨v0,v1,by assumption⟩⟩
         .have ju:=rd_pi_yes h68;have rc:=Any.partialInsertionSort_func_cells_w (P:=P) (ρ:=ρ) { L with } enc k hk lt g lb sf sb blk off a' b' (Go.Sort.rd lt dk a' b' lim wb wp).d2 wc eg (LR kq (s2.trans so)) (SR (s2.trans so)) oj px (by omega) (by omega) (by omega);rw[<-ju]at rc
          go_wp2_with (go_at_fn (ρ.f 31);refine rc.mono ?_;rintro e w4 ⟨rfl,vi⟩)
          all_goals first
           |(have ts:(Go.Sort.rd lt dk a' b' lim wb wp).pi.2=false:=by rw[ju];assumption
             go_meet
             exact⟨ts,kq.stepG ps (by rw[s3,s2]) vi,BxK.stepG ⟨v0,v1,by assumption⟩ enc k tr vi⟩)
           |(have ts:(Go.Sort.rd lt dk a' b' lim wb wp).pi.2=true:=by rw[ju];assumption
             (try simp only[Exit.inBlock,Exit.then]);refine bodyPost_ret (results_none rfl _ _ _) rfl ?_
             refine⟨rfl,?_⟩;rw[<-A.out,pdq_done h12 hl0 ts];exact kq.stepG ps (by rw[s3,s2]) vi)
        case rest=>
         obtain⟨ts,kr,lp⟩:=hcut;clear v0 v1;obtain⟨oo,py⟩:=kr.holds hH (s3.trans so) ps;obtain⟨t0,t1,_⟩:=lp
         go_upto_region 18 with fail
         go_cut [83] from 19 (λs83 wx=>s83=.bool (decide (a' > 0)&&!lt (Go.Sort.rd lt dk a' b' lim wb wp).pi.1[a' - 1]! (Go.Sort.rd lt dk a' b' lim wb wp).pi.1[(Go.Sort.rd lt dk a' b' lim wb wp).pivot]!)/\AtK enc k w blk off (Go.Sort.rd lt dk a' b' lim wb wp).pi.1 wx/\BxK w.heap.size (.func (.func g) #[] lb) (.func (.func sf) #[] sb) wx)
         case first=>
          rcases Nat.eq_zero_or_pos a' with ox|ox
          .have oy:decide ((a':Int) > 0)=false:=decide_eq_false (by omega)
           go_wp2_with fail
           go_meet
           case rel=>exact⟨by simp[ox],kr,⟨t0,t1,by assumption⟩⟩
          .have oy:(a':Int) > 0:=by omega
           have hl:=gh (show SWK enc k w blk off (Go.Sort.rd lt dk a' b' lim wb wp).pi.1 wc from kr) hL (s3.trans so) (a' - 1) (Go.Sort.rd lt dk a' b' lim wb wp).pivot (by omega) (by omega);rw[show((a' - 1:Nat):Int)=(a':Int) - 1 by omega]at hl
           cases hlv:lt (Go.Sort.rd lt dk a' b' lim wb wp).pi.1[a' - 1]! (Go.Sort.rd lt dk a' b' lim wb wp).pi.1[(Go.Sort.rd lt dk a' b' lim wb wp).pivot]! <;>
            (rw[hlv]at hl
             go_wp2_with (go_at_fn g;refine hl.mono ?_;rintro e w' ⟨rfl,nq,rfl⟩)
             go_meet
             exact⟨by simp[ox,hlv],kr.same hH (s3.trans so) ps ⟨nq.n,nq.os,rfl⟩,BxK.same ⟨t0,t1,by assumption⟩ ⟨nq.n,nq.os,rfl⟩⟩)
         case rest=>
          obtain⟨rfl,ks,lx⟩:=hcut;clear t0 t1;obtain⟨ot,pz⟩:=ks.holds hH (s3.trans so) ps;obtain⟨q0,q1,_⟩:=lx;cases h87:(decide (a' > 0)&&!lt (Go.Sort.rd lt dk a' b' lim wb wp).pi.1[a' - 1]! (Go.Sort.rd lt dk a' b' lim wb wp).pi.1[(Go.Sort.rd lt dk a' b' lim wb wp).pivot]!)
          ·
           obtain⟨mid,ap,d4,hx⟩ : ∃mid ap d4,partition lt (Go.Sort.rd lt dk a' b' lim wb wp).pi.1 a' b' (Go.Sort.rd lt dk a' b' lim wb wp).pivot=(mid,ap,d4):=⟨(partition lt (Go.Sort.rd lt dk a' b' lim wb wp).pi.1 a' b' (Go.Sort.rd lt dk a' b' lim wb wp).pivot).1,(partition lt (Go.Sort.rd lt dk a' b' lim wb wp).pi.1 a' b' (Go.Sort.rd lt dk a' b' lim wb wp).pivot).2.1,(partition lt (Go.Sort.rd lt dk a' b' lim wb wp).pi.1 a' b' (Go.Sort.rd lt dk a' b' lim wb wp).pivot).2.2,rfl⟩;obtain⟨r1,r2,r3,r4,r5,r6,r7⟩:=round_part hO (partition_holds lt) ty.1 ty.2 (show b'<=(Go.Sort.rd lt dk a' b' lim wb wp).pi.1.size by omega) B3 hx;have sh:=Any.partition_func_cells_w (P:=P) (ρ:=ρ) { L with } enc k hk lt g lb sf sb blk off a' b' (Go.Sort.rd lt dk a' b' lim wb wp).pivot (Go.Sort.rd lt dk a' b' lim wb wp).pi.1 wc eg (LR ks (s3.trans so)) (SR (s3.trans so)) ot pz ty.1 ty.2 (by omega) (by omega);rw[hx]at sh;have X:Aside (partition lt (Go.Sort.rd lt dk a' b' lim wb wp).pi.1 a' b' (Go.Sort.rd lt dk a' b' lim wb wp).pivot=(mid,ap,d4)):=hx;clear hx
           go_upto_if 109 with(go_at_fn (ρ.f 33);refine sh.mono ?_;rintro e w7 ⟨rfl,vj⟩)
           have hx:=X.out;have ta:d4.size=d.size:=r3.trans (s3.trans so);have ky:AtK enc k w blk off d4 w7:=ks.stepG ps r3 vj;have mp:BxK w.heap.size (.func (.func g) #[] lb) (.func (.func sf) #[] sb) w7:=BxK.stepG ⟨q0,q1,by assumption⟩ enc k tr vj;clear q0 q1;obtain⟨ou,pa⟩:=ky.holds hH ta ps;obtain⟨p0,p1,_⟩:=mp;by_cases h4:mid - a'<b' - mid
           .have kj:(mid:Int) - (a':Int)<(b':Int) - (mid:Int):=by omega
            have sr:=ih blk off a' mid (Go.Sort.rd lt dk a' b' lim wb wp).lim d4 w7 (by omega) (LR ky ta) (SR ta) ou pa (by omega) (by omega) (by omega) (Nat.lt_of_le_of_lt (Nat.le_trans rd_lim_le tm) tp) r4;obtain⟨pL,sL⟩:=pdq_sorts lt hO d4 a' mid (Go.Sort.rd lt dk a' b' lim wb wp).lim true true (by omega) (by omega) r4
            go_wp2_with (go_at_fn (ρ.f 14);refine sr.mono ?_;rintro e w8 ⟨rfl,vm⟩)
            go_roundg (b' - (mid+1))
            case measure=>omega
            case rel=>
             refine⟨mid+1,b',(Go.Sort.rd lt dk a' b' lim wb wp).lim,decide (mid - a' >= (b' - a') / 8),ap,pdq lt d4 a' mid (Go.Sort.rd lt dk a' b' lim wb wp).lim true true,by simp,rfl,rfl,?_,rfl,by omega,by omega,Nat.le_refl _,by omega,Nat.le_trans rd_lim_le tm,by rw[pL.1,ta],(r6 _ pL sL).1,ky.stepG ps pL.1 vm,BxK.stepG ⟨p0,p1,by assumption⟩ enc k tr vm,?_⟩
             .exact congrArg Value.bool (eighth (by omega) (by omega))
             .rw[<-A.out,pdq_left h12 hl0 ts h87 (by rw[hx];exact⟨r1,r2⟩) (by rw[hx];exact h4),hx]
           .have kj:¬ ((mid:Int) - (a':Int)<(b':Int) - (mid:Int)):=by omega
            have sr:=ih blk off (mid+1) b' (Go.Sort.rd lt dk a' b' lim wb wp).lim d4 w7 (by omega) (LR ky ta) (SR ta) ou pa (by omega) (by omega) (by omega) (Nat.lt_of_le_of_lt (Nat.le_trans rd_lim_le tm) tp) r5;rw[show((mid+1:Nat):Int)=(mid:Int)+1 by omega]at sr;obtain⟨pL,sL⟩:=pdq_sorts lt hO d4 (mid+1) b' (Go.Sort.rd lt dk a' b' lim wb wp).lim true true (by omega) (by omega) r5
            go_wp2_with (go_at_fn (ρ.f 14);refine sr.mono ?_;rintro e w8 ⟨rfl,vm⟩)
            go_roundg (mid - a')
            case measure=>omega
            case rel=>
             refine⟨a',mid,(Go.Sort.rd lt dk a' b' lim wb wp).lim,decide (b' - mid >= (b' - a') / 8),ap,pdq lt d4 (mid+1) b' (Go.Sort.rd lt dk a' b' lim wb wp).lim true true,rfl,rfl,rfl,?_,rfl,by omega,by omega,Nat.le_refl _,by omega,Nat.le_trans rd_lim_le tm,by rw[pL.1,ta],(r7 _ pL sL).1,ky.stepG ps pL.1 vm,BxK.stepG ⟨p0,p1,by assumption⟩ enc k tr vm,?_⟩
             .exact congrArg Value.bool (eighth (by omega) (by omega))
             .rw[<-A.out,pdq_right h12 hl0 ts h87 (by rw[hx];exact⟨r1,r2⟩) (by rw[hx];exact h4),hx]
          ·
           have kk:=h87;simp only[Bool.and_eq_true,decide_eq_true_eq,Bool.not_eq_true']at kk;obtain⟨mid,d4,hx⟩ : ∃mid d4,partitionEqual lt (Go.Sort.rd lt dk a' b' lim wb wp).pi.1 a' b' (Go.Sort.rd lt dk a' b' lim wb wp).pivot=(mid,d4):=⟨(partitionEqual lt (Go.Sort.rd lt dk a' b' lim wb wp).pi.1 a' b' (Go.Sort.rd lt dk a' b' lim wb wp).pivot).1,(partitionEqual lt (Go.Sort.rd lt dk a' b' lim wb wp).pi.1 a' b' (Go.Sort.rd lt dk a' b' lim wb wp).pivot).2,rfl⟩;obtain⟨r1,r2,r3,r4,_⟩:=round_eq hO (partitionEqual_holds lt) kk.1 ty.1 ty.2 (show b'<=(Go.Sort.rd lt dk a' b' lim wb wp).pi.1.size by omega) B3 kk.2 hx;have rf:=Any.partitionEqual_func_cells_w (P:=P) (ρ:=ρ) { L with } enc k hk lt g lb sf sb blk off a' b' (Go.Sort.rd lt dk a' b' lim wb wp).pivot (Go.Sort.rd lt dk a' b' lim wb wp).pi.1 wc eg (LR ks (s3.trans so)) (SR (s3.trans so)) ot pz ty.1 ty.2 (by omega) (by omega);rw[hx]at rf;have X:Aside (partitionEqual lt (Go.Sort.rd lt dk a' b' lim wb wp).pi.1 a' b' (Go.Sort.rd lt dk a' b' lim wb wp).pivot=(mid,d4)):=hx;clear hx
           go_wp2_with (go_at_fn (ρ.f 32);refine rf.mono ?_;rintro e w7 ⟨rfl,vj⟩)
           go_roundg (b' - mid)
           case measure=>omega
           case rel=>
            have hx:=X.out;exact⟨mid,b',(Go.Sort.rd lt dk a' b' lim wb wp).lim,wb,wp,d4,rfl,rfl,rfl,rfl,rfl,r2,pp,Nat.le_refl _,by omega,Nat.le_trans rd_lim_le tm,by rw[r3,s3,so],r4,ks.stepG ps r3 vj,BxK.stepG ⟨q0,q1,by assumption⟩ enc k tr vj,by rw[<-A.out,pdq_eq h12 hl0 ts h87 (by rw[hx];exact⟨r1,r2⟩),hx]⟩
theorem Any.sort_Slice_cells_eq(L:LaysGg.n6 P ρ)(t e:TypeId)(i ie:TypeInfo)(hi:P.info? t=some i)(hd:i.desc=.slice e)(hpk:P.packed t=false)(hie:P.info? e=some ie)(ke:Nat)(hke:∀w,(Extern.Rtype.kind e).run P w=.ok ke w)
  (enc:α->List Value) (k:Nat) (hk:∀x,(enc x).length=k) (hs1:ie.size=k) (hagg:∀w,(Go.isAgg e).run P w=.ok true w) (h1:∀x,∀v∈enc x,v.oneCell'=true) (lt:α->α->Bool) (hO:SWO lt) (g:Nat) (lb:Array Value)
  (eg:∀args w,(callFunc g args).run P w=.ok (.enter g args) w) (blk off c:Nat) (d:Array α) (h2:2<=d.size) (hsz:d.size<4611686018427387904)
  (f:Nat) (hf:P.funcs.findIdx? (·.name == "internal/reflectlite"++".Swapper$"++toString (swapperK d.size ie ke))=some f)
  (gS:Bool) (hx:∀args W,(callFunc f args).run P W=((Extern.ReflectliteSwapper.swap gS args).run P W).andThen λv w'=>.ok (.value v) w')
  (w:World) (hless:LessReadsK P g lb enc k lt blk off d.size w) (hH:HoldsK enc k w blk off d) (hblk:blk<w.heap.size) :
  Calls P (ρ.f 6) #[.iface t (.slice (some ⟨blk,off,none⟩) d.size c),.func (.func g) #[] lb] w λe w'=>
   e=.returned (.tuple #[])/\∃n os,w'=grow (putRowK enc k (Sort.ahead w n) blk off (pdq lt d 0 d.size (Lib.bitLen d.size) true true)) os:=by
 refine Any.sort_Slice_of_pdq L t e i ie hi hd hpk hie ke hke _ d.size c hsz f hf (.func g) #[] lb w _ ?_
 have hB:sliceBound P e ie ke (some ⟨blk,off,none⟩) d.size c=#[.slice (some ⟨blk,off,none⟩) d.size c,typeHandle P e]:=by
  unfold sliceBound;rw[if_neg (swapperK_gt _ _ _ h2)]
 have hW:sliceWorld P ρ t (some ⟨blk,off,none⟩) d.size c w=grow w #[.cells #[.slice (some ⟨blk,off,none⟩) d.size c] t,.cells #[.pointer (some ⟨P.globals.size,t,none⟩),.pointer (some ⟨w.heap.size,0,none⟩),.int .u64 151] (ρ.t 35)]:=by
  unfold sliceWorld;rw[alloc_eq_grow,alloc_eq_grow,grow_grow];rfl
 generalize (#[.cells #[.slice (some ⟨blk,off,none⟩) d.size c] t,.cells #[.pointer (some ⟨P.globals.size,t,none⟩),.pointer (some ⟨w.heap.size,0,none⟩),.int .u64 151] (ρ.t 35)]:Array Obj)=os0 at hW;rw[hB,hW];have hh:Lib.bitLen d.size<4611686018427387904:=Nat.lt_of_le_of_lt (Lib.bitLen_le d.size 62 (by omega) (by omega)) (by omega)
 have hp:=Any.pdqsort_func_cells_all (P:=P) (ρ:=ρ) { L with } enc k hk lt hO g lb f _ eg (d.size+1) blk off 0 d.size (Lib.bitLen d.size) d (grow w os0) (by omega) (hless.grow hblk os0)
  (swapSwapsK_of_literal gS f hx e ie hie enc k hk hs1 hagg h1 blk off d.size c) (holdsK_grow enc k w _ blk off d hblk hH) (by rw[size_grow];omega) (Nat.zero_le _) (Nat.le_refl _) hsz hh (Or.inl rfl)
 refine hp.mono ?_;rintro e w' ⟨rfl,n,os,rfl⟩;exact⟨rfl,n,_,by rw[ahead_grow,putRowK_grow enc k (Sort.ahead w n) _ blk off _ hblk,grow_grow]⟩
theorem Any.sort_Slice_cells_sorted(L:LaysGg.n6 P ρ)(t e:TypeId)(i ie:TypeInfo)(hi:P.info? t=some i)(hd:i.desc=.slice e)(hpk:P.packed t=false)(hie:P.info? e=some ie)(ke:Nat)(hke:∀w,(Extern.Rtype.kind e).run P w=.ok ke w)
  (enc:α->List Value) (k:Nat) (hk:∀x,(enc x).length=k) (hs1:ie.size=k) (hagg:∀w,(Go.isAgg e).run P w=.ok true w) (h1:∀x,∀v∈enc x,v.oneCell'=true) (lt:α->α->Bool) (hO:SWO lt) (g:Nat) (lb:Array Value)
  (eg:∀args w,(callFunc g args).run P w=.ok (.enter g args) w) (blk off c:Nat) (d:Array α) (h2:2<=d.size) (hsz:d.size<4611686018427387904)
  (f:Nat) (hf:P.funcs.findIdx? (·.name == "internal/reflectlite"++".Swapper$"++toString (swapperK d.size ie ke))=some f)
  (gS:Bool) (hx:∀args W,(callFunc f args).run P W=((Extern.ReflectliteSwapper.swap gS args).run P W).andThen λv w'=>.ok (.value v) w')
  (w:World) (hless:LessReadsK P g lb enc k lt blk off d.size w) (hH:HoldsK enc k w blk off d) (hblk:blk<w.heap.size) :
  Calls P (ρ.f 6) #[.iface t (.slice (some ⟨blk,off,none⟩) d.size c),.func (.func g) #[] lb] w λe w'=>
   e=.returned (.tuple #[])/\∃d' n os,PermIn 0 d.size d d'/\SortedIn lt 0 d.size d'/\w'=grow (putRowK enc k (Sort.ahead w n) blk off d') os:=(Any.sort_Slice_cells_eq L t e i ie hi hd hpk hie ke hke enc k hk hs1 hagg h1 lt hO g lb eg blk off c d h2 hsz f hf gS hx w hless hH hblk).mono λ_ _ ⟨he,n,os,hw⟩=>
   have h:=pdq_sorts lt hO d 0 d.size (Lib.bitLen d.size) true true (Nat.zero_le _) (Nat.le_refl _) (Or.inl rfl)
   ⟨he,_,n,os,h.1,h.2,hw⟩
end
section
namespace Rw
open Go Go.Proofs Go.Shelf Go.RowKit Go.Lib Go.Sort
def ltT(x y:Time):Bool:=decide (x.A<y.A)||(decide (x.A=y.A)&&decide (x.B<y.B))
def ltI(x y:Row):Bool:=decide (x.Key<y.Key)||(decide (x.Key=y.Key)&&(decide (x.Val<y.Val)||(decide (x.Val=y.Val)&&ltT x.At y.At)))
def encI(x:Row):List Value:=[.int .i64 x.Key,.int .i64 x.Val,.int .i64 x.At.A,.int .i64 x.At.B,.int .i64 x.Diff]
theorem IE:SWO ltI:=by
 constructor
 .intro x;simp[ltI,ltT]
 .intro x y z h1 h2;simp only[ltI,ltT,Bool.or_eq_true,Bool.and_eq_true,decide_eq_true_eq]at h1 h2⊢;omega
 .intro x y z h1 h2;simp only[ltI,ltT,Bool.or_eq_false_iff,Bool.and_eq_false_iff,decide_eq_false_iff_not]at h1 h2⊢;omega
theorem qr(w:World)(x y:Obj):(w.alloc x).alloc y=later w ⟨0,#[x,y]⟩:=by
 rw[alloc_eq_grow,alloc_eq_grow,grow_grow];rfl
theorem rah(w:World)(x y z u:Obj):(((w.alloc x).alloc y).alloc z).alloc u=later w ⟨0,#[x,y,z,u]⟩:=by
 rw[alloc_eq_grow,alloc_eq_grow,alloc_eq_grow,alloc_eq_grow,grow_grow,grow_grow,grow_grow];rfl
set_option maxHeartbeats 4000000 in
theorem Lah(x y:Time)(W:World):Calls Tryz.prog 86 #[.agg #[.int .i64 x.A,.int .i64 x.B],.agg #[.int .i64 y.A,.int .i64 y.B]] W λe w'=>e=.returned (.bool (ltT x y))/\∃q,w'=later W q:=by
 by_cases h1:x.A<y.A
 .have e1:decide (x.A<y.A)=true:=decide_eq_true h1;have hl:ltT x y=true:=by simp[ltT,h1]
  rw[hl]
  go_enter Tryz.func86,Tryz.ntmps86
  go_wp2
  go_ret
  exact⟨rfl,_,qr _ _ _⟩
 .have e1:decide (x.A<y.A)=false:=decide_eq_false h1;by_cases h2:x.A=y.A
  .have e2:(x.A == y.A)=true:=by simp[h2]
   have hl:ltT x y=decide (x.B<y.B):=by simp[ltT,h2]
   rw[hl]
   go_enter Tryz.func86,Tryz.ntmps86
   go_wp2
   go_ret
   exact⟨rfl,_,qr _ _ _⟩
  .have e2:(x.A == y.A)=false:=by simp[h2]
   have hl:ltT x y=false:=by simp[ltT,h1,h2]
   rw[hl]
   go_enter Tryz.func86,Tryz.ntmps86
   go_wp2
   go_ret
   exact⟨rfl,_,qr _ _ _⟩
set_option maxHeartbeats 4000000 in
theorem sah(x y:Row)(W:World):Calls Tryz.prog 66 #[.agg #[.int .i64 x.Key,.int .i64 x.Val,.int .i64 x.At.A,.int .i64 x.At.B,.int .i64 x.Diff],.agg #[.int .i64 y.Key,.int .i64 y.Val,.int .i64 y.At.A,.int .i64 y.At.B,.int .i64 y.Diff]] W
  λe w'=>e=.returned (.bool (ltI x y))/\∃q,w'=later W q:=by
 by_cases h1:x.Key=y.Key
 .have e1:(x.Key != y.Key)=false:=by simp[h1]
  by_cases h2:x.Val=y.Val
  .have e2:(x.Val != y.Val)=false:=by simp[h2]
   have hl:ltI x y=ltT x.At y.At:=by simp[ltI,h1,h2]
   rw[hl]
   go_enter Tryz.func66,Tryz.ntmps66
   go_wp2
   all_goals go_ret
   all_goals refine⟨?_,_,rah _ _ _ _ _⟩
   all_goals refine congrArg Ending.returned (congrArg Value.bool ?_)
   all_goals (rw[Bool.eq_iff_iff];simp[ltT];try omega)
  .have e2:(x.Val != y.Val)=true:=by simp[h2]
   have hl:ltI x y=decide (x.Val<y.Val):=by simp[ltI,h1,h2]
   rw[hl]
   go_enter Tryz.func66,Tryz.ntmps66
   go_wp2
   go_ret
   exact⟨rfl,_,qr _ _ _⟩
 .have e1:(x.Key != y.Key)=true:=by simp[h1]
  have hl:ltI x y=decide (x.Key<y.Key):=by simp[ltI,h1]
  rw[hl]
  go_enter Tryz.func66,Tryz.ntmps66
  go_wp2
  go_ret
  exact⟨rfl,_,qr _ _ _⟩
noncomputable def svT:TypeInfo:=(Tryz.prog.info? 28).get (by kernel_rfl)
noncomputable def svE:TypeInfo:=(Tryz.prog.info? 48).get (by kernel_rfl)
theorem LE(n:Nat)(h2:2<=n):Lib.swapperK n svE 25=9:=by
 have a:svE.hasPointers=false:=by kernel_rfl
 have b:svE.bytes=40:=by kernel_rfl
 have c:(n == 0)=false:=by simp;omega
 have d:(n == 1)=false:=by simp;omega
 simp[Lib.swapperK,a,b,c,d]
end Rw
namespace Rw
open Go
def kI(x:Row):List Int:=[x.Key,x.Val,x.At.A,x.At.B,0]
def mkI(p:List Int×Int):Row:=match p.1 with
 |[k,v,t,u,_]=>⟨k,v,⟨t,u⟩,p.2⟩
 |_=>⟨0,0,⟨0,0⟩,p.2⟩
def chI(xs:List Row):List (List Int×Int):=xs.map λx=>(kI x,x.Diff)
def gathI(xs:List Row):List Row:=(qc (chI xs)).map mkI
def mb(m:MP)(S:List Nat):List Row:=((S.map λi=>m.getD i ([0,0,0,0,0],0)).filter λp=>p.2 != 0).map mkI
end Rw
noncomputable def aJ(a0:List Row):List Row:=Rw.gathI a0
def bJ(a0:List Row):Prop:=lim (ba .row a0) 1
noncomputable def cJ:Spec:=⟨[.lst .row],.one .fr (.lst .row),false,λx=>(aJ x.1,0),λx=>bJ x.1⟩
namespace Rw
open Go
def ttg:TT:=[(3,⟨.scalar,1,[.int .i64 0],some .int,false⟩),(4,⟨.scalar,1,[.bool false],some .bool,false⟩),(28,⟨.slice 48,1,[.nl .row],some .lrow,false⟩),
 (32,⟨.struct [(0,1),(1,1)],2,[.int .i64 0,.int .i64 0],some .time,true⟩),(48,⟨.struct [(0,1),(1,1),(2,2),(4,1)],5,[.int .i64 0,.int .i64 0,.int .i64 0,.int .i64 0,.int .i64 0],some .row,true⟩)]
theorem Be:Ub Tryz.prog ttg:=gm (by kernel_rfl)
theorem gg:Good Tryz.prog ttg []:=⟨Be,(λ_ _ h=>by cases h),by kernel_rfl⟩
theorem tdE:Cb Tryz.prog 48 ⟨.struct [(0,1),(1,1),(2,2),(4,1)],5,[.int .i64 0,.int .i64 0,.int .i64 0,.int .i64 0,.int .i64 0],some .row,true⟩:=Be.td _ _ (by kernel_rfl)
theorem tdM:Cb Tryz.prog 32 ⟨.struct [(0,1),(1,1)],2,[.int .i64 0,.int .i64 0],some .time,true⟩:=Be.td _ _ (by kernel_rfl)
theorem td3:Cb Tryz.prog 3 ⟨.scalar,1,[.int .i64 0],some .int,false⟩:=Be.td _ _ (by kernel_rfl)
noncomputable def fsG:Array Field:=match Tryz.prog.underlying 48 with
 |some (.struct fs)=>fs
 |_=>#[]
noncomputable def sv3:TypeInfo:=(Tryz.prog.info? 3).get (by kernel_rfl)
theorem Jg:kE Tryz.prog 137 48 3 5:=by
 refine⟨by kernel_rfl,⟨fsG,by kernel_rfl⟩,Be.eq _ ⟨.struct [(0,1),(1,1),(2,2),(4,1)],5,[.int .i64 0,.int .i64 0,.int .i64 0,.int .i64 0,.int .i64 0],some .row,true⟩ (by kernel_rfl) rfl,
  lE (fs:=fsG) (i:=svE) (by kernel_rfl) (by kernel_rfl) (by kernel_rfl) (by kernel_rfl),λw=>?_⟩
 have hi : Tryz.prog.info? 3=some sv3:=by kernel_rfl
 have hz:sv3.zero=some (.int .i64 0):=by kernel_rfl
 simp[zeroValue,typeInfo,hi,hz]
noncomputable def C0:Code:=ee Tryz.f110
noncomputable def o1(i:Nat):Oper:=opN (opsOf (nav C0 [1,0])) i
noncomputable def o5(i:Nat):Oper:=opN (opsOf (nav C0 [1,1,0,1,0,0,1,1,0,0,1])) i
noncomputable def o8(i:Nat):Oper:=opN (opsOf (nav C0 [1,1,1,1,0,0])) i
noncomputable def o9(i:Nat):Oper:=opN (opsOf (nav C0 [1,1,1,1,0,1,0,0,0])) i
noncomputable def o10(i:Nat):Oper:=opN (opsOf (nav C0 [1,1,1,1,0,1,0,0,1,1,0,0])) i
noncomputable def o14(i:Nat):Oper:=opN (opsOf (nav C0 [1,1,1,1,1,0])) i
theorem chk:(opsOf (nav C0 [1,0])).size=2/\(opsOf (nav C0 [1,1,0,1,0,0,1,1,0,0,1])).size=15/\(opsOf (nav C0 [1,1,1,1,0,0])).size=2/\(opsOf (nav C0 [1,1,1,1,0,1,0,0,0])).size=2 /\
 (opsOf (nav C0 [1,1,1,1,0,1,0,0,1,1,0,0])).size=6/\(opsOf (nav C0 [1,1,1,1,1,0])).size=4:=⟨by kernel_rfl,by kernel_rfl,by kernel_rfl,by kernel_rfl,by kernel_rfl,by kernel_rfl⟩
end Rw
namespace Rw
open Go
theorem ZI{P:Program}{a:Act}{w:World}{o:Oper}{s x:Nat}(hop:o.op=.load s (.tmp x)){b c:Nat}(hx:a.tmps.getD x undef=.pointer (some ⟨b,c,none⟩)){d:TD}(hd:Cb P s d)(ha:isAgg d=true){us:List Value}(hn:us.length=d.size)
  (hu:∀j u,us[j]? = some u->w.cell? ⟨b,c+j,none⟩=some u):(execOp a.eval o).run P w=.ok (.value (.agg us.toArray)) w:=by
 obtain⟨hh,op,ty,pos,aft,gd⟩:=o;simp only[]at hop;subst hop;have hl:=zi hd ha (w:=w) hn hu;exact Ld (s:=Instr.loadAt s (a.tmps.getD x undef)) rfl (by rw[hx];exact hl)
def tuV(t u:Int):Value:=.agg [Value.int .i64 t,Value.int .i64 u].toArray
theorem PE(w:World)(k v t u:Int):(Instr.build 48 #[(0,.int .i64 k),(1,.int .i64 v),(2,tuV t u)]).run Tryz.prog w=.ok (Ha [k,v,t,u,0]) w:=by
 obtain⟨us,h1,h2⟩:=qD (F:=λ_ _=>False) (B:=0) (w:=w) tdE rfl (ps:=[(0,⟨true,false,[.int .i64 k]⟩),(1,⟨true,false,[.int .i64 v]⟩),(2,⟨true,true,[.int .i64 t,.int .i64 u]⟩)]) (vs:=#[(0,.int .i64 k),(1,.int .i64 v),(2,tuV t u)])
  (f:=true) (cs:=[.int .i64 k,.int .i64 v,.int .i64 t,.int .i64 u,.int .i64 0]) rfl (λj i p u' hp hu=>by
    match j,hp,hu with
    |0,hp,hu=>simp at hp hu;obtain⟨rfl,rfl⟩:=hp;subst hu;exact RC.int _ _
    |1,hp,hu=>simp at hp hu;obtain⟨rfl,rfl⟩:=hp;subst hu;exact RC.int _ _
    |2,hp,hu=>simp at hp hu;obtain⟨rfl,rfl⟩:=hp;subst hu;exact⟨[.int .i64 t,.int .i64 u],rfl,.cons (RC.int _ _) (.cons (RC.int _ _) .nil)⟩
    |j+3,hp,hu=>simp at hp) rfl
 rw[h1];cases h2 with
 |cons h2 h3=>cases h2;cases h3 with
  |cons h2 h3=>cases h2;cases h3 with
   |cons h2 h3=>cases h2;cases h3 with
    |cons h2 h3=>cases h2;cases h3 with
     |cons h2 h3=>cases h2;cases h3;rfl
def V5(r b5:Nat)(k v t u c:Int)(m:MP):Nat->Value
 |0=>.map (some r)
 |1=>.pointer (some ⟨b5,0,none⟩)
 |2=>.int .i64 k
 |3=>.pointer (some ⟨b5,1,none⟩)
 |4=>.int .i64 v
 |5=>.pointer (some ⟨b5,2,none⟩)
 |6=>tuV t u
 |7=>Ha [k,v,t,u,0]
 |8=>.int .i64 (Xa m [k,v,t,u,0])
 |9=>.pointer (some ⟨b5,4,none⟩)
 |10=>.int .i64 c
 |11=>.int .i64 (ar .add .i64 (Xa m [k,v,t,u,0]) c)
 |12=>.tuple #[.int .i64 (Xa m [k,v,t,u,0]),goInt (stp m [k,v,t,u,0])]
 |_=>goInt (stp m [k,v,t,u,0])
def mL(m:MP)(q:List Int×Int)(L:Nat->Bool):MP:=if L 14 then stepM m q else if L 12 then oc m q.1 else m
structure J5(a0:Act)(w1:World)(r b5:Nat)(k v t u c:Int)(m:MP)(L:Nat->Bool)(a:Act)(w:World):Prop where
 df:a.defers=[]
 sz:a.tmps.size=a0.tmps.size
 vs:∀i,i<14->L i=true->a.tmps.getD (16+i) undef=V5 r b5 k v t u c m i
 ot:∀n,n<16\/29<n->a.tmps.getD n undef=a0.tmps.getD n undef
 pk:Pk w1 r w
 ob:w.heap[r]? = some (oa (mL m ([k,v,t,u,0],c) L))
theorem J5.put{a0:Act}{w1:World}{r b5:Nat}{k v t u c:Int}{m:MP}{L:Nat->Bool}{a:Act}{w w':World}(h:J5 a0 w1 r b5 k v t u c m L a w)(h28:30<=a0.tmps.size){i:Nat}(hi:i<14)(hp:Pk w r w')
  (ho:w'.heap[r]? = some (oa (mL m ([k,v,t,u,0],c) λj=>if j=i then true else L j))):J5 a0 w1 r b5 k v t u c m (λj=>if j=i then true else L j) (a.put (some (16+i)) (V5 r b5 k v t u c m i)) w':=by
 have hs:16+i<a.tmps.size:=by rw[h.sz];omega
 refine⟨h.df,by rw[xe];exact h.sz,λj hj hL=>?_,λn hn=>?_,h.pk.trans hp,ho⟩
 .rw[Ga a _ _ hs];by_cases e:j=i
  .rw[if_pos (by omega),e]
  .rw[if_neg (by omega)];exact h.vs j hj (by simpa [e] using hL)
 .rw[Ga a _ _ hs,if_neg (by omega)];exact h.ot n hn
theorem RE{m:MP}{q:List Int×Int}{L:Nat->Bool}{i:Nat}(h1:i≠12)(h2:i≠14):mL m q (λj=>if j=i then true else L j)=mL m q L:=by
 unfold mL;have e1:¬ (14=i):=λe=>h2 e.symm;have e2:¬ (12=i):=λe=>h1 e.symm;simp[e1,e2]
theorem op5:(∀i,i<14->(o5 i).dst=some (16+i)/\(o5 i).guard=none)/\(o5 14).dst=none/\(o5 14).guard=none /\
  (o5 0).op=.move (.tmp 3)/\(o5 1).op=.fieldAddr 48 (.tmp 5) 0/\(o5 2).op=.load 3 (.tmp 17)/\(o5 3).op=.fieldAddr 48 (.tmp 5) 1/\(o5 4).op=.load 3 (.tmp 19)/\(o5 5).op=.fieldAddr 48 (.tmp 5) 2/\(o5 6).op=.load 32 (.tmp 21)/\(o5 7).op=.build 48 #[(0,.tmp 18),(1,.tmp 20),(2,.tmp 22)]/\(o5 8).op=.lookup 137 (.tmp 16) (.tmp 23) false/\(o5 9).op=.fieldAddr 48 (.tmp 5) 3/\(o5 10).op=.load 3 (.tmp 25)/\(o5 11).op=.binOp .add 3 (.tmp 24) (.tmp 26) 3/\(o5 12).op=.mapEntry 137 (.tmp 16) (.tmp 23)/\(o5 13).op=.extract (.tmp 28) 1/\(o5 14).op=.entryStore 137 (.tmp 16) (.tmp 29) (.tmp 27):=by
 refine⟨λi hi=>?_,by kernel_rfl,by kernel_rfl,by kernel_rfl,by kernel_rfl,by kernel_rfl,by kernel_rfl,by kernel_rfl,by kernel_rfl,by kernel_rfl,by kernel_rfl,by kernel_rfl,by kernel_rfl,by kernel_rfl,by kernel_rfl,by kernel_rfl,by kernel_rfl,by kernel_rfl⟩;rcases (show i=0\/i=1\/i=2\/i=3\/i=4\/i=5\/i=6\/i=7\/i=8\/i=9\/i=10\/i=11\/i=12\/i=13 by omega) with rfl|rfl|rfl|rfl|rfl|rfl|rfl|rfl|rfl|rfl|rfl|rfl|rfl|rfl<;>exact⟨by kernel_rfl,by kernel_rfl⟩
set_option maxHeartbeats 1600000 in
set_option maxRecDepth 20000 in
theorem SE{Q:Exit->Act->World->Prop}{B:Nat}{W0:World}{F0:Fz}{r:Nat}{m:MP}{e:Env}{k v t u c:Int}{a:Act}{w:World}{N:NP}(hs:MS N B [] W0 F0 [(r,oa m)] e a w)(hfl:ce e=true)
  (hN:N.n=52/\N.r=none/\N.k=[(3,.map (some r))]) (hg:ca e 5=.box [(.fr,.int .i64 k),(.fr,.int .i64 v),(.fr,.int .i64 t),(.fr,.int .i64 u),(.fr,.int .i64 c)]) (hd:∀d,16<=d->d<=29->Ja (ca e d)=true) (hm:Db 5 m)
  (hQ:∀a w,MS N B [] W0 F0 [(r,oa (stepM m ([k,v,t,u,0],c)))] e a w->Q .normal a w):(nav C0 [1,1,0,1,0,0,1,1,0,0,1]).wp Tryz.prog Q a w:=by
 obtain⟨hw,hy,hz⟩:=hN;have ix:nav C0 [1,1,0,1,0,0,1,1,0,0,1]=.region (Gg (nav C0 [1,1,0,1,0,0,1,1,0,0,1])) (opsOf (nav C0 [1,1,0,1,0,0,1,1,0,0,1])) true:=by kernel_rfl
 have hsz:(opsOf (nav C0 [1,1,0,1,0,0,1,1,0,0,1])).size=15:=chk.2.1;obtain⟨F,ow,hx⟩:=hs.sim.rep;obtain⟨b5,us,kq,_,hc,_,hlen,io⟩:=hx.box hg;have kq:a.tmps.getD 5 undef=.pointer (some ⟨b5,0,none⟩):=kq;have hr:=hs.o (List.mem_singleton.2 rfl);have ih:b5≠r:=hc.ne hr rfl;have h3:a.tmps.getD 3 undef=.map (some r):=hs.k (by rw[hz];simp);have hq:30<=a.tmps.size:=by rw[hs.sim.tmps.size,hw];omega
 have ks:us=[.int .i64 k,.int .i64 v,.int .i64 t,.int .i64 u,.int .i64 c]:=by
  match us,hlen with
  |[u0,u1,u2,u3,u4],_=>
   have q0:RC F B w (.int .i64 k) u0:=io 0 _ u0 rfl rfl;have q1:RC F B w (.int .i64 v) u1:=io 1 _ u1 rfl rfl;have q2:RC F B w (.int .i64 t) u2:=io 2 _ u2 rfl rfl;have q3:RC F B w (.int .i64 u) u3:=io 3 _ u3 rfl rfl;have q4:RC F B w (.int .i64 c) u4:=io 4 _ u4 rfl rfl;cases q0;cases q1;cases q2;cases q3;cases q4;rfl
 subst ks;obtain⟨ju,ie,jb,p0,p1,p2,p3,p4,p5,p6,p7,p8,p9,p10,p11,p12,p13,kx⟩:=op5;have kk:([k,v,t,u,0]:List Int).length=5:=rfl;rw[ix];refine wp_region_any gg.hm ?_;refine gE (J:=J5 a { w with drawn:=w.drawn+1 } r b5 k v t u c m) (by kernel_rfl) ?_ ?_ (opsOf (nav C0 [1,1,0,1,0,0,1,1,0,0,1])).size _ a _ (by simp) (by simp) ?_ ?_
 .intro L a' w' i o kj hv hE it hJ next hn;have ki:i<15:=by have:=(Array.getElem?_eq_some_iff.1 kj).1;omega
  have ho:o=o5 i:=(Vj kj).symm;have hu:∀j,Hg (o5 i) j=true->L j=true:=λj hj=>Uj (by rw[<-ho];exact hE) hj
  have hC:∀i j,i<15->L i=true->Hg (o5 i) j=true->L j=true:=λi j hi hL hj=>by
   have km:i<(opsOf (nav C0 [1,1,0,1,0,0,1,1,0,0,1])).size:=by omega
   exact Uj (λe he hb=>it i (o5 i) (by have:=Array.getElem?_eq_getElem km;rw[this];exact congrArg some (Vj this).symm) hL e he hb) hj
  have hf:Blk w' b5 [.int .i64 k,.int .i64 v,.int .i64 t,.int .i64 u,.int .i64 c]:=by
   refine Blk.same (w:=w) hc ?_;rw[hJ.pk.block b5 ih]
  have t3:a'.tmps.getD 3 undef=.map (some r):=by rw[hJ.ot 3 (.inl (by omega))];exact h3
  have t5:a'.tmps.getD 5 undef=.pointer (some ⟨b5,0,none⟩):=by rw[hJ.ot 5 (.inl (by omega))];exact kq
  have ky:∀(hi:i<14),i≠12->(execOp a'.eval (o5 i)).run Tryz.prog w'=.ok (.value (V5 r b5 k v t u c m i)) w'->wpOp Tryz.prog (opsOf (nav C0 [1,1,0,1,0,0,1,1,0,0,1])) Q i next a' w':=by
   intro hi hh kr;refine ra kj (by rw[ho];exact(ju i hi).2) ?_;rw[ho];refine Ra kr ?_;rw[(ju i hi).1];exact hn _ _ (hJ.put hq hi ⟨rfl,rfl,rfl,rfl,λ_ _=>rfl⟩ (by rw[RE hh (by omega)];exact hJ.ob))
  have kn:L 14=false->w'.heap[r]? = some (oa (if L 12 then oc m [k,v,t,u,0] else m)):=λh=>by
   have:=hJ.ob;unfold mL at this;rw[h]at this;simpa using this
  rcases (show i=0\/i=1\/i=2\/i=3\/i=4\/i=5\/i=6\/i=7\/i=8\/i=9\/i=10\/i=11\/i=12\/i=13\/i=14 by omega) with rfl|rfl|rfl|rfl|rfl|rfl|rfl|rfl|rfl|rfl|rfl|rfl|rfl|rfl|rfl
  .exact ky (by omega) (by omega) (by rw[Ae p0,t3];rfl)
  .exact ky (by omega) (by omega) (Bh p1 t5 tdE rfl rfl)
  .exact ky (by omega) (by omega) (Ff p2 (hJ.vs 1 (by omega) (hu 1 (by kernel_rfl))) td3 rfl (by rw[hf.cell];rfl))
  .exact ky (by omega) (by omega) (Bh p3 t5 tdE rfl rfl)
  .exact ky (by omega) (by omega) (Ff p4 (hJ.vs 3 (by omega) (hu 3 (by kernel_rfl))) td3 rfl (by rw[hf.cell];rfl))
  .exact ky (by omega) (by omega) (Bh p5 t5 tdE rfl rfl)
  .exact ky (by omega) (by omega) (ZI p6 (hJ.vs 5 (by omega) (hu 5 (by kernel_rfl))) tdM rfl (us:=[.int .i64 t,.int .i64 u]) rfl (λj x hx=>by
    rw[hf.cell]
    match j,hx with
    |0,hx=>exact hx
    |1,hx=>exact hx
    |j+2,hx=>simp at hx))
  .refine ky (by omega) (by omega) (WK p7 ?_);have e1:a'.tmps.getD 18 undef=.int .i64 k:=hJ.vs 2 (by omega) (hu 2 (by kernel_rfl));have e2:a'.tmps.getD 20 undef=.int .i64 v:=hJ.vs 4 (by omega) (hu 4 (by kernel_rfl));have e3:a'.tmps.getD 22 undef=tuV t u:=hJ.vs 6 (by omega) (hu 6 (by kernel_rfl))
   have:(#[(0,Operand.tmp 18),(1,Operand.tmp 20),(2,Operand.tmp 22)].map λp=>(p.1,a'.eval p.2))=#[(0,Value.int .i64 k),(1,Value.int .i64 v),(2,tuV t u)]:=by
    simp only[List.map_toArray,List.map_cons,List.map_nil];rw[show a'.eval (.tmp 18)=.int .i64 k from e1,show a'.eval (.tmp 20)=.int .i64 v from e2,show a'.eval (.tmp 22)=tuV t u from e3]
   rw[this];exact PE w' k v t u
  .refine ky (by omega) (by omega) (Vs p8 ?_);rw[hJ.vs 0 (by omega) (hu 0 (by kernel_rfl)),hJ.vs 7 (by omega) (hu 7 (by kernel_rfl))]
   have hl:L 14=false:=by
    cases h:L 14 with
    |false=>rfl
    |true=>
     have h9:=hC 14 11 (by omega) h (by kernel_rfl);have h6:=hC 11 8 (by omega) h9 (by kernel_rfl);rw[h6]at hv;cases hv
   have kp:=kn hl;cases hh:L 12 with
   |false=>
    rw[hh]at kp;exact Ps Jg kp hm kk
   |true=>
    rw[hh]at kp;have kp:w'.heap[r]? = some (oa (oc m [k,v,t,u,0])):=kp;have:=Ps Jg kp (hm.ins kk) kk;rw[NL]at this;exact this
  .exact ky (by omega) (by omega) (Bh p9 t5 tdE rfl rfl)
  .exact ky (by omega) (by omega) (Ff p10 (hJ.vs 9 (by omega) (hu 9 (by kernel_rfl))) td3 rfl (by rw[hf.cell];rfl))
  .exact ky (by omega) (by omega) (TK p11 (hJ.vs 8 (by omega) (hu 8 (by kernel_rfl))) (hJ.vs 10 (by omega) (hu 10 (by kernel_rfl))))
  .have hl:L 14=false:=by
    cases h:L 14 with
    |false=>rfl
    |true=>
     have hk:=hC 14 13 (by omega) h (by kernel_rfl);have hh:=hC 13 12 (by omega) hk (by kernel_rfl);rw[hh]at hv;cases hv
   have kp:=kn hl;rw[hv]at kp;have kp:w'.heap[r]? = some (oa m):=kp;have kr:=yK Jg kp hm kk;refine ra kj (by rw[ho];exact(ju 12 (by omega)).2) ?_;rw[ho];refine Ra (PK p12 (by rw[hJ.vs 0 (by omega) (hu 0 (by kernel_rfl)),hJ.vs 7 (by omega) (hu 7 (by kernel_rfl))];exact kr)) ?_;rw[(ju 12 (by omega)).1];refine hn _ _ (hJ.put hq (by omega) (zh _ _ _) ?_);rw[Ah kp];unfold mL;simp[hl]
  .have e10:a'.tmps.getD 28 undef=.tuple #[.int .i64 (Xa m [k,v,t,u,0]),goInt (stp m [k,v,t,u,0])]:=hJ.vs 12 (by omega) (hu 12 (by kernel_rfl));have kr:(execOp a'.eval (o5 13)).run Tryz.prog w'=.ok (.value (goInt (stp m [k,v,t,u,0]))) w':=ig (vs:=#[.int .i64 (Xa m [k,v,t,u,0]),goInt (stp m [k,v,t,u,0])]) p13 e10 (by simp);exact ky (by omega) (by omega) kr
  .have hh:L 12=true:=hC 13 12 (by omega) (hu 13 (by kernel_rfl)) (by kernel_rfl);have kp:=kn hv;rw[hh]at kp;have kp:w'.heap[r]? = some (oa (oc m [k,v,t,u,0])):=kp;have kr:=zK Jg kp (PL m [k,v,t,u,0]) (ar .add .i64 (Xa m [k,v,t,u,0]) c);refine ra kj (by rw[ho];exact jb) ?_;rw[ho];refine Oi (QK kx (by rw[hJ.vs 0 (by omega) (hu 0 (by kernel_rfl)),hJ.vs 13 (by omega) (hu 13 (by kernel_rfl)),hJ.vs 11 (by omega) (hu 11 (by kernel_rfl))];exact kr)) ?_;rw[ie];refine hn _ _ ⟨hJ.df,hJ.sz,λj hj hL=>hJ.vs j hj (by simpa [show j≠14 by omega] using hL),hJ.ot,hJ.pk.trans (zh _ _ _),?_⟩;rw[Ah kp];rfl
 .intro L a' w' ha hJ;refine hQ a' w' ?_
  have kp:w'.heap[r]? = some (oa (stepM m ([k,v,t,u,0],c))):=by
   have:=hJ.ob;unfold mL at this;rw[ha 14 (by omega)]at this;simpa using this
  have h1:=(hs.drew (w.drawn+1)).set (obs':=[(r,oa (stepM m ([k,v,t,u,0],c)))]) (List.mem_singleton.2 rfl) hJ.pk (λp hp=>by
   rw[List.mem_singleton.1 hp];exact .inr ⟨rfl,kp,rfl⟩)
  refine h1.tmps (D:=[16,17,18,19,20,21,22,23,24,25,26,27,28,29]) hfl (λd hdm=>⟨hd d ?_ ?_,?_⟩) hy hJ.df hJ.sz (λn hn=>hJ.ot n ?_)
  .simp at hdm;omega
  .simp at hdm;omega
  .rw[hz];have ht:3≠d:=by simp at hdm;omega
   simp[yi,Ue ht]
  .simp at hn;omega
 .intro i o ho hL;simp only[Array.getD_eq_getD_getElem?]at hL;by_cases hi:i<(opsOf (nav C0 [1,1,0,1,0,0,1,1,0,0,1])).size
  .simp[hi]at hL
  .simp[hi]at hL
 .refine⟨hs.sim.defers,rfl,λi hi hL=>?_,λn _=>rfl,⟨rfl,rfl,rfl,rfl,λ_ _=>rfl⟩,?_⟩
  .simp only[Array.getD_eq_getD_getElem?]at hL;simp[hsz,show i<15 by omega]at hL
  .show w.heap[r]? = _;rw[hr];unfold mL;simp[Array.getD_eq_getD_getElem?,hsz]
end Rw
namespace Rw
open Go
abbrev N1(r:Nat):NP:=⟨52,none,[(3,.map (some r))]⟩
def EL(xs:List Row)(i:Int):Env:=[(10,.v .sh (.lst .row xs)),(11,.v .fr (.int .i64 (ba .row xs))),(12,.v .fr (.int .i64 i))]
theorem Vi(xs:List Row):Db 5 (Sa (chI xs))/\∀p∈Sa (chI xs),∃k v t u,p.1=[k,v,t,u,0]:=by
 have key:∀(l:List (List Int×Int)) (m:MP),(∀p∈l,∃k v t u,p.1=[k,v,t,u,0])->(∀ks∈na m,∃k v t u,ks=[k,v,t,u,(0:Int)])->∀ks∈na (l.foldl stepM m),∃k v t u,ks=[k,v,t,u,(0:Int)]:=by
  intro l
  induction l with
  |nil=>exact λm _ h=>h
  |cons q r ih=>
   intro m hl hm;refine ih _ (λp hp=>hl p (by simp[hp])) (λks hk=>?_);rw[Qs]at hk;split at hk
   .exact hm ks hk
   .rcases List.mem_append.1 hk with hk|hk
    .exact hm ks hk
    .simp at hk;subst hk;exact hl q (by simp)
 have h2:∀p∈Sa (chI xs),∃k v t u,p.1=[k,v,t,u,0]:=λp hp=>key (chI xs) [] (λq hq=>by
  obtain⟨x,_,rfl⟩:=List.mem_map.1 hq;exact⟨x.Key,x.Val,x.At.A,x.At.B,rfl⟩) (by simp[na]) p.1 (List.mem_map.2 ⟨p,hp,rfl⟩)
 exact⟨λp hp=>by obtain⟨k,v,t,u,h⟩:=h2 p hp;rw[h];rfl,h2⟩
theorem UE{xs:List Row}{i:Nat}(hi:i<xs.length):Sa (chI (xs.take (i+1)))=stepM (Sa (chI (xs.take i))) (kI (rd .row xs i),(rd .row xs i).Diff):=by
 have:xs.take (i+1)=xs.take i++[rd .row xs i]:=by
  rw[List.take_succ_eq_append_getElem hi]
  congr 2
  unfold rd;rw[List.getD_eq_getElem?_getD,show(i:Int).toNat=i from rfl,List.getElem?_eq_getElem hi];rfl
 rw[this];unfold Sa chI;rw[List.map_append,List.foldl_append];rfl
set_option maxRecDepth 20000 in
theorem VE{xs:List Row}(hlim:lim (ba .row xs) 1){Q:Exit->Act->World->Prop}{B:Nat}{W0:World}{F0:Fz}{r:Nat}{a:Act}{w:World}(hs:MS (N1 r) B [] W0 F0 [(r,oa [])] (EL xs 0) a w)
  (hQ:∀a w,MS (N1 r) B [] W0 F0 [(r,oa (Sa (chI xs)))] [] a w->Q .normal a w):(nav C0 [1,1,0,1]).wp Tryz.prog Q a w:=by
 have hlen:(xs.length:Int)<=1099511627775:=by have:ba .row xs+1<=1099511627776:=hlim;unfold ba at this;omega
 refine Nc (c1:=nav C0 [1,1,0,1,0]) (id:=0) (by kernel_rfl) ?_;rw[show nav C0 [1,1,0,1,0]=.loop (nav C0 [1,1,0,1,0,0]) by kernel_rfl];refine We (σ:=Nat) (λi a w=>i<=xs.length/\MS (N1 r) B [] W0 F0 [(r,oa (Sa (chI (xs.take i))))] (EL xs i) a w) (λi=>xs.length - i) ?_ 0 ⟨Nat.zero_le _,hs⟩;rintro i a w ⟨hi,hs⟩;refine ma (c1:=nav C0 [1,1,0,1,0,0,0]) (c2:=nav C0 [1,1,0,1,0,0,1]) (by kernel_rfl) ?_;refine MS.regC gg (keep:=[10,11,12,13]) (e':=[(10,.v .sh (.lst .row xs)),(11,.v .fr (.int .i64 (ba .row xs))),(12,.v .fr (.int .i64 i)),(13,.v .fr (.bool (cmp .lss i (ba .row xs))))]) (ps:=[]) (by kernel_rfl) trivial hs (λa w hs=>?_);refine ma (c1:=nav C0 [1,1,0,1,0,0,1,0]) (c2:=nav C0 [1,1,0,1,0,0,1,1]) (by kernel_rfl) ?_;refine ld (o:=.tmp 13) (c1:=nav C0 [1,1,0,1,0,0,1,0,0]) (c2:=nav C0 [1,1,0,1,0,0,1,0,1]) (by kernel_rfl) (hs.bool (k:=.fr) rfl) (λht=>Md (by kernel_rfl) ?_) (λhf=>jg (i:=0) (by kernel_rfl) ?_)
 .have hj:i<xs.length:=by
   have:decide ((i:Int)<ba .row xs)=true:=ht;have:=of_decide_eq_true this;unfold ba at this;omega
  show(nav C0 [1,1,0,1,0,0,1,1]).wp _ _ a w;refine ma (c1:=nav C0 [1,1,0,1,0,0,1,1,0]) (c2:=nav C0 [1,1,0,1,0,0,1,1,1]) (by kernel_rfl) ?_;refine Nc (c1:=nav C0 [1,1,0,1,0,0,1,1,0,0]) (id:=1) (by kernel_rfl) ?_;refine ma (c1:=nav C0 [1,1,0,1,0,0,1,1,0,0,0]) (c2:=nav C0 [1,1,0,1,0,0,1,1,0,0,1]) (by kernel_rfl) ?_
  refine MS.regC gg (keep:=[5,10,11,12]) (e':=[(5,.box [(.fr,.int .i64 (rd .row xs i).Key),(.fr,.int .i64 (rd .row xs i).Val),(.fr,.int .i64 (rd .row xs i).At.A),(.fr,.int .i64 (rd .row xs i).At.B),(.fr,.int .i64 (rd .row xs i).Diff)]),(10,.v .sh (.lst .row xs)),(11,.v .fr (.int .i64 (ba .row xs))),(12,.v .fr (.int .i64 i))])
   (ps:=[inb i (ba .row xs)]) (by kernel_rfl) ⟨⟨by omega,by unfold ba;omega⟩,trivial⟩ hs (λa w hs=>?_)
  refine SE hs (by kernel_rfl) ⟨rfl,rfl,rfl⟩ rfl (λd h1 h2=>?_) (Vi _).1 (λa w hs=>?_)
  .rcases (show d=16\/d=17\/d=18\/d=19\/d=20\/d=21\/d=22\/d=23\/d=24\/d=25\/d=26\/d=27\/d=28\/d=29 by omega) with rfl|rfl|rfl|rfl|rfl|rfl|rfl|rfl|rfl|rfl|rfl|rfl|rfl|rfl<;>rfl
  .show(nav C0 [1,1,0,1,0,0,1,1,1]).wp _ _ a w;refine MS.regC gg (keep:=[10,11,12]) (e':=EL xs (ar .add .i64 i 1)) (ps:=[]) (by kernel_rfl) trivial hs (λa w hs=>?_);refine⟨i+1,by omega,by omega,?_⟩;rw[UE hj];rw[Eh (by omega) (by omega)]at hs;exact hs
 .have hh:xs.length<=i:=by
   have:decide ((i:Int)<ba .row xs)=false:=hf;have:=of_decide_eq_false this;unfold ba at this;omega
  show Exit.inBlock 0 Q (.exit 0) a w;simp only[Exit.inBlock,if_true];refine hQ a w ?_;rw[List.take_of_length_le hh]at hs;exact hs.weak (xa.cast (pat:=[]) (by kernel_rfl) (by kernel_rfl))
end Rw
namespace Rw
open Go
abbrev N2(it:Nat):NP:=⟨52,none,[(33,.pointer (some ⟨it,0,none⟩))]⟩
def E2(out:List Row):Env:=[(6,.box [(.acc true,.lst .row out)])]
theorem WE(m:MP)(S:List Nat){i:Nat}{p:List Int×Int}(hp:m[i]? = some p):mb m (S++[i])=mb m S++(if p.2=0 then [] else [mkI p]):=by
 unfold mb;rw[List.map_append,List.filter_append,List.map_append]
 congr 1
 have:m.getD i ([0,0,0,0,0],0)=p:=by rw[List.getD_eq_getElem?_getD,hp];rfl
 simp only[List.map_cons,List.map_nil,this];by_cases h:p.2=0<;>simp[h]
theorem zm(m:MP)(S:List Nat):(mb m S).length<=S.length:=by
 unfold mb;rw[List.length_map];exact Nat.le_trans (List.length_filter_le _ _) (by simp)
theorem op9:(o9 0).op=.next (.tmp 33) false/\(o9 0).dst=some 34/\(o9 0).guard=none/\(o9 1).op=.extract (.tmp 34) 0/\(o9 1).dst=some 35/\(o9 1).guard=none /\
  (o10 0).op=.entry (.tmp 33)/\(o10 0).dst=some 36/\(o10 0).guard=none/\(o10 1).op=.extract (.tmp 36) 0/\(o10 1).dst=some 37/\(o10 1).guard=none/\(o10 2).op=.extract (.tmp 36) 1/\(o10 2).dst=some 38/\(o10 2).guard=none:=by
 refine⟨by kernel_rfl,by kernel_rfl,by kernel_rfl,by kernel_rfl,by kernel_rfl,by kernel_rfl,by kernel_rfl,by kernel_rfl,by kernel_rfl,by kernel_rfl,by kernel_rfl,by kernel_rfl,by kernel_rfl,by kernel_rfl,by kernel_rfl⟩
theorem at9:(opsOf (nav C0 [1,1,1,1,0,1,0,0,0]))[0]? = some (o9 0)/\(opsOf (nav C0 [1,1,1,1,0,1,0,0,0]))[1]? = some (o9 1)/\List.range (opsOf (nav C0 [1,1,1,1,0,1,0,0,0])).size=[0,1]:=⟨by kernel_rfl,by kernel_rfl,by kernel_rfl⟩
theorem fe:(opsOf (nav C0 [1,1,1,1,0,1,0,0,1,1,0,0]))[0]? = some (o10 0)/\(opsOf (nav C0 [1,1,1,1,0,1,0,0,1,1,0,0]))[1]? = some (o10 1)/\(opsOf (nav C0 [1,1,1,1,0,1,0,0,1,1,0,0]))[2]? = some (o10 2) /\
 (opsOf (nav C0 [1,1,1,1,0,1,0,0,1,1,0,0]))[3]? = some (o10 3)/\(opsOf (nav C0 [1,1,1,1,0,1,0,0,1,1,0,0]))[4]? = some (o10 4)/\(opsOf (nav C0 [1,1,1,1,0,1,0,0,1,1,0,0]))[5]? = some (o10 5) /\
 List.range (opsOf (nav C0 [1,1,1,1,0,1,0,0,1,1,0,0])).size=[0,1,2,3,4,5]:=⟨by kernel_rfl,by kernel_rfl,by kernel_rfl,by kernel_rfl,by kernel_rfl,by kernel_rfl,by kernel_rfl⟩
set_option maxRecDepth 20000 in
set_option maxHeartbeats 1600000 in
theorem XE{m:MP}(hm:∀p∈m,∃k v t u,p.1=[k,v,t,u,0])(hlen:m.length<=1099511627775){Q:Exit->Act->World->Prop}{B:Nat}{W0:World}{F0:Fz}{r it:Nat}(hne:r≠it){a:Act}{w:World}
  (hs:MS (N2 it) B [] W0 F0 [(it,vb r m []),(r,oa m)] (E2 []) a w)
  (hQ:∀S a w,S.Nodup->(∀i∈S,i<m.length)->(∀i,i<m.length->i∈S)->MS (N2 it) B [] W0 F0 [] (E2 (mb m S)) a w->Q .normal a w):(nav C0 [1,1,1,1,0,1]).wp Tryz.prog Q a w:=by
 refine Nc (c1:=nav C0 [1,1,1,1,0,1,0]) (id:=2) (by kernel_rfl) ?_;rw[show nav C0 [1,1,1,1,0,1,0]=.loop (nav C0 [1,1,1,1,0,1,0,0]) by kernel_rfl];refine We (σ:=List Nat) (λS a w=>S.Nodup/\(∀i∈S,i<m.length)/\MS (N2 it) B [] W0 F0 [(it,vb r m S),(r,oa m)] (E2 (mb m S)) a w) (λS=>m.length - S.length) ?_ [] ⟨by simp,by simp,hs⟩;rintro S a w ⟨kj,ju,hs⟩;obtain⟨kx,hl,hw,ky,hn,ha,kq,hh,ho,kr,hi,hu,ks,hk,hv⟩:=op9;have hit:=hs.o (r:=it) (o:=vb r m S) (by simp);have hr:=hs.o (r:=r) (o:=oa m) (by simp);have hc:a.tmps.getD 33 undef=.pointer (some ⟨it,0,none⟩):=hs.k (by simp);refine ma (c1:=nav C0 [1,1,1,1,0,1,0,0,0]) (c2:=nav C0 [1,1,1,1,0,1,0,0,1]) (by kernel_rfl) ?_;refine Gc (by kernel_rfl) at9.2.2 ?_;rw[wpOps_cons];refine ra at9.1 hw ?_;rcases BK (P:=Tryz.prog) hr hit (o9 0).type with⟨hg,kp⟩|⟨i,p,n,ih,hp,kp⟩
 .refine Ra (Ws kx (by rw[hc];exact kp)) ?_;rw[hl,wpOps_cons];have h1:=hs.val (d:=34) (by kernel_rfl) (v:=.tuple #[.bool false]) (av:=.dead) rfl (λ_ _=>trivial);refine ra at9.2.1 ha ?_;refine Ra (ig (vs:=#[.bool false]) ky (h1.k (by simp)) (v:=.bool false) (by simp)) ?_;rw[hn];have h2:=h1.val (d:=35) (by kernel_rfl) (v:=.bool false) (av:=.v .fr (.bool false)) rfl (λ_ _=>RC.bool _);refine sc _ ?_;show(nav C0 [1,1,1,1,0,1,0,0,1]).wp _ _ _ _;refine ma (c1:=nav C0 [1,1,1,1,0,1,0,0,1,0]) (c2:=nav C0 [1,1,1,1,0,1,0,0,1,1]) (by kernel_rfl) ?_;refine ld (o:=.tmp 35) (c1:=nav C0 [1,1,1,1,0,1,0,0,1,0,0]) (c2:=nav C0 [1,1,1,1,0,1,0,0,1,0,1]) (by kernel_rfl) (h2.bool (k:=.fr) (b:=false) rfl) (λht=>by cases ht) (λhf=>jg (i:=2) (by kernel_rfl) ?_);show Exit.inBlock 2 Q (.exit 2) _ _;simp only[Exit.inBlock,if_true];refine hQ S _ _ kj ju hg ?_;exact(h2.weak (e':=E2 (mb m S)) (xa.cast (pat:=[(6,.same)]) (by kernel_rfl) (by kernel_rfl))).forget rfl rfl (λp hp=>by simp at hp⊢;simp[hp]) (λp hp=>by simp at hp)
 .obtain⟨k,v,t,u,ie⟩:=hm p (List.mem_of_getElem? hp);obtain⟨pk,pv⟩:=p;simp only at ie kp;subst ie;have io:i<m.length:=(List.getElem?_eq_some_iff.1 hp).1;refine Ra (Ws kx (by rw[hc];exact kp)) ?_;rw[hl,wpOps_cons]
  have h0:=(hs.drew n).set (r:=it) (o0:=vb r m S) (by simp) (w':=Vc { w with drawn:=n } it (vb r m (S++[i]))) (zh _ _ _) (obs':=[(it,vb r m (S++[i])),(r,oa m)]) (λq hq=>by
   simp only[List.mem_cons,List.not_mem_nil,or_false]at hq;rcases hq with rfl|rfl
   .exact .inr ⟨rfl,Ah hit,rfl⟩
   .exact .inl ⟨by simp,hne⟩)
  have h1:=h0.val (d:=34) (by kernel_rfl) (v:=.tuple #[.bool true,Ha [k,v,t,u,0],.int .i64 pv]) (av:=.dead) rfl (λ_ _=>trivial);refine ra at9.2.1 ha ?_;refine Ra (ig (vs:=#[.bool true,Ha [k,v,t,u,0],.int .i64 pv]) ky (h1.k (by simp)) (v:=.bool true) (by simp)) ?_;rw[hn];have h2:=h1.val (d:=35) (by kernel_rfl) (v:=.bool true) (av:=.v .fr (.bool true)) rfl (λ_ _=>RC.bool _);refine sc _ ?_;show(nav C0 [1,1,1,1,0,1,0,0,1]).wp _ _ _ _;refine ma (c1:=nav C0 [1,1,1,1,0,1,0,0,1,0]) (c2:=nav C0 [1,1,1,1,0,1,0,0,1,1]) (by kernel_rfl) ?_;refine ld (o:=.tmp 35) (c1:=nav C0 [1,1,1,1,0,1,0,0,1,0,0]) (c2:=nav C0 [1,1,1,1,0,1,0,0,1,0,1]) (by kernel_rfl) (h2.bool (k:=.fr) (b:=true) rfl) (λht=>Md (by kernel_rfl) ?_) (λhf=>by cases hf);show(nav C0 [1,1,1,1,0,1,0,0,1,1]).wp _ _ _ _;have h3:MS (N2 it) B [] W0 F0 [(it,vb r m (S++[i])),(r,oa m)] (E2 (mb m S)) _ _:=(h2.weak (e':=E2 (mb m S)) (xa.cast (pat:=[(6,.same)]) (by kernel_rfl) (by kernel_rfl))).forget rfl rfl (λp hp=>by simp at hp⊢;simp[hp]) (λp hp=>hp);clear h0 h1 h2;generalize (a.put (some 34) _).put (some 35) _=a3 at h3⊢;generalize Vc { w with drawn:=n } it (vb r m (S++[i]))=w3 at h3⊢;refine Nc (c1:=nav C0 [1,1,1,1,0,1,0,0,1,1,0]) (id:=3) (by kernel_rfl) ?_;refine ma (c1:=nav C0 [1,1,1,1,0,1,0,0,1,1,0,0]) (c2:=nav C0 [1,1,1,1,0,1,0,0,1,1,0,1]) (by kernel_rfl) ?_;refine Gc (by kernel_rfl) fe.2.2.2.2.2.2 ?_;rw[wpOps_cons];refine ra fe.1 ho ?_;have ix:=h3.o (r:=it) (o:=vb r m (S++[i])) (by simp);have kn:=h3.o (r:=r) (o:=oa m) (by simp);have he:a3.tmps.getD 33 undef=.pointer (some ⟨it,0,none⟩):=h3.k (by simp);refine Ra (SK kq (by rw[he];exact CK kn ix hp ⟨S,rfl⟩)) ?_;rw[hh,wpOps_cons];have h4:=h3.val (d:=36) (by kernel_rfl) (v:=.tuple #[Ha [k,v,t,u,0],.int .i64 pv]) (av:=.dead) rfl (λ_ _=>trivial);refine ra fe.2.1 hu ?_;refine Ra (ig (vs:=#[Ha [k,v,t,u,0],.int .i64 pv]) kr (h4.k (by simp)) (v:=Ha [k,v,t,u,0]) (by simp)) ?_;rw[hi,wpOps_cons];have h5:=h4.val (d:=37) (by kernel_rfl) (v:=Ha [k,v,t,u,0]) (av:=.agg true [.int .i64 k,.int .i64 v,.int .i64 t,.int .i64 u,.int .i64 0]) rfl (λ_ _=>⟨[.int .i64 k,.int .i64 v,.int .i64 t,.int .i64 u,.int .i64 0],rfl,.cons (.int _ _) (.cons (.int _ _) (.cons (.int _ _) (.cons (.int _ _) (.cons (.int _ _) .nil))))⟩);refine ra fe.2.2.1 hv ?_;refine Ra (ig (vs:=#[Ha [k,v,t,u,0],.int .i64 pv]) ks (h5.k (by simp)) (v:=.int .i64 pv) (by simp)) ?_;rw[hk];have h6:=h5.val (d:=38) (by kernel_rfl) (v:=.int .i64 pv) (av:=.v .fr (.int .i64 pv)) rfl (λ_ _=>RC.int _ _)
  have h7:MS (N2 it) B [] W0 F0 [(it,vb r m (S++[i])),(r,oa m)] [(6,.box [(.acc true,.lst .row (mb m S))]),(37,.agg true [.int .i64 k,.int .i64 v,.int .i64 t,.int .i64 u,.int .i64 0]),(38,.v .fr (.int .i64 pv))] _ _:=(h6.weak (xa.cast (pat:=[(6,.same),(37,.same),(38,.same)]) (by kernel_rfl) (by kernel_rfl))).forget rfl rfl (λp hp=>by simp at hp⊢;simp[hp]) (λp hp=>hp)
  clear h4 h5 h6;generalize ((a3.put (some 36) _).put (some 37) _).put (some 38) _=a7 at h7⊢
  refine MS.suf (l:=[o10 3,o10 4,o10 5]) (i:=3) gg (keep:=[6,7,8]) (e':=[(6,.box [(.acc true,.lst .row (mb m S))]),(7,.box [(.fr,.int .i64 k),(.fr,.int .i64 v),(.fr,.int .i64 t),(.fr,.int .i64 u),(.fr,.int .i64 0)]),(8,.v .fr (.int .i64 pv))]) (ps:=[])
   (λj o hj=>by
     match j,hj with
     |0,hj=>simp at hj;subst hj;exact fe.2.2.2.1
     |1,hj=>simp at hj;subst hj;exact fe.2.2.2.2.1
     |2,hj=>simp at hj;subst hj;exact fe.2.2.2.2.2.1
     |j+3,hj=>simp at hj) (by kernel_rfl) (by kernel_rfl) trivial h7 (λa w hs=>?_)
  show(nav C0 [1,1,1,1,0,1,0,0,1,1,0,1]).wp _ _ _ _;refine ma (c1:=nav C0 [1,1,1,1,0,1,0,0,1,1,0,1,0]) (c2:=nav C0 [1,1,1,1,0,1,0,0,1,1,0,1,1]) (by kernel_rfl) ?_;refine MS.regC gg (keep:=[6,7,8,40]) (e':=[(6,.box [(.acc true,.lst .row (mb m S))]),(7,.box [(.fr,.int .i64 k),(.fr,.int .i64 v),(.fr,.int .i64 t),(.fr,.int .i64 u),(.fr,.int .i64 0)]),(8,.v .fr (.int .i64 pv)),(40,.v .fr (.bool (cmp .neq pv 0)))]) (ps:=[]) (by kernel_rfl) trivial hs (λa w hs=>?_);have kk:(S++[i]).Nodup:=List.nodup_append.2 ⟨kj,by simp,λx hx y hy e=>by simp at hy;subst hy;subst e;exact ih hx⟩
  have jb:∀j∈S++[i],j<m.length:=λj hj=>by
   rcases List.mem_append.1 hj with hj|hj
   .exact ju j hj
   .simp at hj;subst hj;exact io
  have ki:m.length - (S++[i]).length<m.length - S.length:=by
   have:=Wi kk jb;simp at this⊢;omega
  have km:=WE m S hp;refine ld (o:=.tmp 40) (c1:=nav C0 [1,1,1,1,0,1,0,0,1,1,0,1,1,0]) (c2:=nav C0 [1,1,1,1,0,1,0,0,1,1,0,1,1,1]) (by kernel_rfl) (hs.bool (k:=.fr) rfl) (λht=>?_) (λhf=>Md (by kernel_rfl) ?_)
  .have hz:pv≠0:=by
    have:(pv != 0)=true:=ht;simpa using this
   refine ma (c1:=nav C0 [1,1,1,1,0,1,0,0,1,1,0,1,1,0,0]) (c2:=nav C0 [1,1,1,1,0,1,0,0,1,1,0,1,1,0,1]) (by kernel_rfl) ?_;refine MS.regC gg (keep:=[6,7]) (e':=[(6,.box [(.acc true,.lst .row (mb m S))]),(7,.box [(.fr,.int .i64 k),(.fr,.int .i64 v),(.fr,.int .i64 t),(.fr,.int .i64 u),(.fr,.int .i64 pv)])]) (ps:=[]) (by kernel_rfl) trivial hs (λa w hs=>?_);refine MS.regC gg (keep:=[6]) (e':=E2 (mb m S++[⟨k,v,⟨t,u⟩,pv⟩])) (ps:=[lim (ba .row (mb m S)) (ba .row [⟨k,v,⟨t,u⟩,pv⟩])]) (by kernel_rfl) ⟨?_,trivial⟩ hs (λa w hs=>?_)
   .have h1:=zm m S;have h2:=Wi kj ju;show((mb m S).length:Int)+1<=1099511627776;omega
   .refine⟨S++[i],ki,kk,jb,?_⟩;rw[km,if_neg hz];exact hs
  .have hz:pv=0:=by
    have:(pv != 0)=false:=hf;simpa using this
   refine⟨S++[i],ki,kk,jb,?_⟩;rw[km,if_pos hz,List.append_nil];exact hs.weak (xa.cast (pat:=[(6,.same)]) (by kernel_rfl) (by kernel_rfl))
end Rw
namespace Rw
open Go Go.Sort Go.RowKit Go.Lib
theorem YE{N:NP}{B:Nat}{W0:World}{F0:Fz}{obs:List (Nat×Obj)}{e:Env}{a:Act}{w:World}{s:Nat}{out:List Row}(hs:MS N B [] W0 F0 obs e a w)(hg:ca e s=.box [(.acc true,.lst .row out)]) :
  ∃ Bs sl,a.tmps.getD s undef=.pointer (some ⟨Bs,0,none⟩)/\Blk w Bs [sl]/\B<=Bs/\((out=[]/\sl=.slice none 0 0)\/∃blk cap cs,sl=.slice (some ⟨blk,0,none⟩) out.length cap/\Blk w blk cs/\cs.length=cap*5/\out.length<=cap/\B<=blk/\blk≠Bs /\
    ∀i x,out[i]? = some x->∀j,j<5->cs[i*5+j]? = (encI x)[j]?):=by
 obtain⟨F,ow,hx⟩:=hs.sim.rep;obtain⟨Bs,us,hu,how,hm,_,hlen,hn⟩:=hx.box hg
 match us,hlen with
 |[sl],_=>
  have hh:B<=Bs:=(hx.bd _ _ _ how).2.elim id (λh=>by simp at h);have hk:ya F (lof B true) w (ow s (some 0)) (.lst .row out) sl:=hn 0 _ sl rfl rfl;obtain⟨ht,hd⟩:=hk;refine⟨Bs,sl,hu,hm,hh,?_⟩;rcases hd with⟨t,e1,e2⟩|⟨t,xs,blk,cap,cs,e1,e2,e3,e4,e5,e6⟩
  .left;have e1:C.lst .row out=.lst t []:=e1;cases e1;exact⟨rfl,e2⟩
  .right;have e1:C.lst .row out=.lst t xs:=e1;cases e1;have hl:B<=blk:=(hx.bd _ _ _ e3).2.elim id (λh=>by simp at h)
   have hq:blk≠Bs:=λe=>by
    subst e;have:=(hx.inj _ _ _ _ _ how e3).2;cases this
   subst e2;cases ht with
   |lst _ _ b o cap vs hb hcap hf hc hr=>
    refine⟨blk,cap,cs,rfl,e4,e5,hcap,hl,hq,λi x hi j hj=>?_⟩;have hp:=(List.getElem?_eq_some_iff.1 hi).1;have h1:=hc i j hp hj;rw[Nat.zero_add,e4.cell]at h1;have h1:cs[i*5+j]? = some (vs i j):=h1;rw[h1];have ho:(cells .row x)[j]? = some ((cells .row x)[j]'(by simp[cells];exact hj)):=List.getElem?_eq_getElem _;have h2:=hr i j x _ hi ho;rcases (show j=0\/j=1\/j=2\/j=3\/j=4 by omega) with rfl|rfl|rfl|rfl|rfl
    .have h2:RC F (lof B true) w (.int .i64 x.Key) (vs i 0):=h2;rw[RC.int_inv h2];rfl
    .have h2:RC F (lof B true) w (.int .i64 x.Val) (vs i 1):=h2;rw[RC.int_inv h2];rfl
    .have h2:RC F (lof B true) w (.int .i64 x.At.A) (vs i 2):=h2;rw[RC.int_inv h2];rfl
    .have h2:RC F (lof B true) w (.int .i64 x.At.B) (vs i 3):=h2;rw[RC.int_inv h2];rfl
    .have h2:RC F (lof B true) w (.int .i64 x.Diff) (vs i 4):=h2;rw[RC.int_inv h2];rfl
theorem holds_of{w:World}{blk cap:Nat}{cs:List Value}{out:List Row}(hb:Blk w blk cs)(hlen:cs.length=cap*5)(hcs:∀i x,out[i]? = some x->∀j,j<5->cs[i*5+j]? = (encI x)[j]?):HoldsK encI 5 w blk 0 out.toArray:=by
 have _:=hlen;intro t ht;rw[size_flatK]at ht
 have hi:t / 5<out.length:=by
  have:out.toArray.size=out.length:=by simp
  omega
 have hj:t % 5<5:=Nat.mod_lt _ (by omega);refine⟨?_,hb.frozen _⟩;rw[Nat.zero_add,hb.cell,get_flatK _ _ _ _ ht];have h1:=hcs (t / 5) out[t / 5] (List.getElem?_eq_getElem hi) (t % 5) hj;rw[show t / 5*5+t % 5=t by omega]at h1;rw[h1];have h2:out.toArray[t / 5]! = out[t / 5]:=by simp[hi]
 rw[h2];have hl:(encI out[t / 5]).length=5:=rfl;rw[List.getElem?_eq_getElem (by omega),getElem!_pos (encI out[t / 5]) (t % 5) (by omega)];rfl
theorem ZE{w:World}{n blk:Nat}{d:Array Row}{k:Nat}(h:k≠blk):(putRowK encI 5 (Sort.ahead w n) blk 0 d).heap[k]? = w.heap[k]?:=by
 show(w.heap.modify blk _)[k]? = _;rw[Array.getElem?_modify,if_neg (λe=>h e.symm)]
theorem aF{w:World}{n blk:Nat}{d:Array Row}:(putRowK encI 5 (Sort.ahead w n) blk 0 d).heap.size=w.heap.size:=by
 show(w.heap.modify blk _).size=_;simp
theorem bF{N:NP}{B:Nat}{W0:World}{F0:Fz}{obs:List (Nat×Obj)}{e:Env}{a a':Act}{w:World}{s:Nat}{out ys:List Row}(hs:MS N B [] W0 F0 obs e a w)(hL:Live F0 W0){Bs blk cap:Nat}{cs:List Value}
  (hB:Blk w Bs [.slice (some ⟨blk,0,none⟩) out.length cap]) (hBs:B<=Bs) (hb:Blk w blk cs) (hlen:cs.length=cap*5) (hcap:out.length<=cap) (hbl:B<=blk) (hne:blk≠Bs) (hH:HoldsK encI 5 w blk 0 out.toArray)
  (hy:ys.length=out.length) {n:Nat}{os:Array Obj} (hdf:a'.defers=[]) (hsz:a'.tmps.size=N.n) (htm:a'.tmps.getD s undef=.pointer (some ⟨Bs,0,none⟩)) :
  MS ⟨N.n,none,[]⟩ B [] W0 F0 [] [(s,.box [(.acc true,.lst .row ys)])] a' (grow (putRowK encI 5 (Sort.ahead w n) blk 0 ys.toArray) os):=by
 generalize hw:grow (putRowK encI 5 (Sort.ahead w n) blk 0 ys.toArray) os=w';have ih:(putRowK encI 5 (Sort.ahead w n) blk 0 ys.toArray).heap.size=w.heap.size:=aF;have hold:∀k,k<w.heap.size->k≠blk->w'.heap[k]? = w.heap[k]?:=λk hk h=>by rw[<-hw,Ce (by rw[ih];exact hk),ZE h]
 have io:w.heap.size<=w'.heap.size:=by rw[<-hw];show w.heap.size<=(_++os).size;rw[Array.size_append,ih];omega
 have it:ys.toArray.size=out.toArray.size:=by simp[hy]
 have hq:HoldsK encI 5 (putRowK encI 5 (Sort.ahead w n) blk 0 ys.toArray) blk 0 ys.toArray:=holdsK_putRowK _ _ _ blk 0 out.toArray ys.toArray (holdsK_ahead _ _ _ _ _ _ _ hH) it
 have hz:∀i x,ys[i]? = some x->∀j,j<5->w'.cell? ⟨blk,i*5+j,none⟩=(encI x)[j]?:=by
  intro i x hi j hj;have he:=(List.getElem?_eq_some_iff.1 hi).1;have h1:=(hq.cell (i:=i) (c:=j) (by simpa using he) hj).1;rw[Nat.zero_add]at h1
  have h2:w'.cell? ⟨blk,i*5+j,none⟩=(putRowK encI 5 (Sort.ahead w n) blk 0 ys.toArray).cell? ⟨blk,i*5+j,none⟩:=by
   rw[<-hw];exact cell_of_heap (Ce (by rw[ih];exact hb.lt))
  rw[h2,h1]
  have h3:ys.toArray[i]! = x:=by
   rw[List.getElem?_eq_getElem he]at hi;simp only[Option.some.injEq]at hi;simp[he,hi]
  rw[h3];have hl:(encI x).length=5:=rfl;rw[List.getElem?_eq_getElem (by omega),getElem!_pos (encI x) j (by omega)]
 have hr:∃hh,Blk w' blk hh/\hh.length=cap*5:=by
  obtain⟨t,ht⟩:=hb;refine⟨(putCells id 0 (flatK encI 5 ys.toArray) cs.toArray).toList,⟨t,?_⟩,by simp[putCells,hlen]⟩;rw[<-hw,Ce (by rw[ih];exact(Array.getElem?_eq_some_iff.1 ht).1)];show(w.heap.modify blk _)[blk]? = _;rw[Array.getElem?_modify,if_pos rfl,ht];simp[onCells]
 obtain⟨hh,hr,ha⟩:=hr;have hm:Blk w' Bs [.slice (some ⟨blk,0,none⟩) out.length cap]:=hB.same (hold Bs hB.lt (Ne.symm hne))
 have hg:∀k,k<B->w'.heap[k]? = W0.heap[k]?:=λk hk=>by
  rw[hold k (Nat.lt_of_lt_of_le hk hs.sim.base) (by omega)];exact hs.kept.block k hk (by simp)
 have hf:Kept B [] W0 w':=by
  refine⟨?_,?_,?_,Nat.le_trans hs.kept.size io,λk hk _=>hg k hk,λk o hk hc=>?_⟩
  .rw[<-hw];exact hs.kept.os
  .rw[<-hw];exact hs.kept.tape
  .rw[<-hw];exact hs.kept.output
  .rw[hg k (by rw[hs.hB];exact(Array.getElem?_eq_some_iff.1 hk).1)];exact hk
 have hp:∀b o,F0 b o->b<B:=λb o h=>by rw[hs.hB];exact hL.lt h
 let F':Fz:=λb o=>F0 b o\/(b=blk/\o<out.length*5)
 refine⟨⟨hdf,⟨hsz,(λs h=>by cases h),(λp h=>by cases h)⟩,Nat.le_trans hs.sim.base io,λb o h=>⟨hp b o h,by simp⟩,Kept.refl _ _ _,F',
  λn i=>if n=s then(match i with|none=>some Bs|some 0=>some blk|some _=>none) else none,?_⟩,hf,(λp h=>by cases h),hs.hB⟩
 refine⟨λb o h=>.inl h,λb o h=>h.imp_right (λh=>by omega),λb o h=>?_,λs1 i1 s2 i2 b h1 h2=>?_,λs1 i1 b h1=>?_,λn=>?_⟩
 .rcases h with h|⟨rfl,h⟩
  .rw[cell_of_heap (hg b (hp b o h))];exact hL b o h
  .have hi:o / 5<ys.length:=by omega
   have:=hz (o / 5) ys[o / 5] (List.getElem?_eq_getElem hi) (o % 5) (Nat.mod_lt _ (by omega));rw[show o / 5*5+o % 5=o by omega]at this;rw[this,List.getElem?_eq_getElem (by show _<5;omega)];rfl
 .by_cases e1:s1=s<;>by_cases e2:s2=s<;>simp only[e1,e2,if_true,if_false]at h1 h2
  .refine⟨by rw[e1,e2],?_⟩
   match i1,i2,h1,h2 with
   |none,none,_,_=>rfl
   |none,some 0,h1,h2=>simp at h1 h2;omega
   |some 0,none,h1,h2=>simp at h1 h2;omega
   |some 0,some 0,_,_=>rfl
   |some (_+1),_,h1,_=>simp at h1
   |none,some (_+1),_,h2=>simp at h2
   |some 0,some (_+1),_,h2=>simp at h2
  .simp at h2
  .simp at h1
  .simp at h1
 .by_cases e1:s1=s
  .simp only[e1,if_true]at h1
   match i1,h1 with
   |none,h1=>simp at h1;subst h1;exact⟨hm.lt,.inl hBs⟩
   |some 0,h1=>simp at h1;subst h1;exact⟨hr.lt,.inl hbl⟩
   |some (_+1),h1=>simp at h1
  .simp[e1]at h1
 .simp only[ca];cases hn:Nat.beq s n with
  |false=>trivial
  |true=>
   have:=Nat.eq_of_beq_eq_true hn;subst this;refine⟨Bs,[.slice (some ⟨blk,0,none⟩) out.length cap],htm,by simp,hm,λo h=>?_,rfl,λj kc u hk hu=>?_⟩
   .rcases h with h|⟨h,_⟩
    .have:=hp _ _ h;omega
    .exact hne h.symm
   .match j,hk,hu with
    |0,hk,hu=>
     simp only[List.getElem?_cons_zero,Option.some.injEq]at hk hu;subst hk;subst hu;simp only[if_true];rw[<-hy]
     refine⟨.lst .row ys blk 0 cap (λi j=>(encI (ys.getD i ⟨0,0,⟨0,0⟩,0⟩)).getD j undef) hbl (by omega) (λi j hi hj=>.inr ⟨rfl,by rw[Nat.zero_add,<-hy];exact Yf hi hj⟩) (λi j hi hj=>?_) (λi j x c hx hc=>?_),
      .inr ⟨.row,ys,blk,cap,hh,rfl,rfl,rfl,hr,ha,λo ho h=>?_⟩⟩
     .have hj:j<5:=hj;have h1:=hz i ys[i] (List.getElem?_eq_getElem hi) j hj;show w'.cell? ⟨blk,0+(i*5+j),none⟩=_;rw[Nat.zero_add,h1];have hl:(encI ys[i]).length=5:=rfl;rw[List.getElem?_eq_getElem (by omega)];simp[List.getD_eq_getElem?_getD,List.getElem?_eq_getElem hi,List.getElem?_eq_getElem (show j<(encI ys[i]).length by omega)]
     .have hv:ys.getD i ⟨0,0,⟨0,0⟩,0⟩=x:=by rw[List.getD_eq_getElem?_getD,hx];rfl
      rw[hv]
      have hj:j<5:=by
       have:=(List.getElem?_eq_some_iff.1 hc).1;simpa [cells] using this
      rcases (show j=0\/j=1\/j=2\/j=3\/j=4 by omega) with rfl|rfl|rfl|rfl|rfl<;>(simp[cells]at hc;subst hc;exact RC.int _ _)
     .rcases h with h|⟨_,h⟩
      .have:=hp _ _ h;omega
      .have ho:ys.length*5<=o:=ho;omega
    |j+1,hk,hu=>simp at hk
theorem cF{xs:List Row}{S:List Nat}(hnd:S.Nodup)(hlt:∀i∈S,i<(Sa (chI xs)).length)(hall:∀i,i<(Sa (chI xs)).length->i∈S){ys:List Row}(hp:ys.Perm (mb (Sa (chI xs)) S))
  (hso:∀i j,i<j->j<ys.length->ltI (ys.getD j ⟨0,0,⟨0,0⟩,0⟩) (ys.getD i ⟨0,0,⟨0,0⟩,0⟩)=false):ys=gathI xs:=by
 have hm:=Vi xs;generalize hM:Sa (chI xs)=m at hlt hall hp hm;have hs:(na m).Nodup:=by rw[<-hM];exact jm _
 have hS:S.Perm (List.range m.length):=(List.perm_ext_iff_of_nodup hnd List.nodup_range).2 λi=>⟨λh=>List.mem_range.2 (hlt i h),λh=>hall i (List.mem_range.1 h)⟩
 have hn:(List.range m.length).map (λi=>m.getD i (([0,0,0,0,0]:List Int),(0:Int)))=m:=by
  apply List.ext_getElem?;intro i;rw[List.getElem?_map];by_cases h:i<m.length
  .rw[List.getElem?_range h];simp[List.getD_eq_getElem?_getD,List.getElem?_eq_getElem h]
  .rw[List.getElem?_eq_none (by simpa using h),List.getElem?_eq_none (by omega)];rfl
 have ht:ys.Perm ((m.filter λp=>p.2 != 0).map mkI):=by
  refine hp.trans ?_;unfold mb;have:=((hS.map λi=>m.getD i (([0,0,0,0,0]:List Int),(0:Int))).filter λp=>p.2 != 0).map mkI;rw[hn]at this;exact this
 have hk:∀p∈m,(kI (mkI p),(mkI p).Diff)=p:=λp hp=>by
  obtain⟨k,v,t,u,h⟩:=hm.2 p hp;obtain⟨ks,c⟩:=p;simp only at h;subst h;rfl
 have hu:(ys.map λx=>(kI x,x.Diff)).Perm (m.filter λp=>p.2 != 0):=by
  have h1:=ht.map λx=>(kI x,x.Diff)
  have h2:((m.filter λp=>p.2 != 0).map mkI).map (λx=>(kI x,x.Diff))=m.filter λp=>p.2 != 0:=by
   rw[List.map_map]
   conv=>rhs;rw[<-List.map_id (m.filter λp=>p.2 != 0)]
   exact List.map_congr_left (λp hp=>hk p (List.mem_filter.1 hp).1)
  rw[h2]at h1;exact h1
 have ho:(na (ys.map λx=>(kI x,x.Diff))).Nodup:=by
  have h1:(na (m.filter λp=>p.2 != 0)).Nodup:=hs.sublist (List.Sublist.map _ List.filter_sublist);exact(hu.map (λp:List Int×Int=>p.1)).nodup_iff.2 h1
 have hh:Asc (ys.map λx=>(kI x,x.Diff)):=by
  refine List.pairwise_iff_getElem.2 ?_;intro i j hi hj hl;simp only[List.length_map]at hi hj;simp only[List.getElem_map];have h1:=hso i j hl hj;rw[List.getD_eq_getElem?_getD,List.getD_eq_getElem?_getD,List.getElem?_eq_getElem hi,List.getElem?_eq_getElem hj]at h1;simp only[Option.getD_some]at h1
  have hq:kI ys[i]≠kI ys[j]:=by
   intro e;have h2:(na (ys.map λx=>(kI x,x.Diff)))[i]'(by simp[na];exact hi)=(na (ys.map λx=>(kI x,x.Diff)))[j]'(by simp[na];exact hj):=by simpa [na] using e
   exact absurd h2 (List.pairwise_iff_getElem.1 ho i j (by simp[na];exact hi) (by simp[na];exact hj) hl)
  simp only[ltI,ltT,Bool.or_eq_false_iff,Bool.and_eq_false_iff,decide_eq_false_iff_not]at h1;have hr:¬ (ys[i].Key=ys[j].Key/\ys[i].Val=ys[j].Val/\ys[i].At.A=ys[j].At.A/\ys[i].At.B=ys[j].At.B):=λ⟨a,b,c,d⟩=>hq (by simp[kI,a,b,c,d]);simp only[kI,ltK,Bool.or_eq_true,Bool.and_eq_true,decide_eq_true_eq];omega
 have hg:(ys.map λx=>(kI x,x.Diff))=qc (chI xs):=by
  unfold qc;rw[hM];have hv:=hu.trans (lm (m.filter λp=>p.2 != 0)).symm;refine uE hv hh (Ts (n:=5) (hs.sublist (List.Sublist.map _ List.filter_sublist)) (λp hp=>hm.1 p (List.mem_filter.1 hp).1))
 unfold gathI;rw[<-hg,List.map_map]
 conv=>lhs;rw[<-List.map_id ys]
 exact List.map_congr_left (λx _=>by cases x;rfl)
end Rw
namespace Rw
open Go Go.Proofs Go.Shelf Go.RowKit Go.Lib Go.Sort
theorem tT{P:Program}{a:Act}{w:World}{o:Oper}{t x y:Nat}(hop:o.op=.indexAddr t (.tmp x) (.tmp y)){b f len cap n:Nat}(hx:a.tmps.getD x undef=.slice (some ⟨b,f,none⟩) len cap)(hy:a.tmps.getD y undef=.int .i64 n)(hn:n<len)
  {e sz:Nat} (he:P.underlying t=some (.slice e)) (hz:∀w,(sizeOf e).run P w=.ok sz w):(execOp a.eval o).run P w=.ok (.value (.pointer (some ⟨b,f+n*sz,none⟩))) w:=by
 obtain⟨hh,op,ty,pos,aft,gd⟩:=o;simp only[]at hop;subst hop;refine Ld (s:=Instr.indexAt t (a.tmps.getD x undef) (a.tmps.getD y undef)) rfl ?_;rw[hx,hy];have:=Tl he hz (w:=w) (b:=b) (o:=f) (len:=len) (cap:=cap) (k:=.i64) (i:=(n:Int)) (by omega) (by omega);simpa using this
theorem tah{P:Program}{a:Act}{w:World}{o:Oper}{v:Value}(hop:o.op=.assign (.const v)):(execOp a.eval o).run P w=.ok (.value v) w:=by
 obtain⟨hh,op,ty,pos,aft,gd⟩:=o;simp only[]at hop;subst hop;rfl
theorem uah{P:Program}{a:Act}{w:World}{o:Oper}{f x y t u:Nat}{fn:Func}(hop:o.op=.call ⟨.value (.func f),#[.tmp x,.tmp y],#[t,u]⟩)(hfn:P.funcs[f]? = some fn)(hname:(fn.name == "runtime.NumGoroutine")=false)(hbody:fn.body.isNone=false) :
  (execOp a.eval o).run P w=.ok (.enter f #[a.tmps.getD x undef,a.tmps.getD y undef]) w:=by
 obtain⟨hh,op,ty,pos,aft,gd⟩:=o;simp only[]at hop;subst hop;have hj:¬ fn.name="runtime.NumGoroutine":=by simpa using hname
 have hi:¬ fn.body=none:=by intro e;rw[e]at hbody;simp at hbody
 simp[execOp,resolve,Act.eval,Deferred.ofValue,invoke,callFunc,hfn,hj,hi]
noncomputable def cL:Code:=ee Tryz.f137
noncomputable def oL(i:Nat):Oper:=opN (opsOf (nav cL [1,0])) i
theorem opL:(∀i,i<9->(oL i).dst=some (6+i)/\(oL i).guard=none)/\(oL 9).dst=some 5/\(oL 9).guard=none /\
  (oL 0).op=.load 28 (.tmp 2)/\(oL 1).op=.move (.tmp 0)/\(oL 2).op=.indexAddr 28 (.tmp 6) (.tmp 7)/\(oL 3).op=.load 48 (.tmp 8)/\(oL 4).op=.load 28 (.tmp 2)/\(oL 5).op=.move (.tmp 1) /\
  (oL 6).op=.indexAddr 28 (.tmp 10) (.tmp 11)/\(oL 7).op=.load 48 (.tmp 12)/\(oL 8).op=.call ⟨.value (.func 66),#[.tmp 9,.tmp 13],#[48, 48]⟩/\(oL 9).op=.assign (.tmp 14):=by
 refine⟨λi hi=>?_,by kernel_rfl,by kernel_rfl,by kernel_rfl,by kernel_rfl,by kernel_rfl,by kernel_rfl,by kernel_rfl,by kernel_rfl,by kernel_rfl,by kernel_rfl,by kernel_rfl,by kernel_rfl⟩;rcases (show i=0\/i=1\/i=2\/i=3\/i=4\/i=5\/i=6\/i=7\/i=8 by omega) with rfl|rfl|rfl|rfl|rfl|rfl|rfl|rfl|rfl<;>exact⟨by kernel_rfl,by kernel_rfl⟩
theorem tdT:Cb Tryz.prog 28 ⟨.slice 48,1,[.nl .row],some .lrow,false⟩:=Be.td _ _ (by kernel_rfl)
def yC(x:Row):Value:=.agg (encI x).toArray
structure JL(a0:Act)(w1:World)(V:Nat->Value)(L:Nat->Bool)(a:Act)(w:World):Prop where
 df:a.defers=[]
 sz:a.tmps.size=a0.tmps.size
 vs:∀i,i<9->L i=true->a.tmps.getD (6+i) undef=V i
 r5:L 9=true->a.tmps.getD 5 undef=V 8
 ot:∀n,n<5->a.tmps.getD n undef=a0.tmps.getD n undef
 wd:∃q,w=later w1 q
theorem JL.put{a0:Act}{w1:World}{V:Nat->Value}{L:Nat->Bool}{a:Act}{w w':World}(h:JL a0 w1 V L a w)(h15:a0.tmps.size=15){i:Nat}(hi:i<9)(hL9:L 9=false)(hw:∃q,w'=later w1 q):JL a0 w1 V (λj=>if j=i then true else L j) (a.put (some (6+i)) (V i)) w':=by
 have hs:6+i<a.tmps.size:=by rw[h.sz];omega
 refine⟨h.df,by rw[xe];exact h.sz,λj hj hL=>?_,λh9=>?_,λn hn=>?_,hw⟩
 .rw[Ga a _ _ hs];by_cases e:j=i
  .rw[if_pos (by omega),e]
  .rw[if_neg (by omega)];exact h.vs j hj (by simpa [e] using hL)
 .have e:¬ (9=i):=by omega
  simp[e,hL9]at h9
 .rw[Ga a _ _ hs,if_neg (by omega)];exact h.ot n hn
set_option maxHeartbeats 1600000 in
theorem JE(blk off c Bs size:Nat)(W:World)(G:Nat->Row)(hs:W.cell? ⟨Bs,0,none⟩=some (.slice (some ⟨blk,off,none⟩) size c))(hb1:blk<W.heap.size)(hb2:Bs<W.heap.size)
  (hk:∀t,t<size->∀j u,(encI (G t))[j]? = some u->W.cell? ⟨blk,off+t*5+j,none⟩=some u) (i j:Nat) (hi:i<size) (hj:j<size) :
  Calls Tryz.prog 137 #[.int .i64 i,.int .i64 j,.pointer (some ⟨Bs,0,none⟩)] W λe w'=>e=.returned (.bool (ltI (G i) (G j)))/\∃q,w'=later W q:=by
 obtain⟨ha,hz,hc,p0,p1,p2,p3,p4,p5,p6,p7,p8,p9⟩:=opL;refine calls_of_wp (fn:=Tryz.f137) (c:=cL) (by kernel_rfl) (by kernel_rfl) ?_;refine ma (c1:=nav cL [0]) (c2:=nav cL [1]) (by kernel_rfl) ?_;refine Gc (l:=[0]) (by kernel_rfl) (by kernel_rfl) ?_;rw[wpOps_cons];refine ra (o:=opN (opsOf (nav cL [0])) 0) (by kernel_rfl) (by kernel_rfl) ?_;refine Ra (tah (v:=.bool false) (by kernel_rfl)) ?_;rw[show(opN (opsOf (nav cL [0])) 0).dst=some 5 by kernel_rfl];refine sc _ ?_;show(nav cL [1]).wp _ _ _ _;refine ma (c1:=nav cL [1,0]) (c2:=nav cL [1,1]) (by kernel_rfl) ?_;generalize hA0:({ tmps:=#[.int .i64 i,.int .i64 j,.pointer (some ⟨Bs,0,none⟩)]++Array.replicate ((Tryz.f137).ntmps - (#[.int .i64 i,.int .i64 j,.pointer (some ⟨Bs,0,none⟩)]:Array Value).size) undef,defers:=[] }:Act)=A0;have hh:A0.tmps.size=15:=by rw[<-hA0];kernel_rfl
 have z0:A0.tmps.getD 0 undef=.int .i64 i:=by rw[<-hA0];kernel_rfl
 have z1:A0.tmps.getD 1 undef=.int .i64 j:=by rw[<-hA0];kernel_rfl
 have z2:A0.tmps.getD 2 undef=.pointer (some ⟨Bs,0,none⟩):=by rw[<-hA0];kernel_rfl
 have zd:A0.defers=[]:=by rw[<-hA0]
 clear hA0;have hy:nav cL [1,0]=.region (Gg (nav cL [1,0])) (opsOf (nav cL [1,0])) true:=by kernel_rfl
 have hsz:(opsOf (nav cL [1,0])).size=10:=by kernel_rfl
 generalize hA1:A0.put (some 5) (.bool false)=A1;have ie:A1.tmps.size=15:=by rw[<-hA1,xe];exact hh
 have y0:A1.tmps.getD 0 undef=.int .i64 i:=by rw[<-hA1,Ga A0 _ _ (by omega),if_neg (by omega)];exact z0
 have y1:A1.tmps.getD 1 undef=.int .i64 j:=by rw[<-hA1,Ga A0 _ _ (by omega),if_neg (by omega)];exact z1
 have y2:A1.tmps.getD 2 undef=.pointer (some ⟨Bs,0,none⟩):=by rw[<-hA1,Ga A0 _ _ (by omega),if_neg (by omega)];exact z2
 have yd:A1.defers=[]:=by rw[<-hA1];exact zd
 clear hA1 z0 z1 z2 zd;let V:Nat->Value:=fun|0=>.slice (some ⟨blk,off,none⟩) size c|1=>.int .i64 i|2=>.pointer (some ⟨blk,off+i*5,none⟩)|3=>yC (G i)|4=>.slice (some ⟨blk,off,none⟩) size c|5=>.int .i64 j|6=>.pointer (some ⟨blk,off+j*5,none⟩)|7=>yC (G j)|_=>.bool (ltI (G i) (G j));have ix:∀w,(sizeOf 48).run Tryz.prog w=.ok 5 w:=λw=>by kernel_rfl
 have hv:∀(q:Ln) {b:Nat} (n:Nat),b<W.heap.size->(later { W with drawn:=W.drawn+1 } q).cell? ⟨b,n,none⟩=W.cell? ⟨b,n,none⟩:=λq b n hb=>by
  rw[NS (w:={ W with drawn:=W.drawn+1 }) (by exact hb)];rfl
 suffices H:∀QQ:Exit->Act->World->Prop,(∀L a w,(∀i,i<10->L i=true)->JL A1 { W with drawn:=W.drawn+1 } V L a w->QQ .normal a w)->(nav cL [1,0]).wp Tryz.prog QQ A1 W by
  refine H _ λL a' w' ht hJ=>?_;show(nav cL [1,1]).wp _ _ _ _;refine Pi (by kernel_rfl) ?_;obtain⟨q,rfl⟩:=hJ.wd;refine⟨hJ.df,a'.tmps.getD 5 undef,by kernel_rfl,?_,⟨1,#[]⟩+q,?_⟩
  .exact congrArg Ending.returned (hJ.r5 (ht 9 (by omega)))
  .rw[<-nb];rfl
 intro QQ hr;rw[hy];refine wp_region_any gg.hm ?_;refine gE (J:=JL A1 { W with drawn:=W.drawn+1 } V) (by kernel_rfl) ?_ ?_ (opsOf (nav cL [1,0])).size _ A1 _ (by simp) (by simp) ?_ ?_
 .intro L a' w' k o hf hq hE hw hJ next hn;have hg:k<10:=by have:=(Array.getElem?_eq_some_iff.1 hf).1;omega
  have ho:o=oL k:=(Vj hf).symm;have hl:∀m,Hg (oL k) m=true->L m=true:=λm hm=>Uj (by rw[<-ho];exact hE) hm
  have hC:∀k m,k<10->L k=true->Hg (oL k) m=true->L m=true:=λk m hk hL hm=>by
   have ih:k<(opsOf (nav cL [1,0])).size:=by omega
   exact Uj (λe he hb=>hw k (oL k) (by have:=Array.getElem?_eq_getElem ih;rw[this];exact congrArg some (Vj this).symm) hL e he hb) hm
  obtain⟨q,rfl⟩:=hJ.wd;have t0:a'.tmps.getD 0 undef=.int .i64 i:=by rw[hJ.ot 0 (by omega)];exact y0
  have t1:a'.tmps.getD 1 undef=.int .i64 j:=by rw[hJ.ot 1 (by omega)];exact y1
  have t2:a'.tmps.getD 2 undef=.pointer (some ⟨Bs,0,none⟩):=by rw[hJ.ot 2 (by omega)];exact y2
  have hp:k<9->L 9=false:=λhk9=>by
   cases h:L 9 with
   |false=>rfl
   |true=>
    have h9:∀m,m<9->Hg (oL 9) m=true:=λm hm=>by
     rcases (show m=0\/m=1\/m=2\/m=3\/m=4\/m=5\/m=6\/m=7\/m=8 by omega) with rfl|rfl|rfl|rfl|rfl|rfl|rfl|rfl|rfl<;>kernel_rfl
    rw[hC 9 k (by omega) h (h9 k hk9)]at hq;cases hq
  have ju:∀(hi:k<9),(execOp a'.eval (oL k)).run Tryz.prog (later { W with drawn:=W.drawn+1 } q)=.ok (.value (V k)) (later { W with drawn:=W.drawn+1 } q)->wpOp Tryz.prog (opsOf (nav cL [1,0])) QQ k next a' (later { W with drawn:=W.drawn+1 } q):=by
   intro hi io;refine ra hf (by rw[ho];exact(ha k hi).2) ?_;rw[ho];refine Ra io ?_;rw[(ha k hi).1];exact hn _ _ (hJ.put ie hi (hp hi) ⟨q,rfl⟩)
  rcases (show k=0\/k=1\/k=2\/k=3\/k=4\/k=5\/k=6\/k=7\/k=8\/k=9 by omega) with rfl|rfl|rfl|rfl|rfl|rfl|rfl|rfl|rfl|rfl
  .exact ju (by omega) (Ff p0 t2 tdT rfl (by rw[hv q 0 hb2];exact hs))
  .exact ju (by omega) (by rw[Ae p1,t0];rfl)
  .exact ju (by omega) (tT p2 (hJ.vs 0 (by omega) (hl 0 (by kernel_rfl))) (hJ.vs 1 (by omega) (hl 1 (by kernel_rfl))) hi (e:=48) (by kernel_rfl) ix)
  .exact ju (by omega) (ZI p3 (hJ.vs 2 (by omega) (hl 2 (by kernel_rfl))) tdE rfl rfl (λm u hu=>by rw[hv q _ hb1];exact hk i hi m u hu))
  .exact ju (by omega) (Ff p4 t2 tdT rfl (by rw[hv q 0 hb2];exact hs))
  .exact ju (by omega) (by rw[Ae p5,t1];rfl)
  .exact ju (by omega) (tT p6 (hJ.vs 4 (by omega) (hl 4 (by kernel_rfl))) (hJ.vs 5 (by omega) (hl 5 (by kernel_rfl))) hj (e:=48) (by kernel_rfl) ix)
  .exact ju (by omega) (ZI p7 (hJ.vs 6 (by omega) (hl 6 (by kernel_rfl))) tdE rfl rfl (λm u hu=>by rw[hv q _ hb1];exact hk j hj m u hu))
  .refine ra hf (by rw[ho];exact(ha 8 (by omega)).2) ?_;rw[ho];unfold Oper.wp;rw[uah p8 (fn:=Tryz.f66) (by kernel_rfl) (by kernel_rfl) (by kernel_rfl),Oper.upon_enter,show a'.tmps.getD 9 undef=yC (G i) from hJ.vs 3 (by omega) (hl 3 (by kernel_rfl)),show a'.tmps.getD 13 undef=yC (G j) from hJ.vs 7 (by omega) (hl 7 (by kernel_rfl))];refine(sah (G i) (G j) _).mono ?_;rintro e w' ⟨rfl,q',rfl⟩;show next _ _;rw[(ha 8 (by omega)).1];exact hn _ _ (hJ.put ie (by omega) (hp (by omega)) ⟨_,nb _ _ _⟩)
  .refine ra hf (by rw[ho];exact hc) ?_;rw[ho];refine Ra (Us p9) ?_;have h8:a'.tmps.getD 14 undef=V 8:=hJ.vs 8 (by omega) (hl 8 (by kernel_rfl));rw[hz,h8];have it:5<a'.tmps.size:=by rw[hJ.sz];omega
   refine hn _ _ ⟨hJ.df,by rw[xe];exact hJ.sz,λm hm hL=>?_,λ_=>?_,λn hn=>?_,q,rfl⟩
   .rw[Ga a' _ _ it,if_neg (by omega)];exact hJ.vs m hm (by simpa [show m≠9 by omega] using hL)
   .rw[Ga a' _ _ it,if_pos rfl]
   .rw[Ga a' _ _ it,if_neg (by omega)];exact hJ.ot n hn
 .intro L a' w' ht hJ;exact hr L a' w' (λi hi=>ht i (by omega)) hJ
 .intro k o ho hL;simp only[Array.getD_eq_getD_getElem?]at hL;by_cases hi:k<(opsOf (nav cL [1,0])).size
  .simp[hi]at hL
  .simp[hi]at hL
 .refine⟨yd,rfl,λk hk hL=>?_,λhL=>?_,λn _=>rfl,⟨0,(re _).symm⟩⟩
  .simp only[Array.getD_eq_getD_getElem?]at hL;simp[hsz,show k<10 by omega]at hL
  .simp[Array.getD_eq_getD_getElem?,hsz]at hL
theorem ME(blk off c Bs:Nat)(d:Array Row)(hsz:d.size<4611686018427387904)(w:World)(hH:HoldsK encI 5 w blk off d)(hblk:blk<w.heap.size)
  (hBs:w.cell? ⟨Bs,0,none⟩=some (.slice (some ⟨blk,off,none⟩) d.size c)) (hB1:Bs<w.heap.size) (hB2:Bs≠blk) :
  Calls Tryz.prog 84 #[.iface 28 (.slice (some ⟨blk,off,none⟩) d.size c),.func (.func 137) #[] #[.pointer (some ⟨Bs,0,none⟩)]] w λe w'=>
   e=.returned (.tuple #[])/\∃(d':Array Row) (n:Nat) (os:Array Obj),d'.toList.Perm d.toList/\(∀i j,i<j->j<d'.size->ltI d'[j]! d'[i]! = false)/\w'=grow (putRowK encI 5 (Sort.ahead w n) blk off d') os:=by
 by_cases h2:2<=d.size
 .have hm:LessReadsK Tryz.prog 137 #[.pointer (some ⟨Bs,0,none⟩)] encI 5 ltI blk off d.size w:=by
   intro m os dk hs i j hi hj
   have e:sortWorldK encI 5 w blk off m dk os=putRowK encI 5 (grow (Sort.ahead w m) os) blk off dk:=by
    unfold sortWorldK;rw[putRowK_grow _ _ (Sort.ahead w m) _ blk off _ hblk]
   have hh:HoldsK encI 5 (grow (Sort.ahead w m) os) blk off d:=holdsK_grow _ _ _ _ blk off d hblk (holdsK_ahead _ _ _ _ _ _ _ hH)
   have hn:w.heap.size<=(sortWorldK encI 5 w blk off m dk os).heap.size:=by
    rw[e,size_putRowK,size_grow];exact Nat.le_add_right _ _
   refine JE blk off c Bs d.size _ (λt=>dk[t]!) ?_ (by omega) (by omega) (λt ht k u hu=>?_) i j hi hj
   .rw[e,cell?_putRowK_other _ _ _ blk off dk _ (by exact hB2),cell?_grow _ _ _ (by exact hB1)];exact hBs
   .have hl:k<5:=by
     have:=(List.getElem?_eq_some_iff.1 hu).1;simpa [encI] using this
    rw[e];have:=((holdsK_putRowK _ _ _ blk off d dk hh hs).cell (i:=t) (c:=k) (by omega) hl).1;rw[this];rcases (show k=0\/k=1\/k=2\/k=3\/k=4 by omega) with rfl|rfl|rfl|rfl|rfl<;>simpa [encI] using hu
  refine(Any.sort_Slice_cells_sorted sl6 28 48 svT svE (by kernel_rfl) (by kernel_rfl) (by kernel_rfl) (by kernel_rfl) 25 (λ_=>by kernel_rfl) encI 5 (λ_=>rfl) (by kernel_rfl) (λ_=>by kernel_rfl)
   (λx v hv=>by simp[encI]at hv;rcases hv with rfl|rfl|rfl|rfl|rfl<;>rfl) ltI IE 137 _
   (enters_of Tryz.func137 (by kernel_rfl) rfl) blk off c d h2 hsz 150 (by rw[LE _ h2];kernel_rfl) false
   (λargs W=>run_callFunc_extern Tryz.func150 (by kernel_rfl) (by kernel_rfl) (by kernel_rfl) (e:=Extern.ReflectliteSwapper.swap false) (by kernel_rfl) args W) w hm hH hblk).mono ?_
  rintro e w' ⟨rfl,d',n,os,hp,hs,rfl⟩;refine⟨rfl,d',n,os,?_,λi j hij hj=>hs i j (Nat.zero_le _) hij (by rw[<-hp.1];exact hj),rfl⟩;have h3:=hp.2.2;have h4:d'.extract 0 d.size=d':=by rw[<-hp.1];simp
  rw[h4]at h3;simpa using h3
 .have hK:∃k,Tryz.prog.funcs.findIdx? (·.name == "internal/reflectlite"++".Swapper$"++toString (Lib.swapperK d.size svE 25))=some k:=by
   rcases Nat.lt_or_ge d.size 1 with h|h
   .have hd:d.size=0:=by omega
    exact⟨142,by rw[hd,show Lib.swapperK 0 svE 25=1 by kernel_rfl];kernel_rfl⟩
   .have hd:d.size=1:=by omega
    exact⟨143,by rw[hd,show Lib.swapperK 1 svE 25=2 by kernel_rfl];kernel_rfl⟩
  obtain⟨k,hk⟩:=hK;refine(Any.sort_Slice_tiny sl6 28 48 svT svE (by kernel_rfl) (by kernel_rfl) (by kernel_rfl) (by kernel_rfl) 25 (λ_=>by kernel_rfl) (some ⟨blk,off,none⟩) d.size c (by omega) k hk (.func 137) #[] _ w).mono ?_;rintro e w' ⟨rfl,os,rfl⟩;refine⟨rfl,d,0,os,.refl _,λi j hij hj=>by omega,?_⟩;rw[show Sort.ahead w 0=w from rfl,putRowK_self encI 5 w blk off d hH]
end Rw
namespace Rw
open Go Go.Sort Go.RowKit Go.Lib
theorem dF:(o14 0).op=.load 28 (.tmp 6)/\(o14 0).dst=some 47/\(o14 0).guard=none/\(o14 1).op=.makeInterface 28 (.tmp 47)/\(o14 1).dst=some 48/\(o14 1).guard=none /\
  (o14 2).op=.makeFunc (.func 137) #[] #[.tmp 6]/\(o14 2).dst=some 49/\(o14 2).guard=none/\(o14 3).op=.call ⟨.value (.func 84),#[.tmp 48,.tmp 49],#[20, 98]⟩/\(o14 3).dst=some 50/\(o14 3).guard=none:=by
 refine⟨by kernel_rfl,by kernel_rfl,by kernel_rfl,by kernel_rfl,by kernel_rfl,by kernel_rfl,by kernel_rfl,by kernel_rfl,by kernel_rfl,by kernel_rfl,by kernel_rfl,by kernel_rfl⟩
theorem Hf:(opsOf (nav C0 [1,1,1,1,1,0]))[0]? = some (o14 0)/\(opsOf (nav C0 [1,1,1,1,1,0]))[1]? = some (o14 1)/\(opsOf (nav C0 [1,1,1,1,1,0]))[2]? = some (o14 2)/\(opsOf (nav C0 [1,1,1,1,1,0]))[3]? = some (o14 3) /\
 List.range (opsOf (nav C0 [1,1,1,1,1,0])).size=[0,1,2,3]:=⟨by kernel_rfl,by kernel_rfl,by kernel_rfl,by kernel_rfl,by kernel_rfl⟩
theorem fF{a:Act}{w:World}{o:Oper}(hop:o.op=.load 28 (.tmp 6)){Bs:Nat}{sl:Value}(hx:a.tmps.getD 6 undef=.pointer (some ⟨Bs,0,none⟩))(hb:Blk w Bs [sl]):(execOp a.eval o).run Tryz.prog w=.ok (.value sl) w:=Ff hop hx tdT rfl (by rw[hb.cell];rfl)
set_option maxRecDepth 20000 in
theorem gF{out:List Row}(hlen:out.length<=1099511627776){Q:Exit->Act->World->Prop}{B:Nat}{W0:World}{F0:Fz}(hL:Live F0 W0){a:Act}{w:World}(hs:MS ⟨52,none,[]⟩ B [] W0 F0 [] (E2 out) a w)
  (hQ:∀ys a w,ys.Perm out->(∀i j,i<j->j<ys.length->ltI (ys.getD j ⟨0,0,⟨0,0⟩,0⟩) (ys.getD i ⟨0,0,⟨0,0⟩,0⟩)=false)->MS ⟨52,none,[]⟩ B [] W0 F0 [] (E2 ys) a w->Q .normal a w):(nav C0 [1,1,1,1,1,0]).wp Tryz.prog Q a w:=by
 obtain⟨p0,d0,g0,p1,d1,g1,p2,d2,g2,p3,d3,g3⟩:=dF;obtain⟨Bs,sl,h6,hB,ho,hu⟩:=YE (s:=6) hs rfl;have hsz:a.tmps.size=52:=hs.sim.tmps.size;refine Gc (by kernel_rfl) Hf.2.2.2.2 ?_;rw[wpOps_cons];refine ra Hf.1 g0 ?_;refine Ra (fF p0 h6 hB) ?_;rw[d0,wpOps_cons];refine ra Hf.2.1 g1 ?_;refine Ra (UK p1 (e:=48) (by kernel_rfl)) ?_;rw[d1,wpOps_cons];refine ra Hf.2.2.1 g2 ?_;refine Ra (VK p2) ?_;rw[d2,wpOps_cons];refine ra Hf.2.2.2.1 g3 ?_;have hm:(a.put (some 47) sl).tmps.getD 47 undef=sl:=by rw[Ga a 47 sl (by omega),if_pos rfl]
 rw[hm];generalize ha1:a.put (some 47) sl=a1;have s1:a1.tmps.size=52:=by rw[<-ha1,xe,hsz]
 have t1:a1.tmps.getD 6 undef=.pointer (some ⟨Bs,0,none⟩):=by rw[<-ha1,Ga a 47 sl (by omega),if_neg (by omega)];exact h6
 have hh:a1.defers=[]:=by rw[<-ha1];exact hs.sim.defers
 generalize ha2:a1.put (some 48) (.iface 28 sl)=a2;have s2:a2.tmps.size=52:=by rw[<-ha2,xe,s1]
 have t2:a2.tmps.getD 6 undef=.pointer (some ⟨Bs,0,none⟩):=by rw[<-ha2,Ga a1 48 _ (by omega),if_neg (by omega)];exact t1
 have v2:a2.tmps.getD 48 undef=.iface 28 sl:=by rw[<-ha2,Ga a1 48 _ (by omega),if_pos rfl]
 have hi:a2.defers=[]:=by rw[<-ha2];exact hh
 rw[t2];generalize ha3:a2.put (some 49) (.func (.func 137) #[] #[.pointer (some ⟨Bs,0,none⟩)])=a3;have s3:a3.tmps.size=52:=by rw[<-ha3,xe,s2]
 have t3:a3.tmps.getD 6 undef=.pointer (some ⟨Bs,0,none⟩):=by rw[<-ha3,Ga a2 49 _ (by omega),if_neg (by omega)];exact t2
 have v3:a3.tmps.getD 48 undef=.iface 28 sl:=by rw[<-ha3,Ga a2 49 _ (by omega),if_neg (by omega)];exact v2
 have u3:a3.tmps.getD 49 undef=.func (.func 137) #[] #[.pointer (some ⟨Bs,0,none⟩)]:=by rw[<-ha3,Ga a2 49 _ (by omega),if_pos rfl]
 have hl:a3.defers=[]:=by rw[<-ha3];exact hi
 unfold Oper.wp;rw[SL p3 bk.1 bk.2.1 bk.2.2,Oper.upon_enter,v3,u3];have s4:∀v,(a3.put (some 50) v).tmps.size=52:=λv=>by rw[xe,s3]
 have t4:∀v,(a3.put (some 50) v).tmps.getD 6 undef=.pointer (some ⟨Bs,0,none⟩):=λv=>by rw[Ga a3 50 _ (by omega),if_neg (by omega)];exact t3
 rcases hu with⟨rfl,rfl⟩|⟨blk,cap,cs,rfl,hb,hv,ht,hr,ha,hw⟩
 .have hK : Tryz.prog.funcs.findIdx? (·.name == "internal/reflectlite"++".Swapper$"++toString (Lib.swapperK 0 svE 25))=some 142:=by
   rw[show Lib.swapperK 0 svE 25=1 by kernel_rfl];kernel_rfl
  refine(Any.sort_Slice_tiny sl6 28 48 svT svE (by kernel_rfl) (by kernel_rfl) (by kernel_rfl) (by kernel_rfl) 25 (λ_=>by kernel_rfl) none 0 0 (by omega) 142 hK (.func 137) #[] _ w).mono ?_;rintro e w' ⟨rfl,os,rfl⟩;show wpOps _ _ _ _ _ _;rw[d3];refine sc _ (hQ [] _ _ (.refl _) (λi j _ h=>by simp at h) ?_);have hg:Pa (λ_ _=>False) w (λ_ _=>False) (grow w os):=⟨rfl,rfl,rfl,by show w.heap.size<=(w.heap++os).size;simp,λk hk=>Ce hk,λ_ _ h=>h,λ_ _ h=>.inl h⟩;obtain⟨F,ow,hx⟩:=hs.sim.rep
  have ih:ga B [] F0 (E2 []) (λn=>a.tmps.getD n undef) (grow w os) F ow:=hx.grow hs.sim.base ⟨hg.os,hg.tape,hg.output,hg.size,hg.block,λ_ _ h=>h,λ_ _ h=>.inl h⟩ (λb o h=>by
   rw[cell_of_heap (Ce ((show Live F w from hx.live).lt h))];exact hx.live b o h)
  have hc:Sim ⟨52,none,[]⟩ B [] w F0 (E2 []) a (grow w os):=⟨hs.sim.defers,hs.sim.tmps,hs.sim.base,hs.sim.f0,⟨rfl,rfl,rfl,hg.size,λk hk _=>Ce (Nat.lt_of_lt_of_le hk hs.sim.base),λk o hk _=>by
   rw[Ce (Array.getElem?_eq_some_iff.1 hk).1];exact hk⟩,F,ow,ih⟩
  have hz:=hs.of_sim hc;refine hz.tmps (D:=[47,48,49,50]) (by kernel_rfl) (λd hd=>?_) rfl (by rw[show(a3.put (some 50) _).defers=a3.defers from rfl];exact hl) (by rw[s4,hsz]) (λn hn=>?_)
  .simp at hd;rcases hd with rfl|rfl|rfl|rfl<;>exact⟨rfl,rfl⟩
  .simp at hn;rw[Ga a3 50 _ (by omega),if_neg (by omega),<-ha3,Ga a2 49 _ (by omega),if_neg (by omega),<-ha2,Ga a1 48 _ (by omega),if_neg (by omega),<-ha1,Ga a 47 _ (by omega),if_neg (by omega)]
 .have hH:=holds_of hb hv hw;have hd:out.toArray.size=out.length:=by simp
  have hf:=ME blk 0 cap Bs out.toArray (by rw[hd];omega) w hH hb.lt (by rw[hd,hB.cell];rfl) hB.lt (Ne.symm ha);rw[hd]at hf;refine hf.mono ?_;rintro e w' ⟨rfl,d',n,os,hp,he,rfl⟩;show wpOps _ _ _ _ _ _;rw[d3];have hp:d'.toList.Perm out:=by simpa using hp
  have hq:=bF (a':=a3.put (some 50) (.tuple #[])) (s:=6) (ys:=d'.toList) (n:=n) (os:=os) hs hL hB ho hb hv ht hr ha hH hp.length_eq hl (s4 _) (t4 _);rw[Array.toArray_toList]at hq;refine sc _ (hQ d'.toList _ _ hp (λi j hij hj=>?_) hq);have hy:j<d'.size:=by simpa using hj
  have:=he i j hij hy;rw[getElem!_pos d' j hy,getElem!_pos d' i (by omega)]at this;rw[List.getD_eq_getElem?_getD,List.getD_eq_getElem?_getD,List.getElem?_eq_getElem hj,List.getElem?_eq_getElem (show i<d'.toList.length by simp;omega)];simpa using this
end Rw
namespace Rw
open Go
theorem op1:(o1 0).op=.makeMap 137 none/\(o1 0).dst=some 9/\(o1 0).guard=none/\(o1 1).op=.assign (.tmp 9)/\(o1 1).dst=some 3/\(o1 1).guard=none /\
  (o8 0).op=.move (.tmp 3)/\(o8 0).dst=some 32/\(o8 0).guard=none/\(o8 1).op=.range 137 (.tmp 32)/\(o8 1).dst=some 33/\(o8 1).guard=none:=by
 refine⟨by kernel_rfl,by kernel_rfl,by kernel_rfl,by kernel_rfl,by kernel_rfl,by kernel_rfl,by kernel_rfl,by kernel_rfl,by kernel_rfl,by kernel_rfl,by kernel_rfl,by kernel_rfl⟩
theorem at1:(opsOf (nav C0 [1,0]))[0]? = some (o1 0)/\(opsOf (nav C0 [1,0]))[1]? = some (o1 1)/\List.range (opsOf (nav C0 [1,0])).size=[0,1] /\
 (opsOf (nav C0 [1,1,1,1,0,0]))[0]? = some (o8 0)/\(opsOf (nav C0 [1,1,1,1,0,0]))[1]? = some (o8 1)/\List.range (opsOf (nav C0 [1,1,1,1,0,0])).size=[0,1]:=⟨by kernel_rfl,by kernel_rfl,by kernel_rfl,by kernel_rfl,by kernel_rfl,by kernel_rfl⟩
set_option maxRecDepth 20000 in
set_option maxHeartbeats 800000 in
theorem con_impl_consolidated:Con Tryz.prog 110 cJ:=by
 refine fm Be (fn:=Tryz.f110) (c:=C0) (by kernel_rfl) (by kernel_rfl) (by kernel_rfl) (rs:=[.tmp 2]) (by kernel_rfl) (by kernel_rfl) (λ_=>rfl) ?_;intro x hx fr hm hn hl a w hs;obtain⟨B,IoB,W0,F0⟩:=fr;have hl:IoB=[]:=hl rfl;subst hl;obtain⟨xs,u⟩:=x;have ho:lim (ba .row xs) 1:=hx;obtain⟨p0,d0,g0,p1,d1,g1,hv,hh,hj,hw,hi,hk⟩:=op1;have ht:MS ⟨52,none,[]⟩ B [] W0 F0 [] [(0,.v .sh (.lst .row xs))] a w:=(MS.of hs hm).forget (by kernel_rfl) rfl (λp h=>by cases h) (λp h=>by cases h);refine ma (c1:=nav C0 [0]) (c2:=nav C0 [1]) (by kernel_rfl) ?_;refine MS.regC gg (keep:=[0]) (e':=[(0,.v .sh (.lst .row xs))]) (ps:=[]) (by kernel_rfl) trivial ht (λa w hs=>?_);refine ma (c1:=nav C0 [1,0]) (c2:=nav C0 [1,1]) (by kernel_rfl) ?_;refine Gc (by kernel_rfl) at1.2.2.1 ?_;rw[wpOps_cons];refine ra at1.1 g0 ?_;refine Ra (vE p0) ?_;rw[d0,wpOps_cons];have h1:=hs.alloc (d:=9) (by kernel_rfl) (v:=.map (some w.heap.size)) (o:=.map #[] 0) rfl;refine ra at1.2.1 g1 ?_;refine Ra (Us p1) ?_;rw[d1,h1.k (s:=9) (v:=.map (some w.heap.size)) (by simp)];have h2:=h1.val (d:=3) (by kernel_rfl) (v:=.map (some w.heap.size)) (av:=.dead) rfl (λ_ _=>trivial);have h3:MS (N1 w.heap.size) B [] W0 F0 [(w.heap.size,oa [])] [(0,.v .sh (.lst .row xs))] _ _:=(h2.weak (xa.cast (pat:=[(0,.same)]) (by kernel_rfl) (by kernel_rfl))).forget rfl rfl (λp hp=>by simp at hp⊢;simp[hp]) (λp hp=>hp);generalize w.heap.size=r at h3;clear h1 h2;refine sc _ ?_;show(nav C0 [1,1]).wp _ _ _ _;generalize w.alloc (.map #[] 0)=w1 at h3⊢;generalize (a.put (some 9) _).put (some 3) _=a1 at h3⊢;refine ma (c1:=nav C0 [1,1,0]) (c2:=nav C0 [1,1,1]) (by kernel_rfl) ?_;refine ma (c1:=nav C0 [1,1,0,0]) (c2:=nav C0 [1,1,0,1]) (by kernel_rfl) ?_;refine MS.regC gg (keep:=[10,11,12]) (e':=EL xs 0) (ps:=[]) (by kernel_rfl) trivial h3 (λa w hs=>?_);refine VE ho hs (λa w hs=>?_);show(nav C0 [1,1,1]).wp _ _ a w;refine ma (c1:=nav C0 [1,1,1,0]) (c2:=nav C0 [1,1,1,1]) (by kernel_rfl) ?_;refine MS.regC gg (keep:=[6]) (e':=E2 []) (ps:=[]) (by kernel_rfl) trivial hs (λa w hs=>?_);refine ma (c1:=nav C0 [1,1,1,1,0]) (c2:=nav C0 [1,1,1,1,1]) (by kernel_rfl) ?_;refine ma (c1:=nav C0 [1,1,1,1,0,0]) (c2:=nav C0 [1,1,1,1,0,1]) (by kernel_rfl) ?_;refine Gc (by kernel_rfl) at1.2.2.2.2.2 ?_;rw[wpOps_cons];refine ra at1.2.2.2.1 hj ?_;refine Ra (Ae hv) ?_;rw[hh,wpOps_cons,hs.k (s:=3) (v:=.map (some r)) (by simp)];have h4:=hs.val (d:=32) (by kernel_rfl) (v:=.map (some r)) (av:=.dead) rfl (λ_ _=>trivial);refine ra at1.2.2.2.2.1 hk ?_;refine Ra (RK hw (by rw[h4.k (s:=32) (v:=.map (some r)) (by simp)];exact XK (K:=48) (E:=3) (by kernel_rfl) (h4.o (r:=r) (o:=oa (Sa (chI xs))) (by simp)))) ?_;rw[hi];have hq:r<w.heap.size:=(Array.getElem?_eq_some_iff.1 (h4.o (r:=r) (o:=oa (Sa (chI xs))) (by simp))).1;have h5:=h4.alloc (d:=33) (by kernel_rfl) (v:=.pointer (some ⟨w.heap.size,0,none⟩)) (o:=vb r (Sa (chI xs)) []) rfl;have h6:MS (N2 w.heap.size) B [] W0 F0 [(w.heap.size,vb r (Sa (chI xs)) []),(r,oa (Sa (chI xs)))] (E2 []) _ _:=(h5.weak (xa.cast (pat:=[(6,.same)]) (by kernel_rfl) (by kernel_rfl))).forget rfl rfl (λp hp=>by simp at hp⊢;simp[hp]) (λp hp=>hp);refine sc _ ?_;show(nav C0 [1,1,1,1,0,1]).wp _ _ _ _
 have hr:(Sa (chI xs)).length<=1099511627775:=by
  have h1:=RL (chI xs);have h2:(chI xs).length=xs.length:=by simp[chI]
  have h3:(xs.length:Int)+1<=1099511627776:=ho;omega
 refine XE (Vi xs).2 hr (by omega) h6 (λS a w hnd hq hall hs=>?_);show(nav C0 [1,1,1,1,1]).wp _ _ a w;refine ma (c1:=nav C0 [1,1,1,1,1,0]) (c2:=nav C0 [1,1,1,1,1,1]) (by kernel_rfl) ?_
 have hu:(mb (Sa (chI xs)) S).length<=1099511627776:=by
  have h1:=zm (Sa (chI xs)) S;have h2:=Wi hnd hq;omega
 refine gF hu hn (hs.forget rfl rfl (λp h=>by cases h) (λp h=>by cases h)) (λys a w hp hso hs=>?_);have hy:=cF hnd hq hall hp hso;subst hy;show(nav C0 [1,1,1,1,1,1]).wp _ _ a w;refine ma (c1:=nav C0 [1,1,1,1,1,1,0]) (c2:=nav C0 [1,1,1,1,1,1,1]) (by kernel_rfl) ?_;refine MS.regC gg (keep:=[2]) (e':=[(2,.v .fr (.lst .row (gathI xs)))]) (ps:=[]) (by kernel_rfl) trivial hs (λa w hs=>?_);refine Pi (by kernel_rfl) ?_;refine⟨[(2,.v .fr (.lst .row (gathI xs)))],?_,?_⟩
 .exact (hs.forget (N':=⟨(Tryz.f110).ntmps,none,[]⟩) (obs':=[]) (by kernel_rfl) rfl (λp h=>by cases h) (λp h=>by cases h)).to
 .exact⟨rfl,trivial⟩
end Rw
theorem con_impl_consolidated:Con Tryz.prog 110 cJ:=Rw.con_impl_consolidated
end
section
open Go Go.ChangeShapes Go.WideShapes Go.ChangeAt Go.RowKit
theorem Good.nil{P:Program}{tt:TT}(h:Ub P tt)(hm:P.follows .mixedOrders=true):Good P tt []:=⟨h,(λf s h=>by cases h),hm⟩
theorem Good.cons{P:Program}{tt:TT}{n:Nat}{d:Spec}{r:SP}(h:Con P n d)(G:Good P tt r):Good P tt ((n,d)::r):=⟨G.htt,λf s hs=>by
   simp only[spk]at hs;cases hb:Nat.beq n f with
   |true=>
    rw[hb]at hs;cases hs;rw[<-Nat.eq_of_beq_eq_true hb];exact h
   |false=>rw[hb]at hs;exact G.hsp f s hs,G.hm⟩
theorem Fag{P:Program}{W:World}{r:Reach}{base:Nat}{t e:TypeId}{a:Addr}{len cap:Nat}(ht:P.underlying t=some (.slice e))(h:Value.okWide P W r base t (.slice (some a) len cap)):a.spot=none:=by
 simp only[Value.okWide,ht,Cell.okWide,Cell.ok]at h;exact h.2.2.2.1
theorem BI{P:Program}{H:Type}{enc:TypeId×Value->H}{W:World}{base:Nat}{r:Reach}{t e:TypeId}(ht:P.underlying t=some (.slice e))(he:P.underlying e=some (.int .u8))(hce:P.cellsOf e=1)
  {v0:Value}{d0:DataW H}{q1:List MemPlace} (h0:DataW.Trod enc P W 0 (λ_=>true) true t v0 d0 q1) (hok:Value.okWide P W r base t v0) :
  ∃(c:List Int) (F:Fz),(∀x∈c,0<=x/\x<=255)/\Live F W/\RC F 0 W (.lst .byte c) v0/\∀W':World,Below W.heap.size W W'->DataW.Trod enc P W' 0 (λx=>decide (x<W.heap.size)) true t v0 d0 q1:=by
 obtain⟨a0,len,cap,rfl⟩:=okWide_slice ht hok;obtain⟨fuel,hf⟩:=h0;rcases open_ints ht he hce hf with⟨hp,hx⟩|⟨a,hw,hh,zs,hp,_,hl,hm,hz,hx,hn,hv⟩
 .simp[Value.cells]at hp;obtain⟨rfl,rfl,rfl⟩:=hp;simp only[Prod.mk.injEq]at hx;obtain⟨rfl,rfl⟩:=hx;exact⟨[],λ_ _=>False,λx hx=>by simp at hx,λ_ _ h=>h.elim,.nil _,λW' _=>shut_slice_nil ht⟩
 simp[Value.cells]at hp;obtain⟨rfl,rfl,rfl⟩:=hp;simp only[Prod.mk.injEq]at hx;obtain⟨rfl,rfl⟩:=hx;simp only[if_true]at hz;have hr:=Fag ht hok;obtain⟨b,off,hy⟩:=a;have hr:hy=none:=hr;subst hr;have ho:∀j,j<zs.length->W.cell? ⟨b,off+j,none⟩=some (.int .u8 (zs.getD j 0)):=λj hj=>by rw[<-add_plain];exact hn j hj
 have hu:∀x∈zs,0<=x/\x<=255:=λx hx=>by
  have:=hv x hx;simpa [Lit.wf,IntKind.min,IntKind.max,IntKind.signed,IntKind.bits] using this
 have hs:(zs.take len).length=len:=by rw[List.length_take];omega
 refine⟨zs.take len,λb' o=>b'=b/\off<=o/\o<off+len,λx hx=>hu x (List.mem_of_mem_take hx),?_,?_,?_⟩
 .rintro b' o ⟨rfl,h1,h2⟩;have:=ho (o - off) (by omega);rw[show off+(o - off)=o by omega]at this;rw[this];rfl
 .have hq:=RC.lst (F:=λb' o=>b'=b/\off<=o/\o<off+len) (lo:=0) (w:=W) .byte (zs.take len) b off cap (λi _=>.int .u8 (zs.getD i 0)) (Nat.zero_le _) (by rw[hs];exact hl)
   (λi j hi hj=>?_) (λi j hi hj=>?_) (λi j x c hx hc=>?_)
  .rw[hs]at hq;exact hq
  .have hi:i<(zs.take len).length:=hi;rw[hs]at hi;have hj:j<1:=hj;exact⟨rfl,by omega,by show off+(i*1+j)<off+len;omega⟩
  .have hi:i<(zs.take len).length:=hi;rw[hs]at hi;have hj:j<1:=hj;have:j=0:=by omega
   subst this;show W.cell? ⟨b,off+(i*1+0),none⟩=_;rw[show off+(i*1+0)=off+i by omega];exact ho i (by omega)
  .match j,hc with
   |0,hc=>
    simp[cells]at hc;subst hc;have hx:(zs.take len)[i]? = some x:=hx
    have hi:i<len:=by
     have:=(List.getElem?_eq_some_iff.1 hx).1;omega
    rw[List.getElem?_take,if_pos hi]at hx;show RC _ _ _ (.int .u8 x) (.int .u8 (zs.getD i 0));rw[List.getD_eq_getElem?_getD,hx];exact .int _ _
   |j+1,hc=>simp[cells]at hc
 .intro W' hk
  have ha:=shut_ints' (enc:=enc) (P:=P) (w:=W') (base:=0) (spare:=λx=>decide (x<W.heap.size)) (held:=true) (b:=b) (off:=off) (len:=len) (cap:=cap) (zs:=zs) 0
   ht he hce (Nat.zero_le _) hl hm ?_ (λi hi=>?_) hv
  .exact⟨2,ha⟩
  .by_cases h0:zs.length=0
   .have h1:len=0:=by omega
    have h2:cap=0:=by omega
    rw[h0,h1,h2];simp
   .have hb:b<W.heap.size:=World.block_lt_of_cell? _ _ (ho 0 (by omega));simp[hb,hz]
  .have hb:b<W.heap.size:=World.block_lt_of_cell? _ _ (ho i hi);rw[World.cell?_of_block (w:=W) (hk.block b hb)];exact ho i hi
theorem law_lifted{C:Checked}{os:Os}{H:Type}{enc:TypeId×Value->H}{f:FuncId}{fn:Func}{s:ChangeSpec}{conds:List PathCond}(own:ownKnob C.prog.godebug=none)(started:os.Started)(noInit:C.prog.inits.idxOf? f=none)(hfn:C.prog.funcs[f]? = some fn)
  (witness:∃(w:World) (tape:Tape) (i:Input),w.os=os/\(w.forCall tape i).Shaped C.prog/\i.vars=[]/\Input.okWide C.prog (w.forCall tape i) .any w.heap.size f i /\
    s.pre6 enc C.prog fn conds false (w.forCall tape i).memory i.args/\({}:Assume).holds C.prog (lone (Frame.enter C.prog f i.args .normal) [] (w.forCall tape i)))
  {t e r:TypeId} (hp:fn.params=#[t]) (hr:fn.resultTypes=#[r]) (ht:C.prog.underlying t=some (.slice e)) (he:C.prog.underlying e=some (.int .u8)) (hce:C.prog.cellsOf e=1) (hrb:C.prog.underlying r=some .bool)
  (hs:∀d,s.fn H [d]={ results:=[.lit (.bool true)],args:=[d] }) (hv:s.vars=[])
  {v:List Int->Bool}{p:List Int->Prop} (hcon:Con C.prog f ⟨[.lst .byte],.one .fr .bool,false,λx=>(v x.1,0),λx=>p x.1⟩) (h:∀c:List Int,(∀x∈c,0<=x/\x<=255)->p c/\v c=true) :
  ReturnsInHanded {} C os f .any (s.pre6 enc C.prog fn conds false) (s.post enc C.prog fn false true false false):=by
 refine returnsInHanded_of_change_sized (C:=C) own started noInit hfn witness ?_;intro W base args ds gs before hy hW _ _ _;have hw:∀(j:Nat) t v,fn.params[j]? = some t->args[j]? = some v->Value.okWide C.prog W .any base t v:=hy;have hi:=hW;obtain⟨q1,q2,hh,hV,rfl,hm,_⟩:=hW;have hA:DataW.TrodAll enc C.prog W 0 (λ_=>true) true fn.params.toList args.toList ds q1:=hh;rw[hp]at hA hw;obtain⟨v0,d0,rfl,rfl,h0⟩:=trodAll_one hA;rw[hv]at hV;obtain⟨rfl,rfl⟩:=trodVars_none hV;obtain⟨c,F,hc,hl,ho,hq⟩:=BI ht he hce h0 (hw 0 t v0 rfl rfl);obtain⟨h1,h2⟩:=h c hc;simp only[List.append_nil]at hi;refine(hcon.call (c,()) h1 W F [v0] none hl ⟨_,[],rfl,ho,rfl,rfl⟩).mono λe W' he=>?_;obtain⟨v1,F',ow,rfl,hn,_,_,hz,_⟩:=he;have hz:RC F' W.heap.size W' (.bool (v c)) v1:=hz;rw[h2]at hz;have hu:v1=.bool true:=by cases hz;rfl
 subst hu;have hj:Below W.heap.size W W':=⟨hn.os,hn.tape,hn.output,hn.size,λk hk=>hn.block k hk (by simp)⟩;refine⟨_,rfl,[d0],[],q1,[],q1,[],hi,?_,?_,?_,hj.frame _,λh=>by cases h⟩
 .rw[hr];show DataW.TrodAll enc C.prog W' _ _ _ [r] [.bool true] (s.fn H ([d0]++[])).results [];rw[List.append_nil,hs];exact trodAll_mk1 (shut_bool hrb true)
 .rw[hp];show DataW.TrodAll enc C.prog W' _ _ _ [t] [v0] (s.fn H ([d0]++[])).args q1;rw[List.append_nil,hs];exact trodAll_mk1 (hq W' hj)
 .rw[hv,List.append_nil,hs];exact rfl
theorem Fah{C:Checked}{os:Os}{H:Type}{enc:TypeId×Value->H}{f:FuncId}{fn:Func}{s:ChangeSpec}{conds:List PathCond}(own:ownKnob C.prog.godebug=none)(started:os.Started)(noInit:C.prog.inits.idxOf? f=none)(hfn:C.prog.funcs[f]? = some fn)
  (witness:∃(w:World) (tape:Tape) (i:Input),w.os=os/\(w.forCall tape i).Shaped C.prog/\i.vars=[]/\Input.okWide C.prog (w.forCall tape i) .any w.heap.size f i /\
    s.pre6 enc C.prog fn conds false (w.forCall tape i).memory i.args/\({}:Assume).holds C.prog (lone (Frame.enter C.prog f i.args .normal) [] (w.forCall tape i)))
  {t e r:TypeId} (hp:fn.params=#[t,t]) (hr:fn.resultTypes=#[r]) (ht:C.prog.underlying t=some (.slice e)) (he:C.prog.underlying e=some (.int .u8)) (hce:C.prog.cellsOf e=1) (hrb:C.prog.underlying r=some .bool)
  (hs:∀d d',s.fn H [d,d']={ results:=[.lit (.bool true)],args:=[d,d'] }) (hv:s.vars=[])
  {v:List Int->List Int->Bool}{p:List Int->List Int->Prop} (hcon:Con C.prog f ⟨[.lst .byte,.lst .byte],.one .fr .bool,false,λx=>(v x.1 x.2.1,0),λx=>p x.1 x.2.1⟩) (h:∀c c':List Int,(∀x∈c,0<=x/\x<=255)->(∀x∈c',0<=x/\x<=255)->p c c'/\v c c'=true) :
  ReturnsInHanded {} C os f .any (s.pre6 enc C.prog fn conds false) (s.post enc C.prog fn false true false false):=by
 refine returnsInHanded_of_change_sized (C:=C) own started noInit hfn witness ?_;intro W base args ds gs before hg hW _ _ _;have hf:∀(j:Nat) t v,fn.params[j]? = some t->args[j]? = some v->Value.okWide C.prog W .any base t v:=hg;have hi:=hW;obtain⟨q1,q2,hh,hV,rfl,hn,_⟩:=hW;have hA:DataW.TrodAll enc C.prog W 0 (λ_=>true) true fn.params.toList args.toList ds q1:=hh;rw[hp]at hA hf;obtain⟨v0,v1,d0,d1,qa,qb,rfl,rfl,rfl,h0,h1⟩:=trodAll_two hA;rw[hv]at hV;obtain⟨rfl,rfl⟩:=trodVars_none hV;obtain⟨c,F,hc,hl,hu,hy⟩:=BI ht he hce h0 (hf 0 t v0 rfl rfl);obtain⟨c',F',hm,ho,hw,hz⟩:=BI ht he hce h1 (hf 1 t v1 rfl rfl);obtain⟨g1,g2⟩:=h c c' hc hm;simp only[List.append_nil]at hi
 refine(hcon.call (c,c',()) g1 W (λb o=>F b o\/F' b o) [v0,v1] none (λb o h=>h.elim (hl b o) (ho b o))
  ⟨_,_,rfl,hu.mono (λ_ _ h=>.inl h) (Nat.le_refl _) (λ_ _ _=>rfl),_,[],rfl,hw.mono (λ_ _ h=>.inr h) (Nat.le_refl _) (λ_ _ _=>rfl),rfl,rfl⟩).mono λe W' he=>?_
 obtain⟨w1,F2,ow,rfl,hq,_,_,ih,_⟩:=he;have ih:RC F2 W.heap.size W' (.bool (v c c')) w1:=ih;rw[g2]at ih;have ha:w1=.bool true:=by cases ih;rfl
 subst ha;have hj:Below W.heap.size W W':=⟨hq.os,hq.tape,hq.output,hq.size,λk hk=>hq.block k hk (by simp)⟩;refine⟨_,rfl,[d0,d1],[],qa++qb,[],qa++qb,[],hi,?_,?_,?_,hj.frame _,λh=>by cases h⟩
 .rw[hr];show DataW.TrodAll enc C.prog W' _ _ _ [r] [.bool true] (s.fn H ([d0,d1]++[])).results [];rw[List.append_nil,hs];exact trodAll_mk1 (shut_bool hrb true)
 .rw[hp];show DataW.TrodAll enc C.prog W' _ _ _ [t,t] [v0,v1] (s.fn H ([d0,d1]++[])).args (qa++qb);rw[List.append_nil,hs];exact trodAll_mk2 (hy W' hj) (hz W' hj)
 .rw[hv,List.append_nil,hs];exact rfl
theorem Gah{P:Program}{f:FuncId}{fn:Func}{s:ChangeSpec}{c:OpenClaim}
  (h1:(c.wf (OpenSpec.ofChange s))=true)
  (h2:(laidOutB P)=true)
  (h3:(mapsRowed P)=true)
  (h4:(fn.params.all (P.readableRec ·))=true)
  (h5:(namedTie P c.named s.vars)=true)
  (h6:((c.stops == []))=true)
  (h7:((P.stops == []))=true)
  (h8:((c.knobs == []))=true)
  (h9:((P.stopKnobs == []))=true)
  (h10:((c.inPlace == P.inPlace f))=true)
  (h11:((c.unfollowed == P.unfollowed f))=true)
  (h12:((c.recurses == P.recurses f))=true)
  (h13:((c.named == P.varsNamed f))=true)
  (h14:((c.maps == (fn.params.toList++s.plain.varTypes P).any (P.mapsRec ·)))=true)
  (h15:((c.ifaces == (fn.params.toList++s.plain.varTypes P).any (P.ifacesRec ·)))=true)
  (h16:((c.mapsOut == P.mapsAmong fn.resultTypes.toList))=true)
  (h17:((c.loops == (fn.params.toList++s.plain.varTypes P).any (P.loopsFrom ·)))=true)
  (h18:((c.wideKeys == (fn.params.toList++s.plain.varTypes P++fn.resultTypes.toList).any (P.wideKeysFrom ·)))=true)
  (h19:(s.vars.all (P.varReadable ·))=true)
  (h20:(fn.resultTypes.all (λt=>P.readableRec t&&decide (t<P.types.size)))=true)
  (h21:((c.ifacesOut == fn.resultTypes.toList.any (P.ifacesRec ·)))=true)
  (h22:((c.loopsOut == fn.resultTypes.toList.any (P.loopsFrom ·)))=true)
  (h23:((c.plainKeys == P.plainKeys))=true)
  (h24:(c.shortTexts.isNone)=true)
  (h25:(P.stopsHeard)=true)
  (h26:(P.mayEnter)=true)
  (h27:((c.lifted == P.liftsFinal))=true)
  (h28:((P.make == some c.make))=true)
  (h29:((c.kinds == (if c.domain.isEmpty then [] else fn.params.toList.map λt=>match P.underlying t with|some (.int k)=>some k|_=>none)))=true)
  (h30:((c.pinned == c.pinnedBy))=true)
  (h31:((c.veiled == (fn.params.toList++s.plain.varTypes P++fn.resultTypes.toList).any (P.veiledRec ·)))=true)
  (h32:(c.veiledFits P fn.params.toList (fn.params.toList++s.plain.varTypes P++fn.resultTypes.toList))=true):joinedFacts P f fn s c=true:=by
 unfold joinedFacts;simp only[Bool.and_eq_true];exact⟨⟨⟨⟨⟨⟨⟨⟨⟨⟨⟨⟨⟨⟨⟨⟨⟨⟨⟨⟨⟨⟨⟨⟨⟨⟨⟨⟨⟨⟨⟨h1,h2⟩,h3⟩,h4⟩,h5⟩,h6⟩,h7⟩,h8⟩,h9⟩,h10⟩,h11⟩,h12⟩,h13⟩,h14⟩,h15⟩,h16⟩,h17⟩,h18⟩,h19⟩,h20⟩,h21⟩,h22⟩,h23⟩,h24⟩,h25⟩,h26⟩,h27⟩,h28⟩,h29⟩,h30⟩,h31⟩,h32⟩
end
end Go.Proofs.YtiiidenbemkihaaGreat
