/-
  Maps from structs of numbers to 'true': sets; how the machine's operations on them run. What plans make of batches: a model of the operators. What plans make of batches: bounds on what an aggregate makes. Rows, batches, and what they come to at a time: what the program's functions and the reference's compute. What operators make of changes sums up, at each time, to what they make of the sums. Batches mapped, filtered and joined: the program's functions and the reference's. 'timesOf' and 'FlowTimes': the times of a set, in order; the times of a key's rows, closed under joins. 'FlowTimes' whole: the walk. What an aggregate makes of changes sums up, at each time, to what it makes of the sums. Batches joined, put together, negated: the program's functions and the reference's. Batches put together, negated, copied; aggregates of items: the program's functions and the reference's. Aggregates of items: the program's functions and the reference's. No statement is proved here.
-/
import Derived.Test.YthfkpijcajdnhaaGreatB1

namespace Go.Proofs.YthfkpijcajdnhaaGreat
open Go
abbrev va:=List (List Int)
def fh(i:Nat)(k:List Int):MapEntry:={ key:=Aa k,val:=.bool true,born:=i }
def jc:Nat->va->List MapEntry
 |_,[]=>[]
 |i,k::r=>fh i k::jc (i+1) r
def Ha(S:va):Obj:=.map (jc 0 S).toArray S.length
def Fe:va->List Int->Nat->Option Nat
 |[],_,_=>none
 |p::r,ks,i=>if p=ks then some i else Fe r ks (i+1)
def od(S:va)(ks:List Int):va:=if ks∈S then S else S++[ks]
def Yb(n:Nat)(S:va):Prop:=∀k∈S,k.length=n
theorem SV:∀ (j:Nat) (S:va) (i:Nat),(jc j S)[i]? = (S[i]?).map (fh (j+i))
 |_,[],_=>by simp[jc]
 |j,k::r,0=>by simp[jc]
 |j,k::r,i+1=>by
  have:=SV (j+1) r i;simp only[jc,List.getElem?_cons_succ,this];rw[show j+1+i=j+(i+1) by omega]
theorem TV:∀ (j:Nat) (S U:va),jc j (S++U)=jc j S++jc (j+S.length) U
 |j,[],U=>by simp[jc]
 |j,k::r,U=>by
  simp only[List.cons_append,jc,TV (j+1) r U,List.length_cons];rw[show j+1+r.length=j+(r.length+1) by omega]
theorem ZJ:∀ {S:va} {ks:List Int} {j i:Nat},Fe S ks j=some i->j<=i/\S[i - j]? = some ks
 |[],_,_,_,h=>by cases h
 |p::r,ks,j,i,h=>by
  simp only[Fe]at h;split at h
  ·rename_i e;cases h;exact⟨Nat.le_refl _,by simp[e]⟩
  ·obtain⟨h1,h2⟩:=ZJ h;refine⟨by omega,?_⟩;rw[show i - j=i - (j+1)+1 by omega];simpa using h2
theorem aK:∀ {S:va} {ks:List Int} {j:Nat},Fe S ks j=none->ks ∉ S
 |[],_,_,_=>by simp
 |p::r,ks,j,h=>by
  simp only[Fe]at h;split at h
  .cases h
  ·rename_i e;simp only[List.mem_cons,not_or];exact⟨λh'=>e h'.symm,aK h⟩
section
variable {P:Program} {K n:Nat}
theorem UV(hE:Of P K n)(w:World){ks:List Int}(hk:ks.length=n):∀ (S:va) (j i:Nat),Yb n S ->
  (Instr.findAsking K (Aa ks) (jc j S) i).run P w=.ok ((Fe S ks i).map λq=>(q,Value.bool true)) w
 |[],j,i,_=>by simp[jc,Instr.findAsking,Fe]
 |p::r,j,i,hm=>by
  have h1:=GL hE w hk (hm p (by simp));simp only[jc,Instr.findAsking,Sem.run_bind,Fe];show ((Op.equal K (Aa ks) (Aa p)).run P w).andThen _=_;rw[h1,Result.andThen_ok];by_cases e:p=ks
  .simp[e,fh]
  ·have e':¬ ks=p:=λh=>e h.symm;simp only[e',decide_false,e,if_false,Bool.false_eq_true];exact UV hE w hk r (j+1) (i+1) (λq hq=>hm q (by simp[hq]))
theorem VV(hE:Of P K n){fs:Array Field}(hu:P.underlying K=some (.struct fs))(w:World){ks:List Int}(hk:ks.length=n)(S:va)(hm:Yb n S) :
  (Instr.findKey K (Aa ks) (jc 0 S)).run P w=.ok ((Fe S ks 0).map λq=>(q,Value.bool true)) w:=by
 unfold Instr.findKey;simp only[Sem.run_bind,run_underlying hu,Result.andThen_ok];cases S with
 |nil=>simp[jc,Instr.findNow,Fe]
 |cons p r=>
  have:Instr.findNow (.struct fs) (Aa ks) (jc 0 (p::r)) 0=none:=by simp[jc,Instr.findNow,Instr.sameNow]
  rw[this];exact UV hE w hk _ 0 0 hm
structure WV(P:Program)(T K E n:Nat):Prop where
 u:P.underlying T=some (.map K E)
 k:∃fs,P.underlying K=some (.struct fs)
 eq:Of P K n
 ck:rC P K n
 z:∀w,(zeroValue E).run P w=.ok (.bool false) w
variable {T E:Nat} (M:WV P T K E n) {w:World} {r:Nat} {S:va} (hr:w.heap[r]? = some (Ha S)) (hm:Yb n S) {ks:List Int} (hk:ks.length=n)
include M hr hm hk
theorem XV:(Instr.lookup T (.map (some r)) (Aa ks) false).run P w=.ok (.bool (decide (ks∈S))) w:=by
 obtain⟨fs,hu⟩:=M.k;have h1:=VV M.eq hu w hk S hm;have h2:∀b,(Instr.checkKey b 10000 K (Aa ks)).run P w=.ok () w:=λb=>M.ck b w ks hk;have hg:(getObj r).run P w=.ok (Ha S) w:=by simp[getObj,Sem.run,hr,Ha]
 unfold Instr.lookup;simp only[Sem.run_bind,run_underlying M.u,Result.andThen_ok,hg];simp only[Ha,Sem.run_bind,Sem.run_pure,Result.andThen_ok,h2,h1];cases hl:Fe S ks 0 with
 |none=>simp[M.z w,aK hl]
 |some i=>
  have:=List.mem_of_getElem? (ZJ hl).2;simp[this]
theorem YV:(Instr.mapUpdate T (.map (some r)) (Aa ks) (.bool true)).run P w=.ok () (Sc w r (Ha (od S ks))):=by
 obtain⟨fs,hu⟩:=M.k;have h1:=VV M.eq hu w hk S hm;have h2:∀b,(Instr.checkKey b 10000 K (Aa ks)).run P w=.ok () w:=λb=>M.ck b w ks hk;have hg:(getObj r).run P w=.ok (Ha S) w:=by simp[getObj,Sem.run,hr,Ha]
 have hs:∀o,(setObj r o).run P w=.ok () (Sc w r o):=λo=>by simp[setObj,Sem.run,hr,Ha,Sc]
 unfold Instr.mapUpdate;simp only[Sem.run_bind,run_underlying M.u,Result.andThen_ok,hg];simp only[Ha,Sem.run_bind,Result.andThen_ok,h2,h1];cases hl:Fe S ks 0 with
 |none=>
  have hn:=aK hl;simp only[Option.map_none,hs]
  have:Ha (od S ks)=.map ((jc 0 S).toArray.push { key:=Aa ks,val:=.bool true,born:=S.length }) (S.length+1):=by
   unfold Ha od;rw[if_neg hn,TV];simp[jc,fh]
  rw[← this];rfl
 |some i=>
  obtain⟨_,hi⟩:=ZJ hl;rw[Nat.sub_zero]at hi;have hmem:=List.mem_of_getElem? hi
  have he:(jc 0 S).toArray[i]? = some (fh i ks):=by
   have:=SV 0 S i;rw[hi]at this;simpa using this
  simp only[Option.map_some,Sem.run_bind,he,Option.getD_some];have hst:=PL (P:=P) w ks;have hke:(fh i ks).key=Aa ks:=rfl;rw[hke,hst,Result.andThen_ok]
  have hmod:((jc 0 S).toArray.modify i λe=>{ e with key:=Aa ks,val:=.bool true })=(jc 0 S).toArray:=by
   apply Array.ext';apply List.ext_getElem?;intro j;simp only[Array.toList_modify,List.getElem?_modify];by_cases hij:i=j
   ·subst hij;have he':(jc 0 S)[i]? = some (fh i ks):=by simpa using he
    simp[he',fh]
   .simp[hij]
  rw[hmod,hs];unfold od;rw[if_pos hmem]
end
theorem ZV{P:Program}{a:Act}{w:World}{o:Oper}{t x k:Nat}(hop:o.op=.mapUpdate t (.tmp x) (.tmp k) (.const (.bool true))){w':World}(h:(Instr.mapUpdate t (a.tmps.getD x undef) (a.tmps.getD k undef) (.bool true)).run P w=.ok () w'):(execOp a.eval o).run P w=.ok .skip w':=by
 obtain⟨dst,op,ty,pos,aft,gd⟩:=o;simp only[]at hop;subst hop;exact cM (s:=Instr.mapUpdate t (a.tmps.getD x undef) (a.tmps.getD k undef) (.bool true)) rfl h
end Go.Proofs.YthfkpijcajdnhaaGreat

namespace Go.Proofs.YthfkpijcajdnhaaGreat
open Go Tg
def cc(h k v:Int):Int×Int×Bool:=if h=1 then (v % 4,v - v % 4+k,true) else if h=2 then (k,(v+1) % 100,true) else if h=3 then (v % 4,v,true) else if h=4 then (0,v,true) else
 if h=5 then (k,v,decide (v % 2=0)) else if h=6 then (k,v,decide (k % 2=0)) else (k,v,decide (v<10))
def Yf(h:Int)(x:Row):List Row:=if (cc h x.Key x.Val).2.2=true then [⟨(cc h x.Key x.Val).1,(cc h x.Key x.Val).2.1,x.At,x.Diff⟩] else []
def xc(h:Int)(a:List Row):List Row:=a.flatMap (Yf h)
def Vl(x y:Int):Int:=(10*x+y) % 100
def ic(x y:Row):List Row:=if x.Key=y.Key then [⟨x.Key,Vl x.Val y.Val,bb x.At y.At,x.Diff*y.Diff⟩] else []
def dc(a b:List Row):List Row:=a.flatMap λx=>b.flatMap (ic x)
def Nh(x:Row):Row:=⟨x.Key,x.Val,x.At,IntKind.wrap .i64 (0 - x.Diff)⟩
def ib(a:List Row):List Row:=a.map Nh
def Ri(n:Int):Int:=ar .rem .i64 (ar .add .i64 (ar .rem .i64 n 100) 100) 100
def ce(s:List Item):Int:=s.foldl (λn x=>ar .add .i64 n x.Count) 0
def Ec(k:Int)(s:List Item):List Item:=(s.filter λx=>decide (0<x.Count)).map λx=>⟨k,x.Val,1⟩
def Wa(kind k:Int)(s:List Item):List Item:=if kind=1 then (if ce s=0 then [] else [⟨k,Ri (ce s),1⟩]) else if kind=2 then Ec k s else (Ec k s).take 1
def Jb(x:Item):Item:=⟨x.Key,x.Val,IntKind.wrap .i64 (0 - x.Count)⟩
def rowT(t:Time)(x:Item):Row:=⟨x.Key,x.Val,t,x.Count⟩
def Oh(kind k:Int)(own made:List Row)(t:Time):List Item:=gathI (Wa kind k (xd own t)++(xd made t).map Jb)
def Ue(kind k:Int)(own made:List Row)(t:Time):List Row:=made++(Oh kind k own made t).map (rowT t)
def na(k:Int)(a:List Row):List Row:=a.filter λx=>decide (x.Key=k)
def Ab(kind k:Int)(own:List Row)(ts:List Time):List Row:=ts.foldl (Ue kind k own) []
def Ce(kind:Int)(a:List Row):List Row:=(List.range 4).flatMap λk:Nat=>Ab kind k (na k a) (Xa a k)
def Ad:Option Row->Row->Bool
 |none,x=>decide (x.Diff=0)
 |some y,x=>decide (x.Diff=0)||!ltK (rK y) (rK x)
def Sb{α:Type}(bad:Option α->α->Bool):Option α->List α->Bool
 |_,[]=>true
 |y,x::r=>!bad y x&&Sb bad (some x) r
def Qa(xs:List Row):Bool:=Sb Ad none xs&&Ib xs
def opR(kind num:Int)(ks ins:List (List Row)):List Row:=if kind=1 then ins.getD num.toNat [] else if kind=2 then ab (xc num (ks.getD 0 [])) else if kind=3 then ab (ks.getD 0 []++ks.getD 1 []) else
 if kind=4 then ab (ib (ks.getD 0 [])) else if kind=5 then ab (dc (ks.getD 0 []) (ks.getD 1 [])) else ab (Ce num (ks.getD 0 []))
def Nb{α β:Type}(f:α->Option β):List α->Option (List β)
 |[]=>some []
 |x::r=>match f x with
  |none=>none
  |some y=>match Nb f r with
   |none=>none
   |some ys=>some (y::ys)
def Ob:Nat->List (List Row)->Plan->Option (List Row)
 |0,_,_=>none
 |d+1,ins,p=>match Nb (Ob d ins) p.Kids with
  |none=>none
  |some ks=>if Qa (opR p.Kind p.Num ks ins)=true then some (opR p.Kind p.Num ks ins) else none
theorem Wl{α β:Type}(f:α->Option β):∀ (l r:List α),Nb f (l++r)=match Nb f l with
  |none=>none
  |some ys=>match Nb f r with
   |none=>none
   |some zs=>some (ys++zs)
 |[],r=>by simp only[List.nil_append,Nb];cases Nb f r<;>rfl
 |x::l,r=>by
  simp only[List.cons_append,Nb,Wl f l r];cases f x with
  |none=>rfl
  |some y=>
   cases Nb f l with
   |none=>rfl
   |some ys=>cases Nb f r<;>rfl
theorem Xl{α β:Type}{f:α->Option β}:∀ {l:List α} {ys:List β},Nb f l=some ys->ys.length=l.length
 |[],ys,h=>by simp[Nb]at h;subst h;rfl
 |x::l,ys,h=>by
  simp only[Nb]at h;split at h
  .cases h
  ·split at h
   .cases h
   ·rename_i zs hz;cases h;simp[Xl hz]
theorem vD{α β:Type}{f:α->Option β}:∀ {l:List α} {ys:List β},Nb f l=some ys->∀y∈ys,∃x∈l,f x=some y
 |[],ys,h=>by simp[Nb]at h;subst h;simp
 |x::l,ys,h=>by
  simp only[Nb]at h;split at h
  .cases h
  ·rename_i y hy;split at h
   .cases h
   ·rename_i zs hz;cases h;intro w hw;rcases List.mem_cons.1 hw with rfl|hw
    .exact⟨x,by simp,hy⟩
    ·obtain⟨x',h1,h2⟩:=vD hz w hw;exact⟨x',by simp[h1],h2⟩
theorem Bb{xs:List Row}(h:Ib xs=true):xs.length<=400/\∀x∈xs,vb x=true:=by
 simp only[Ib,Bool.and_eq_true,decide_eq_true_eq,List.all_eq_true]at h;exact⟨h.2,h.1⟩
theorem Og{x:Row}(h:vb x=true):Ea x.At=true:=by
 simp only[vb,decide_eq_true_eq]at h;simp only[Ea,decide_eq_true_eq];exact h.2.2.2.2.1
theorem Zf{x:Row}(h:vb x=true):InR x.Diff:=by
 simp only[vb,decide_eq_true_eq]at h;unfold InR;omega
theorem bg{xs:List Row}(h:Qa xs=true):Ib xs=true:=by
 simp only[Qa,Bool.and_eq_true]at h;exact h.2
theorem wD{d:Nat}{ins:List (List Row)}{p:Plan}{x:List Row}(h:Ob d ins p=some x):Qa x=true:=by
 cases d with
 |zero=>cases h
 |succ d=>
  simp only[Ob]at h;split at h
  .cases h
  ·split at h
   ·rename_i hb;cases h;exact hb
   .cases h
theorem cZ{n:Int}:Eqm (IntKind.wrap .i64 (0 - n)) (-n):=(Nl _).trans (Eqm.of (by omega))
theorem xD:∀ (s:List Item) (k:List Int),Eqm (sumT (chI (s.map Jb)) k) (-sumT (chI s) k)
 |[],k=>Eqm.refl _
 |x::r,k=>by
  have ih:=xD r k;show Eqm ((if kI (Jb x)=k then (Jb x).Count else 0)+sumT (chI (r.map Jb)) k) (-((if kI x=k then x.Count else 0)+sumT (chI r) k));have e:kI (Jb x)=kI x:=rfl;rw[e];by_cases h:kI x=k
  ·rw[if_pos h,if_pos h];exact (Eqm.add (cZ (n:=x.Count)) ih).trans (Eqm.of (by omega))
  ·rw[if_neg h,if_neg h];exact (Eqm.add (Eqm.refl 0) ih).trans (Eqm.of (by omega))
theorem XM(x:Item):InR (Jb x).Count:=Ol _
theorem eZ{a s:List Item}(hs:∀x∈s,InR x.Count):gathI (a++(gathI s).map Jb)=gathI (a++s.map Jb):=JY λk=>by
  rw[NM,NM];exact (Eqm.refl _).add ((xD _ k).trans (((QY hs k).neg).trans (xD s k).symm))
end Go.Proofs.YthfkpijcajdnhaaGreat

namespace Go.Proofs.YthfkpijcajdnhaaGreat
open Go Tg
theorem YM(hi:Int):∀ (l:List Int) (lo:Int),l.Pairwise (· < ·)->(∀x∈l,lo<=x/\x<=hi)->lo<=hi+1->(l.length:Int)<=hi+1 - lo
 |[],lo,_,_,h=>by simp;omega
 |x::r,lo,hp,hb,h=>by
  have hp':=List.pairwise_cons.1 hp;have hx:=hb x (by simp);have:=YM hi r (x+1) hp'.2 (λy hy=>⟨by have:=hp'.1 y hy;omega,(hb y (by simp[hy])).2⟩) (by omega);rw[List.length_cons];omega
theorem ZM(xs:List Item):(gathI xs).Pairwise λx y=>ltK (kI x) (kI y)=true:=by
 have h:=Gh (Rl xs);rw[← Ml]at h;exact List.pairwise_map.1 (show ((gathI xs).map λx=>(kI x,x.Count)).Pairwise (λp q=>ltK p.1 q.1=true) from h)
theorem yD{xs:List Item}{x:Item}(hx:x∈gathI xs):∃y∈xs,y.Key=x.Key/\y.Val=x.Val:=by
 have h:(kI x,x.Count)∈chI (gathI xs):=List.mem_map.2 ⟨x,hx,rfl⟩;rw[Ml]at h;obtain⟨y,hy,e⟩:=tD h;have e:kI x=kI y:=e;simp[kI]at e;exact⟨y,hy,e.1.symm,e.2.symm⟩
theorem aN{xs:List Item}{k:Int}(h:∀x∈xs,x.Key=k/\0<=x.Val/\x.Val<=99):(gathI xs).length<=100:=by
 have hk:∀x∈gathI xs,x.Key=k/\0<=x.Val/\x.Val<=99:=λx hx=>by
  obtain⟨y,hy,e1,e2⟩:=yD hx;rw[← e1,← e2];exact h y hy
 have hp:((gathI xs).map λx=>x.Val).Pairwise (· < ·):=by
  rw[List.pairwise_map];refine (ZM xs).imp_of_mem λ{x y} hx hy hlt=>?_;have h1:=(hk x hx).1;have h2:=(hk y hy).1;have hlt:(decide (x.Key<y.Key)||(decide (x.Key=y.Key)&&(decide (x.Val<y.Val)||(decide (x.Val=y.Val)&&(decide ((0:Int)<0)||(decide ((0:Int)=0)&&ltK [] []))))))=true:=hlt;have h0:ltK [] []=false:=rfl;rw[h1,h2,h0]at hlt;simpa using hlt
 have:=YM 99 _ 0 hp (λv hv=>by
  obtain⟨x,hx,rfl⟩:=List.mem_map.1 hv;exact (hk x hx).2) (by omega)
 rw[List.length_map]at this;omega
theorem bN(n:Int):0<=Ri n/\Ri n<=99:=by
 unfold Ri;rw[pr,pr]
 have h1 : -99<=n.tmod 100/\n.tmod 100<=99:=by
  have a:=Int.tmod_lt_of_pos n (show (0:Int)<100 by omega);have b:=Int.lt_tmod_of_pos n (show (0:Int)<100 by omega);omega
 rw[nc (by omega)];rw[Int.tmod_eq_emod_of_nonneg (by omega)];omega
theorem cN{kind k:Int}{s:List Item}{x:Item}(hs:∀y∈s,0<=y.Val/\y.Val<=99)(hx:x∈Wa kind k s):x.Key=k/\0<=x.Val/\x.Val<=99/\x.Count=1:=by
 have honce:∀x∈Ec k s,x.Key=k/\0<=x.Val/\x.Val<=99/\x.Count=1:=λx hx=>by
  obtain⟨y,hy,rfl⟩:=List.mem_map.1 hx;exact⟨rfl,(hs y (List.mem_filter.1 hy).1).1,(hs y (List.mem_filter.1 hy).1).2,rfl⟩
 unfold Wa at hx;split at hx
 ·split at hx
  .cases hx
  ·simp at hx;subst hx;exact⟨rfl,(bN _).1,(bN _).2,rfl⟩
 ·split at hx
  .exact honce x hx
  .exact honce x (List.mem_of_mem_take hx)
theorem dN(kind k:Int)(s:List Item):(Wa kind k s).length<=s.length+1:=by
 have h:(Ec k s).length<=s.length:=by
  unfold Ec;rw[List.length_map];exact List.length_filter_le _ _
 unfold Wa;split
 .split<;>simp
 ·split
  .omega
  .rw[List.length_take];omega
def yc(k:Int)(l:List Row):Prop:=∀x∈l,x.Key=k/\0<=x.Val/\x.Val<=99/\InR x.Diff/\Ea x.At=true
theorem yc.items{k:Int}{l:List Row}(h:yc k l)(t:Time):∀x∈Va l t,x.Key=k/\0<=x.Val/\x.Val<=99/\InR x.Count:=λx hx=>by
 obtain⟨r,hr,rfl⟩:=List.mem_map.1 hx;have:=h r (List.mem_filter.1 hr).1;exact⟨this.1,this.2.1,this.2.2.1,this.2.2.2.1⟩
theorem yc.pres{k:Int}{l:List Row}(h:yc k l)(t:Time):∀x∈xd l t,x.Key=k/\0<=x.Val/\x.Val<=99/\InR x.Count:=λx hx=>by
 obtain⟨y,hy,e1,e2⟩:=yD hx;have:=h.items t y hy;exact⟨e1▸this.1,e2▸this.2.1,e2▸this.2.2.1,nD hx⟩
theorem yc.presLen{k:Int}{l:List Row}(h:yc k l)(t:Time):(xd l t).length<=100:=aN λx hx=>by have:=h.items t x hx;exact⟨this.1,this.2.1,this.2.2.1⟩
theorem Ph{k:Int}{a:List Row}(h:∀x∈a,vb x=true):yc k (na k a):=λx hx=>by
 obtain⟨h1,h2⟩:=List.mem_filter.1 hx;have h3:=h x h1;have h4:=Og h3;have h5:=Zf h3;simp only[vb,decide_eq_true_eq]at h3;exact⟨by simpa using h2,h3.2.2.1,h3.2.2.2.1,h5,h4⟩
theorem fZ{kind k:Int}{own made:List Row}{t:Time}(ho:yc k own)(hm:yc k made):∀x∈Wa kind k (xd own t)++(xd made t).map Jb,x.Key=k/\0<=x.Val/\x.Val<=99/\InR x.Count:=λx hx=>by
 rcases List.mem_append.1 hx with hx|hx
 ·have:=cN (λy hy=>⟨(ho.pres t y hy).2.1,(ho.pres t y hy).2.2.1⟩) hx;exact⟨this.1,this.2.1,this.2.2.1,by rw[this.2.2.2];unfold InR;omega⟩
 ·obtain⟨y,hy,rfl⟩:=List.mem_map.1 hx;have:=hm.pres t y hy;exact⟨this.1,this.2.1,this.2.2.1,XM y⟩
theorem zD{kind k:Int}{own made:List Row}{t:Time}(ho:yc k own)(hm:yc k made):(∀x∈Oh kind k own made t,x.Key=k/\0<=x.Val/\x.Val<=99/\InR x.Count)/\(Oh kind k own made t).length<=100:=by
 have hd:=fZ (kind:=kind) (t:=t) ho hm;refine⟨λx hx=>?_,aN λx hx=>by have:=hd x hx;exact⟨this.1,this.2.1,this.2.2.1⟩⟩;obtain⟨y,hy,e1,e2⟩:=yD hx;have:=hd y hy;exact⟨e1▸this.1,e2▸this.2.1,e2▸this.2.2.1,nD hx⟩
theorem gZ{kind k:Int}{own made:List Row}{t:Time}(ho:yc k own)(hm:yc k made)(ht:Ea t=true):yc k (Ue kind k own made t)/\(Ue kind k own made t).length<=made.length+100:=by
 obtain⟨h1,h2⟩:=zD (kind:=kind) (t:=t) ho hm;refine⟨λx hx=>?_,by unfold Ue;rw[List.length_append,List.length_map];omega⟩;rcases List.mem_append.1 hx with hx|hx
 .exact hm x hx
 ·obtain⟨y,hy,rfl⟩:=List.mem_map.1 hx;have:=h1 y hy;exact⟨this.1,this.2.1,this.2.2.1,this.2.2.2,ht⟩
theorem eN(kind k:Int)(own:List Row)(ts:List Time)(t:Time):Ab kind k own (ts++[t])=Ue kind k own (Ab kind k own ts) t:=by
 unfold Ab;rw[List.foldl_append];rfl
theorem Yl{kind k:Int}{own:List Row}(ho:yc k own)(ts:List Time)(ht:∀t∈ts,Ea t=true):yc k (Ab kind k own ts)/\(Ab kind k own ts).length<=100*ts.length:=by
 suffices ∀ (ts:List Time) (m:List Row),(∀t∈ts,Ea t=true)->yc k m->yc k (ts.foldl (Ue kind k own) m)/\(ts.foldl (Ue kind k own) m).length<=m.length+100*ts.length by
  have:=this ts [] ht (λx hx=>by cases hx);simpa [Ab] using this
 intro ts
 induction ts with
 |nil=>intro m _ hm;exact⟨hm,by simp⟩
 |cons t r ih=>
  intro m h hm;obtain⟨h1,h2⟩:=gZ (kind:=kind) ho hm (h t (by simp));obtain⟨h3,h4⟩:=ih _ (λt ht=>h t (by simp[ht])) h1;rw[List.foldl_cons];exact⟨h3,by rw[List.length_cons];omega⟩
theorem Zl{a:List Row}{k:Int}:(∀t∈Xa a k,Ea t=true)/\(Xa a k).length<=64:=by
 unfold Xa;split
 ·refine⟨λt ht=>?_,AA _ 8⟩;have:=BA.1 ht;simp only[Ea,decide_eq_true_eq];omega
 .exact⟨by simp,by simp⟩
theorem hZ{kind k:Int}{own made:List Row}{t:Time}(hm:yc k made):Oh kind k own made t=gathI (Wa kind k (xd own t)++(Va made t).map Jb):=eZ λx hx=>(hm.items t x hx).2.2.2
theorem AD{kind:Int}{a:List Row}(h:∀x∈a,vb x=true):(∀x∈Ce kind a,InR x.Diff/\Ea x.At=true)/\(Ce kind a).length<=25600:=by
 have key:∀k:Int,yc k (Ab kind k (na k a) (Xa a k))/\(Ab kind k (na k a) (Xa a k)).length<=6400:=λk=>by
  obtain⟨h1,h2⟩:=Zl (a:=a) (k:=k);obtain⟨h3,h4⟩:=Yl (kind:=kind) (Ph (k:=k) h) _ h1;exact⟨h3,by omega⟩
 refine⟨λx hx=>?_,?_⟩
 ·obtain⟨k,_,hk⟩:=List.mem_flatMap.1 hx;have:=(key k).1 x hk;exact⟨this.2.2.2.1,this.2.2.2.2⟩
 ·have h0:=(key 0).2;have h1:=(key 1).2;have h2:=(key 2).2;have h3:=(key 3).2;show (Ab kind (0:Nat) _ _++(Ab kind (1:Nat) _ _++(Ab kind (2:Nat) _ _++(Ab kind (3:Nat) _ _++[])))).length<=_;simp only[List.length_append,List.length_nil];simp only[Int.natCast_zero,Int.natCast_one]at h0 h1 h2 h3⊢;have e2:((2:Nat):Int)=2:=rfl;have e3:((3:Nat):Int)=3:=rfl;have e0:((0:Nat):Int)=0:=rfl;have e1:((1:Nat):Int)=1:=rfl;simp only[e2,e3];omega
end Go.Proofs.YthfkpijcajdnhaaGreat

namespace Go.Proofs.YthfkpijcajdnhaaGreat
open Go
theorem cg{α:Type}(ok:α->Bool):∀ (xs:List α) (y:Option α),Sb (λ_ x=>!ok x) y xs=xs.all ok
 |[],_=>rfl
 |x::r,y=>by simp only[Sb,List.all_cons,cg ok r (some x),Bool.not_not]
theorem ia.scan{ρ α:Type}[Inhabited ρ]{step:Int->Lp Int ρ}{ob:Int->Prop}(xs:List α)(bad:Option α->α->Bool){no yes:ρ}
  (hstep:∀l x r,xs=l++x::r->ob (l.length:Int)/\step (l.length:Int)=(if bad l.getLast? x=true then .out no else .go (((l.length+1:Nat)):Int))) (hend:ob (xs.length:Int)/\step (xs.length:Int)=.out yes) :
  ia step ob 0 (if Sb bad none xs=true then yes else no):=by
 obtain⟨q,h1,h2⟩:=ia.list (step:=step) (ob:=ob) (Q:=λq=>q=if Sb bad none xs=true then yes else no) xs (λi (_:Unit)=>(i:Int)) (λl _=>Sb bad none xs=Sb bad l.getLast? (xs.drop l.length)) (b0:=()) rfl rfl
  (λl x r _ hx hI=>by
    obtain⟨a1,a2⟩:=hstep l x r hx;have hdrop:xs.drop l.length=x::r:=by rw[hx];simp
    have hdrop2:xs.drop (l++[x]).length=r:=by rw[hx];simp
    rw[hdrop]at hI;simp only[Sb]at hI;refine⟨a1,?_⟩;cases hb:bad l.getLast? x with
    |true=>
     rw[hb]at hI a2;exact .inr ⟨no,a2,by rw[hI];rfl⟩
    |false=>
     rw[hb]at hI a2;exact .inl ⟨(),a2,by rw[hdrop2,hI];simp⟩)
  (λ_ hI=>by
    rw[List.drop_length]at hI;exact⟨hend.1,yes,hend.2,by rw[hI];rfl⟩)
 rw[h2]at h1;exact h1
theorem fN(t:Time):Hf t=Ea t:=by
 show (cond (cond (cond (cmp .geq t.A 0) (cmp .leq t.A 7) false) (cmp .geq t.B 0) false) (cmp .leq t.B 7) false)=_;rw[Oi,Re,Oi,Re,Bool.eq_iff_iff];simp[Ea];omega
theorem gN(t:Time):ji t:=trivial
theorem am(t:Time):qe t=Ea t:=by
 show (cond (Nd t.A 0 7) (Nd t.B 0 7) false)=_;rw[Ul,Ul,Bool.eq_iff_iff];simp[Ea];omega
theorem iZ(s t:Time):DI s t=Bf s t:=by
 show (cond (cmp .leq s.A t.A) (cmp .leq s.B t.B) false)=_;rw[Re,Re];unfold Bf;cases decide (s.A<=t.A)<;>rfl
theorem iN(s t:Time):FI s t:=trivial
theorem jN(s t:Time):Bv s t=(Ea s&&Ea t&&Bf s t):=by
 show (cond (cond (cond (qe s) (qe t) false) (cmp .leq s.A t.A) false) (cmp .leq s.B t.B) false)=_;rw[am,am,Re,Re];unfold Bf;cases Ea s<;>cases Ea t<;>cases decide (s.A<=t.A)<;>rfl
theorem jZ(x:Row):pE x=vb x:=by
 show (cond (cond (cond (Nd x.Key 0 3) (Nd x.Val 0 99) false) (qe x.At) false) (Nd x.Diff (-99999) 99999) false)=_;rw[am,Ul,Ul,Ul,Bool.eq_iff_iff];simp[vb,Ea];omega
theorem kN(xs:List Row)(hl:xs.length<1000000000):Ao xs/\zo xs=Ib xs:=by
 have k2:ia (λs:Int=>ca (bk xs (aa .row xs) s)) (λs=>yo xs (aa .row xs) s) 0 (if Sb (λ_ x=>!vb x) none xs=true then .x () else .r false):=by
  refine ia.scan xs _ (λl x r hx=>?_) ?_
  ·have hlen:xs.length=l.length+(r.length+1):=by rw[hx];simp
   have hrd:rd .row xs (l.length:Int)=x:=by rw[hx];exact Za
   have hin:inb (l.length:Int) (aa .row xs):=by rw[hx];exact Ta (t:=.row)
   have hlss:cmp .lss (l.length:Int) (aa .row xs)=true:=by rw[hx];exact fb
   have e1:(cond (cond (cond (cond (cond (cond (cmp .lss x.Key 0) true (cmp .geq x.Key 4)) true (cmp .lss x.Val 0)) true (cmp .geq x.Val 100)) true (!(Hf x.At))) true (cmp .lss x.Diff (-99999))) true (cmp .gtr x.Diff 99999))=!vb x:=by
    rw[fN];simp only[fc,Oi,Yc];rw[Bool.eq_iff_iff];simp[vb,Ea];omega
   simp only[yo,bk,xo,Tr.val,Tr.ob,fa,hlss,hrd,Ua (l:=l) (by omega),e1];refine⟨by simp[hin,gN],?_⟩;cases vb x<;>rfl
  ·have hend:cmp .lss (xs.length:Int) (aa .row xs)=false:=gb (t:=.row);simp only[yo,bk,xo,Tr.val,Tr.ob,fa,hend];exact⟨by simp,rfl⟩
 have a2:RS xs (aa .row xs)=_:=k2.v;have b2:SS xs (aa .row xs):=k2.t;rw[cg]at a2;simp only[Ao,zo,JH,IH,Jx,Ix,US,TS,Hx,Gx,lpS,Tr.val,Tr.ob,Ib,a2];refine⟨by simp[b2],?_⟩;cases xs.all vb with
 |false=>rfl
 |true=>
  show cmp .leq (xs.length:Int) 400=_;rw[Re,Bool.true_and,Bool.eq_iff_iff];simp;omega
theorem bm(xs:List Row)(hl:xs.length<1000000000):Rg xs/\jg xs=Ib xs:=by
 have k2:ia (λs:Int=>ca (Zi xs s)) (λs=>wm xs s) 0 (if Sb (λ_ x=>!vb x) none xs=true then .x () else .r false):=by
  refine ia.scan xs _ (λl x r hx=>?_) ?_
  ·have hlen:xs.length=l.length+(r.length+1):=by rw[hx];simp
   have hrd:rd .row xs (l.length:Int)=x:=by rw[hx];exact Za
   have hin:inb (l.length:Int) (aa .row xs):=by rw[hx];exact Ta (t:=.row)
   have hlss:cmp .lss (l.length:Int) (aa .row xs)=true:=by rw[hx];exact fb
   simp only[wm,Zi,vm,Tr.val,Tr.ob,fa,hlss,hrd,Ua (l:=l) (by omega),jZ];refine⟨by simp[hin,aZ],?_⟩;cases vb x<;>rfl
  ·have hend:cmp .lss (xs.length:Int) (aa .row xs)=false:=gb (t:=.row);simp only[wm,Zi,vm,Tr.val,Tr.ob,fa,hend];exact⟨by simp,rfl⟩
 have a2:FO xs=_:=k2.v;have b2:GO xs:=k2.t;rw[cg]at a2
 have hg:cmp .gtr (aa .row xs) 400=!decide (xs.length<=400):=by
  show cmp .gtr (xs.length:Int) 400=_;rw[Yc,Bool.eq_iff_iff];simp;omega
 simp only[Rg,jg,vE,uE,Fs,Es,LO,JO,Ds,Cs,lpS,Tr.val,Tr.ob,Ib,a2,hg];refine⟨by simp[b2],?_⟩;cases decide (xs.length<=400)<;>cases xs.all vb<;>rfl
theorem kZ(x y:Row):Dx x y/\Cx x y=ltK (rK x) (rK y):=by
 have ha:yH x.At y.At=(cond (cmp .lss x.At.A y.At.A) true (cond (cmp .eql x.At.A y.At.A) (cmp .lss x.At.B y.At.B) false)):=rfl;have hp:zH x.At y.At:=trivial;simp only[Dx,Cx,DH,CH,Bx,Tr.val,Tr.ob,fa,ha,rK,ltK,Ae,fc,Db];refine⟨by simp[hp],?_⟩;by_cases h1:x.Key=y.Key
 ·by_cases h2:x.Val=y.Val
  ·simp only[h1,h2,decide_true,Bool.not_true,ocR];rw[Bool.eq_iff_iff];simp
  ·simp only[h1,h2,decide_true,decide_false,Bool.not_true,Bool.not_false,ocR];simp
 ·simp only[h1,decide_false,Bool.not_false,ocR];simp
theorem lN{α:Type}{l:List α}{x:α}{r xs:List α}(hx:xs=l++x::r)(hl:xs.length<1000000000):(l=[]/\l.getLast? = none)\/∃l' y,l=l'++[y]/\l.getLast? = some y/\ar .sub .i64 (l.length:Int) 1=(l'.length:Int)/\xs=l'++y::(x::r)/\cmp .gtr (l.length:Int) 0=true:=by
 have hlen:xs.length=l.length+(r.length+1):=by rw[hx];simp
 rcases last_cases l with h|⟨l',y,h,h2⟩
 .exact .inl h
 ·refine .inr ⟨l',y,h,h2,?_,?_,?_⟩
  .rw[Ng (by omega),h];simp
  .rw[hx,h];simp
  .rw[Yc,h];simp
theorem vr(xs:List Row)(hl:xs.length<1000000000):nk xs/\jk xs=Qa xs:=by
 obtain⟨r1,r2⟩:=kN xs hl
 have k2:ia (λs:Int=>ca (li xs (aa .row xs) s)) (λs=>ik xs (aa .row xs) s) 0 (if Sb Ad none xs=true then .x () else .r false):=by
  refine ia.scan xs _ (λl x r hx=>?_) ?_
  ·have hlen:xs.length=l.length+(r.length+1):=by rw[hx];simp
   have hrd:rd .row xs (l.length:Int)=x:=by rw[hx];exact Za
   have hin:inb (l.length:Int) (aa .row xs):=by rw[hx];exact Ta (t:=.row)
   have hlss:cmp .lss (l.length:Int) (aa .row xs)=true:=by rw[hx];exact fb
   rcases lN hx hl with⟨h1,h2⟩|⟨l',y,h1,h2,h3,h4,h5⟩
   ·have hg:cmp .gtr (l.length:Int) 0=false:=by rw[h1];rfl
    simp only[ik,li,fk,Tr.val,Tr.ob,fa,hlss,hrd,Ua (l:=l) (by omega),hg,h2,Ad,Db];refine⟨by simp[hin],?_⟩;cases decide (x.Diff=0)<;>rfl
   ·have hy:rd .row xs (l'.length:Int)=y:=by rw[h4];exact Za
    have hin2:inb (l'.length:Int) (aa .row xs):=by rw[h4];exact Ta (t:=.row)
    obtain⟨q1,q2⟩:=kZ y x;simp only[ik,li,fk,Tr.val,Tr.ob,fa,hlss,hrd,Ua (l:=l) (by omega),h2,h3,hy,h5,Ad,Db,q2];refine⟨by simp[hin,hin2,q1],?_⟩;cases decide (x.Diff=0)<;>cases ltK (rK y) (rK x)<;>rfl
  ·have hend:cmp .lss (xs.length:Int) (aa .row xs)=false:=gb (t:=.row);simp only[ik,li,fk,Tr.val,Tr.ob,fa,hend];exact⟨by simp,rfl⟩
 have a2:WS xs (aa .row xs)=_:=k2.v;have b2:XS xs (aa .row xs):=k2.t;simp only[nk,jk,QH,PH,Ox,Nx,ZS,YS,Mx,Lx,lpS,Tr.val,Tr.ob,fa,Qa,a2,r2];refine⟨by simp[b2,r1],?_⟩;cases Sb Ad none xs<;>rfl
theorem yr(xs:List Row)(hl:xs.length<1000000000):jj xs/\ij xs=Qa xs:=by
 obtain⟨r1,r2⟩:=bm xs hl
 have k2:ia (λs:Int=>ca (Yh xs s)) (λs=>gj xs s) 0 (if Sb Ad none xs=true then .x () else .r false):=by
  refine ia.scan xs _ (λl x r hx=>?_) ?_
  ·have hlen:xs.length=l.length+(r.length+1):=by rw[hx];simp
   have hrd:rd .row xs (l.length:Int)=x:=by rw[hx];exact Za
   have hin:inb (l.length:Int) (aa .row xs):=by rw[hx];exact Ta (t:=.row)
   have hlss:cmp .lss (l.length:Int) (aa .row xs)=true:=by rw[hx];exact fb
   rcases lN hx hl with⟨h1,h2⟩|⟨l',y,h1,h2,h3,h4,h5⟩
   ·have hg:cmp .gtr (l.length:Int) 0=false:=by rw[h1];rfl
    simp only[gj,Yh,fj,Tr.val,Tr.ob,fa,hlss,hrd,Ua (l:=l) (by omega),hg,h2,Ad,Db];refine⟨by simp[hin],?_⟩;cases decide (x.Diff=0)<;>rfl
   ·have hy:rd .row xs (l'.length:Int)=y:=by rw[h4];exact Za
    have hin2:inb (l'.length:Int) (aa .row xs):=by rw[h4];exact Ta (t:=.row)
    obtain⟨q1,q2⟩:=PM y x
    have q3:cmp .geq (Vh y x) 0=!ltK (rK y) (rK x):=by
     rw[q2,Oi];cases ltK (rK y) (rK x)<;>cases ltK (rK x) (rK y)<;>rfl
    simp only[gj,Yh,fj,Tr.val,Tr.ob,fa,hlss,hrd,Ua (l:=l) (by omega),h2,h3,hy,h5,Ad,Db,q3];refine⟨by simp[hin,hin2,q1],?_⟩;cases decide (x.Diff=0)<;>cases ltK (rK y) (rK x)<;>rfl
  ·have hend:cmp .lss (xs.length:Int) (aa .row xs)=false:=gb (t:=.row);simp only[gj,Yh,fj,Tr.val,Tr.ob,fa,hend];exact⟨by simp,rfl⟩
 have a2:jP xs=_:=k2.v;have b2:kP xs:=k2.t;simp only[jj,ij,UE,SE,ut,qt,mP,lP,nt,mt,lpS,Tr.val,Tr.ob,fa,Qa,a2,r2];refine⟨by simp[b2,r1],?_⟩;cases Sb Ad none xs<;>cases Ib xs<;>rfl
theorem mN(xs:List Row)(t:Time)(hl:xs.length<1000000000):Vo xs t/\Uo xs t=xd xs t:=by
 have hlt:∀l:List Row,(Va l t).length<=l.length:=λl=>by unfold Va;rw[List.length_map];exact List.length_filter_le _ _
 have k2:ia (λs:LI×Int=>ca (yk t xs (aa .row xs) s.1 s.2)) (λs=>To t xs (aa .row xs) s.1 s.2) ([],0) (.x (Va xs t)):=by
  refine ia.fold xs (λi b=>(b,(i:Int))) (λl=>Va l t) rfl (λl x r hx=>?_) ?_
  ·have hlen:xs.length=l.length+(r.length+1):=by rw[hx];simp
   have hrd:rd .row xs (l.length:Int)=x:=by rw[hx];exact Za
   have hin:inb (l.length:Int) (aa .row xs):=by rw[hx];exact Ta (t:=.row)
   have hlss:cmp .lss (l.length:Int) (aa .row xs)=true:=by rw[hx];exact fb
   have hl1:=hlt l;have hlim:∀y,lim (aa .item (Va l t)) (aa .item [y]):=λy=>Wb (t:=.item) (show (Va l t).length<1099511627776 by omega);simp only[To,yk,So,My,MT,JT,Ly,Tr.val,Tr.ob,fa,hlss,hrd,Ua (l:=l) (by omega),iZ];rw[lD];cases hb:Bf x.At t with
   |true=>exact⟨by simp[hin,hlim,iN],by simp[ca,Va,hb,rIt]⟩
   |false=>exact⟨by simp[hin,hlim,iN],by simp[ca,Va,hb]⟩
  ·have hend:cmp .lss (xs.length:Int) (aa .row xs)=false:=gb (t:=.row);simp only[To,yk,So,Tr.val,Tr.ob,hend];exact⟨by simp,rfl⟩
 have a2:NT t xs (aa .row xs)=.x (Va xs t):=k2.v;have b2:QT t xs (aa .row xs):=k2.t
 have hg:Kl (Va xs t):=by
  have:=hlt xs;show lim _ 1;simp only[lim,aa];omega
 simp only[Vo,Uo,MI,JI,Qy,Py,UT,ST,Oy,Ny,lpS,Tr.val,Tr.ob,fa,a2,ocR];exact⟨by simp[b2,hg],rfl⟩
theorem lZ{xs:List Row}(h:∀x∈xs,InR x.Diff)(t:Time):∀x∈Va xs t,InR x.Count:=λx hx=>by
 obtain⟨r,hr,rfl⟩:=List.mem_map.1 hx;exact h r ((List.mem_filter.1 hr).1)
theorem mZ(xs:List Row)(t:Time)(hl:xs.length<10000000):Uv xs t/\Tv xs t=if Ib xs=true/\Ea t=true then xd xs t else []:=by
 obtain⟨r1,r2⟩:=bm xs (by omega);simp only[Uv,Tv,yG,xG,Sv,Rv,pR,oR,Qv,Pv,lpS,Tr.val,Tr.ob,fa,r2,am];by_cases h:Ib xs=true/\Ea t=true
 ·obtain⟨h1,h2⟩:=h;obtain⟨m1,m2⟩:=Bb h1;have hlt:∀l:List Row,(Va l t).length<=l.length:=λl=>by unfold Va;rw[List.length_map];exact List.length_filter_le _ _
  have k2:ia (λs:LI×Int=>ca (Mj xs t s.1 s.2)) (λs=>Hn xs t s.1 s.2) ([],0) (.x (Va xs t)):=by
   refine ia.fold xs (λi b=>(b,(i:Int))) (λl=>Va l t) rfl (λl x r hx=>?_) ?_
   ·have hlen:xs.length=l.length+(r.length+1):=by rw[hx];simp
    have hrd:rd .row xs (l.length:Int)=x:=by rw[hx];exact Za
    have hin:inb (l.length:Int) (aa .row xs):=by rw[hx];exact Ta (t:=.row)
    have hlss:cmp .lss (l.length:Int) (aa .row xs)=true:=by rw[hx];exact fb
    have hl1:=hlt l;have hlim:∀y,lim (aa .item (Va l t)) (aa .item [y]):=λy=>Wb (t:=.item) (show (Va l t).length<1099511627776 by omega);have hx2:=Og (m2 x (by rw[hx];simp));simp only[Hn,Mj,Gn,Ov,lR,kR,Nv,Tr.val,Tr.ob,fa,hlss,hrd,Ua (l:=l) (by omega),jN,hx2,h2,Bool.true_and];rw[lD];cases hb:Bf x.At t with
    |true=>exact⟨by simp[hin,hlim,ur],by simp[ca,Va,hb,rIt]⟩
    |false=>exact⟨by simp[hin,hlim,ur],by simp[ca,Va,hb]⟩
   ·have hend:cmp .lss (xs.length:Int) (aa .row xs)=false:=gb (t:=.row);simp only[Hn,Mj,Gn,Tr.val,Tr.ob,hend];exact⟨by simp,rfl⟩
  have a2:mR xs t=.x (Va xs t):=k2.v;have b2:nR xs t:=k2.t;obtain⟨p1,p2⟩:=UM (Va xs t) (by have:=hlt xs;omega) (lZ (λx hx=>Zf (m2 x hx)) t);simp only[h1,h2,a2,p2];refine⟨by simp[r1,Qi,b2,p1],?_⟩;rw[if_pos ⟨trivial,trivial⟩];rfl
 ·rw[if_neg h]
  have hc:(cond (!Ib xs) true (!Ea t))=true:=by
   cases h1:Ib xs<;>cases h2:Ea t<;>simp[h1,h2]at h⊢
  simp only[hc];exact⟨by simp[r1,Qi],rfl⟩
theorem nZ(xs:List Row):Rw.gathI xs=ab xs:=by
 have e:Rw.chI xs=(chR xs).map λq=>(q.1++[0],q.2):=by
  unfold Rw.chI chR;rw[List.map_map];rfl
 have hm:=IM (n:=4) (m:=5) (f:=λk=>k++[0]) (λa b h=>List.append_cancel_right h) (λk hk=>by simp[hk]) (λa b ha hb=>sD a b (by rw[ha,hb])) (pD xs);unfold Rw.gathI ab;rw[e,hm,List.map_map];refine List.map_congr_left λp hp=>?_;obtain⟨x,_,hx⟩:=GY hp;obtain⟨k,d⟩:=p;have hx:k=rK x:=hx;subst hx;rfl
theorem oZ(xs:List Row)(hl:xs.length<1000000000):mK xs/\lK xs=ab xs:=by
 refine⟨?_,nZ xs⟩;show lim _ 1;simp only[lim,aa];omega
theorem nN:∀ (xs:List Row) (y:Option Row),xs.Pairwise Te->(∀x∈xs,x.Diff≠0)->(∀z,y=some z->∀x∈xs,Te z x)->Sb Ad y xs=true
 |[],_,_,_,_=>rfl
 |x::r,y,hp,hd,hy=>by
  have hp':=List.pairwise_cons.1 hp
  have h1:Ad y x=false:=by
   have hx:=hd x (by simp);cases y with
   |none=>simp[Ad,hx]
   |some z=>
    have:ltK (rK z) (rK x)=true:=hy z rfl x (by simp);simp[Ad,hx,this]
  simp only[Sb,h1,Bool.not_false,Bool.true_and];exact nN r (some x) hp'.2 (λz hz=>hd z (by simp[hz])) λz hz w hw=>by cases hz;exact hp'.1 w hw
theorem oN(a b:List Row)(hl:a.length<1000000000):sA a b:=by
 simp only[sA,MJ,Rp,Qp,fV,Pp,Np,lpS,Tr.ob];refine⟨λ_=>trivial,λhne=>?_⟩
 have hab:a.length=b.length:=by
  have h1:aa .row a=(a.length:Int):=rfl;have h2:aa .row b=(b.length:Int):=rfl;rw[Ae,h1,h2]at hne;simp at hne;omega
 obtain⟨q,h1,_⟩:=ia.list (step:=λs:Int=>ca (qg a b s)) (ob:=λs=>dh a b s) (Q:=λ_=>True) a (λi (_:Unit)=>(i:Int)) (λ_ _=>True) (b0:=()) rfl trivial
  (λl x r _ hx _=>by
    have hlen:a.length=l.length+(r.length+1):=by rw[hx];simp
    have hin:inb (l.length:Int) (aa .row a):=by rw[hx];exact Ta (t:=.row)
    have hin2:inb (l.length:Int) (aa .row b):=by
     have h2:aa .row b=(b.length:Int):=rfl;rw[h2];unfold inb;omega
    have hlss:cmp .lss (l.length:Int) (aa .row a)=true:=by rw[hx];exact fb
    simp only[dh,qg,qi,Tr.val,Tr.ob,fa,hlss,Ua (l:=l) (by omega)];refine⟨by simp[hin,hin2],?_⟩;generalize (!(cmp .eql (rd .row a (l.length:Int)).Key (rd .row b (l.length:Int)).Key&&(cmp .eql (rd .row a (l.length:Int)).Val (rd .row b (l.length:Int)).Val&&(cmp .eql (rd .row a (l.length:Int)).At.A (rd .row b (l.length:Int)).At.A&&(cmp .eql (rd .row a (l.length:Int)).At.B (rd .row b (l.length:Int)).At.B&&(cmp .eql (rd .row a (l.length:Int)).Diff (rd .row b (l.length:Int)).Diff&&true))))))=c;cases c with
    |true=>exact .inr ⟨_,rfl,trivial⟩
    |false=>exact .inl ⟨(),rfl,trivial⟩)
  (λ_ _=>by
    have hend:cmp .lss (a.length:Int) (aa .row a)=false:=gb (t:=.row);simp only[dh,qg,qi,Tr.val,Tr.ob,fa,hend];exact⟨by simp,_,rfl,trivial⟩)
 have b2:dV a b:=h1.t;simp[b2]
theorem pN(a:List Row)(hl:a.length<1000000000):rA a a=true:=by
 have k2:ia (λs:Int=>ca (qg a a s)) (λs=>dh a a s) 0 (if Sb (λ_ (_:Row)=>false) none a=true then .x () else .r false):=by
  refine ia.scan a _ (λl x r hx=>?_) ?_
  ·have hlen:a.length=l.length+(r.length+1):=by rw[hx];simp
   have hin:inb (l.length:Int) (aa .row a):=by rw[hx];exact Ta (t:=.row)
   have hlss:cmp .lss (l.length:Int) (aa .row a)=true:=by rw[hx];exact fb
   simp only[dh,qg,qi,Tr.val,Tr.ob,fa,hlss,Ua (l:=l) (by omega),Db,decide_true,Bool.and_true,Bool.not_true];exact⟨by simp[hin],rfl⟩
  ·have hend:cmp .lss (a.length:Int) (aa .row a)=false:=gb (t:=.row);simp only[dh,qg,qi,Tr.val,Tr.ob,fa,hend];exact⟨by simp,rfl⟩
 have a2:cV a a=_:=k2.v
 have hs:Sb (λ_ (_:Row)=>false) none a=true:=by
  exact (cg (λ_:Row=>true) a none).trans (List.all_eq_true.2 λ_ _=>rfl)
 rw[hs]at a2;simp only[rA,LJ,Rp,Qp,eV,Pp,Np,lpS,Tr.val,a2,Ae,decide_true,Bool.not_true,if_true];rfl
end Go.Proofs.YthfkpijcajdnhaaGreat

namespace Go.Proofs.YthfkpijcajdnhaaGreat
open Go Tg
theorem FD{n:Nat}:∀ {m:MP},Asc m->yb n m->∀p∈m,sumT m p.1=p.2
 |[],_,_,p,hp=>by cases hp
 |q::r,ha,hk,p,hp=>by
  have ha':=List.pairwise_cons.1 ha
  have hno:∀ {k:List Int} (l:MP),(∀s∈l,s.1≠k)->sumT l k=0:=by
   intro k l
   induction l with
   |nil=>intro _;rfl
   |cons s l ih=>
    intro h;simp only[sumT];rw[if_neg (h s (by simp)),ih λs hs=>h s (by simp[hs])];rfl
  have hne:∀s∈r,s.1≠q.1:=λs hs e=>by
   have:=ha'.1 s hs;rw[e,Me]at this;cases this
  simp only[sumT];rcases List.mem_cons.1 hp with rfl|hp
  .rw[if_pos rfl,hno r hne,Int.add_zero]
  .rw[if_neg (λe=>hne p hp e.symm),FD ha'.2 (λs hs=>hk s (by simp[hs])) p hp,Int.zero_add]
theorem T1{n:Nat}{m:MP}(ha:Asc m)(hk:yb n m)(h0:∀p∈m,p.2≠0/\InR p.2):mc m=m:=rr (Gh hk) ha λp=>by
  rw[ze];constructor
  ·rintro⟨h1,h2⟩;obtain⟨q,hq,e⟩:=Ll (h1▸h2);have h3:=FD ha hk q hq;rw[e]at h3;obtain⟨g1,g2⟩:=Pl m p.1;have:p.2=q.2:=by rw[h1,g1.eq g2 (h3▸(h0 q hq).2),h3]
   have:q=p:=Prod.ext e this.symm;exact this▸hq
  ·intro hp;obtain⟨g1,g2⟩:=Pl m p.1;have h3:=FD ha hk p hp;exact⟨by rw[g1.eq g2 (h3▸(h0 p hp).2),h3],(h0 p hp).1⟩
def Canon(s:List Item):Prop:=(s.Pairwise λx y=>ltK (kI x) (kI y)=true)/\∀x∈s,x.Count≠0/\InR x.Count
theorem U1{s:List Item}{x:Item}(hx:x∈gathI s):x.Count≠0:=by
 have:(kI x,x.Count)∈chI (gathI s):=List.mem_map.2 ⟨x,hx,rfl⟩;rw[Ml]at this;exact (ze.1 this).2
theorem V1(s:List Item):Canon (gathI s):=⟨ZM s,λ_ hx=>⟨U1 hx,nD hx⟩⟩
theorem Canon.neg{s:List Item}(h:Canon s)(hm:∀x∈s,x.Count≠-9223372036854775808):Canon (s.map Jb):=by
 refine⟨?_,λx hx=>?_⟩
 ·rw[List.pairwise_map];exact h.1
 ·obtain⟨y,hy,rfl⟩:=List.mem_map.1 hx;have h1:=h.2 y hy;have h2:=hm y hy;have h3:IntKind.wrap .i64 (0 - y.Count)=0 - y.Count:=mD (by unfold InR at *;omega);show IntKind.wrap .i64 (0 - y.Count)≠0/\InR (IntKind.wrap .i64 (0 - y.Count));rw[h3];unfold InR at *;omega
theorem X1(x:Row)(l:List Row)(t:Time):Va (x::l) t=(if Bf x.At t=true then [rIt x] else [])++Va l t:=by
 unfold Va;rw[List.filter_cons];split<;>simp
theorem Y1(t:Time):Va [] t=[]:=rfl
theorem GD{h:Int}{a:List Row}(ha:∀x∈a,InR x.Diff):∀x∈xc h a,InR x.Diff:=λx hx=>by
 obtain⟨y,hy,hx⟩:=List.mem_flatMap.1 hx;unfold Yf at hx;split at hx
 .simp at hx;subst hx;exact ha y hy
 .cases hx
theorem dO(a:List Row):∀x∈ib a,InR x.Diff:=λx hx=>by
 obtain⟨y,_,rfl⟩:=List.mem_map.1 hx;exact Ol _
theorem Dr{a b:List Row}(ha:∀x∈a,vb x=true)(hb:∀x∈b,vb x=true):∀x∈dc a b,InR x.Diff/\Ea x.At=true:=λx hx=>by
 obtain⟨y,hy,hx⟩:=List.mem_flatMap.1 hx;obtain⟨z,hz,hx⟩:=List.mem_flatMap.1 hx;unfold ic at hx;split at hx
 ·simp at hx;subst hx;have h1:=ha y hy;have h2:=hb z hz;simp only[vb,decide_eq_true_eq]at h1 h2;refine⟨?_,?_⟩
  ·show InR (y.Diff*z.Diff)
   have e1:y.Diff*z.Diff<=99999*99999/\-(99999*99999)<=y.Diff*z.Diff:=by
    have hy1:(y.Diff.natAbs:Int)<=99999:=by omega
    have hz1:(z.Diff.natAbs:Int)<=99999:=by omega
    have hm:((y.Diff*z.Diff).natAbs:Int)<=99999*99999:=by
     rw[Int.natAbs_mul,Int.natCast_mul];exact Int.mul_le_mul hy1 hz1 (by omega) (by omega)
    omega
   unfold InR;omega
  ·show Ea (bb y.At z.At)=true;simp only[Ea,bb,si,decide_eq_true_eq];refine⟨?_,?_,?_,?_⟩<;>split<;>omega
 .cases hx
end Go.Proofs.YthfkpijcajdnhaaGreat

namespace Go.Proofs.YthfkpijcajdnhaaGreat
open Go Tg
theorem De{a b:Int}(h:0<=a):ar .rem .i64 a b=a % b:=by rw[pr,Int.tmod_eq_emod_of_nonneg h]
theorem vZ{k v h:Int}(hk:0<=k/\k<=3)(hv:0<=v/\v<=99)(hh:1<=h/\h<=7):Ux k v h/\Tx k v h=((cc h k v).1,(cc h k v).2.1,(cc h k v).2.2,()):=by
 simp only[Ux,Tx,WH,VH,Sx,Tr.val,Tr.ob,fa,Db,fc];have hc:h=1\/h=2\/h=3\/h=4\/h=5\/h=6\/h=7:=by omega
 rcases hc with rfl|rfl|rfl|rfl|rfl|rfl|rfl
 ·refine⟨by simp,?_⟩;simp[ocR,cc,De hv.1];rw[Ng (by omega),nc (by omega)]
 ·refine⟨by simp,?_⟩;simp[ocR,cc];rw[nc (by omega),De (by omega)]
 ·refine⟨by simp,?_⟩;simp[ocR,cc,De hv.1]
 .exact⟨by simp,by simp[ocR,cc]⟩
 ·refine⟨by simp,?_⟩;simp[ocR,cc,De hv.1]
 ·refine⟨by simp,?_⟩;simp[ocR,cc,De hk.1]
 .exact⟨by simp,by simp[ocR,cc]⟩
theorem wZ{k v h:Int}(hk:0<=k/\k<=3)(hv:0<=v/\v<=99)(hh:1<=h/\h<=7):ku k v h/\iu k v h=((cc h k v).1,(cc h k v).2.1,(cc h k v).2.2,()):=by
 simp only[ku,iu,yF,xF,gu,Tr.val,Tr.ob,fa,Db,fc];have hc:h=1\/h=2\/h=3\/h=4\/h=5\/h=6\/h=7:=by omega
 rcases hc with rfl|rfl|rfl|rfl|rfl|rfl|rfl
 ·refine⟨by simp,?_⟩;simp[ocR,cc,De hv.1];rw[gD (by omega),Xf (by omega),nc (by omega)];omega
 ·refine⟨by simp,?_⟩;simp[ocR,cc];rw[nc (by omega),De (by omega)]
 ·refine⟨by simp,?_⟩;simp[ocR,cc,De hv.1]
 .exact⟨by simp,by simp[ocR,cc]⟩
 ·refine⟨by simp,?_⟩;simp[ocR,cc,De hv.1]
 ·refine⟨by simp,?_⟩;simp[ocR,cc,De hk.1]
 .exact⟨by simp,by simp[ocR,cc]⟩
theorem Si{x:Row}(h:vb x=true):(0<=x.Key/\x.Key<=3)/\0<=x.Val/\x.Val<=99:=by
 simp only[vb,decide_eq_true_eq]at h;omega
theorem sN(h:Int)(l:List Row)(x:Row):xc h (l++[x])=xc h l++Yf h x:=by unfold xc;rw[List.flatMap_append];simp
theorem Ti(h:Int):∀l:List Row,(xc h l).length<=l.length
 |[]=>Nat.le_refl _
 |x::l=>by
  have:=Ti h l;unfold xc at *;rw[List.flatMap_cons,List.length_append,List.length_cons];have:(Yf h x).length<=1:=by unfold Yf;split<;>simp
  omega
theorem cm{xs:List Row}(hl:xs.length<100000000)(hi:∀x∈xs,InR x.Diff):ah xs/\re xs=if Qa (ab xs)=true then (ab xs,true,()) else ([],false,()):=by
 obtain⟨c1,c2⟩:=oZ xs (by omega);have h1:=Ql hi;obtain⟨b1,b2⟩:=vr (ab xs) (by omega);simp only[ah,re,ZH,YH,Vx,Tr.val,Tr.ob,fa,c2,b2];cases Qa (ab xs)<;>simp[c1,b1,ocR]
def Ve(xs:List Row):List Row×Bool×Unit:=if Qa xs=true then (xs,true,()) else ([],false,())
theorem xZ{a:List Row}(hr:Ib a=true){h:Int}(hh:1<=h/\h<=7):fy a h/\ey a h=Ve (ab (xc h a)):=by
 obtain⟨hl,hm⟩:=Bb hr
 have k:ia (λs:LR×Int=>ca (sk h a (aa .row a) s.1 s.2)) (λs=>Ho h a (aa .row a) s.1 s.2) ([],0) (.x (xc h a)):=by
  refine ia.fold a (λi b=>(b,(i:Int))) (λl=>xc h l) rfl (λl x r hx=>?_) ?_
  ·have hlen:a.length=l.length+(r.length+1):=by rw[hx];simp
   have hrd:rd .row a (l.length:Int)=x:=by rw[hx];exact Za
   have hin:inb (l.length:Int) (aa .row a):=by rw[hx];exact Ta (t:=.row)
   have hlss:cmp .lss (l.length:Int) (aa .row a)=true:=by rw[hx];exact fb
   have hkv:=Si (hm x (by rw[hx];simp));obtain⟨e1,e2⟩:=vZ hkv.1 hkv.2 hh;have hl1:=Ti h l;have hlim:∀y,lim (aa .row (xc h l)) (aa .row [y]):=λy=>Wb (t:=.row) (show (xc h l).length<1099511627776 by omega);simp only[Ho,sk,Fo,Yx,eT,dT,Xx,Tr.val,Tr.ob,fa,hlss,hrd,Ua (l:=l) (by omega),e2];rw[sN];cases hb:(cc h x.Key x.Val).2.2 with
   |true=>exact⟨by simp[hin,hlim,e1],by simp[ca,Yf,hb]⟩
   |false=>exact⟨by simp[hin,hlim,e1],by simp[ca,Yf,hb]⟩
  ·have hend:cmp .lss (a.length:Int) (aa .row a)=false:=gb (t:=.row);simp only[Ho,sk,Fo,Tr.val,Tr.ob,hend];exact⟨by simp,rfl⟩
 have a2:fT h a (aa .row a)=.x (xc h a):=k.v;have b2:gT h a (aa .row a):=k.t;have hl2:=Ti h a;obtain⟨q1,q2⟩:=cm (xs:=xc h a) (by omega) (GD λx hx=>Zf (hm x hx));simp only[fy,ey,cI,bI,dy,cy,kT,iT,ay,Zx,lpS,Tr.val,Tr.ob,fa,a2,q2,ocR];exact⟨by simp[b2,q1],by unfold Ve;split<;>rfl⟩
theorem yZ{a:List Row}(hr:Ib a=true){h:Int}(hh:1<=h/\h<=7):vu a h/\uu a h=ab (xc h a):=by
 obtain⟨hl,hm⟩:=Bb hr
 have k:ia (λs:LR×Int=>ca (uj a h s.1 s.2)) (λs=>Pm a h s.1 s.2) ([],0) (.x (xc h a)):=by
  refine ia.fold a (λi b=>(b,(i:Int))) (λl=>xc h l) rfl (λl x r hx=>?_) ?_
  ·have hlen:a.length=l.length+(r.length+1):=by rw[hx];simp
   have hrd:rd .row a (l.length:Int)=x:=by rw[hx];exact Za
   have hin:inb (l.length:Int) (aa .row a):=by rw[hx];exact Ta (t:=.row)
   have hlss:cmp .lss (l.length:Int) (aa .row a)=true:=by rw[hx];exact fb
   have hkv:=Si (hm x (by rw[hx];simp));obtain⟨e1,e2⟩:=wZ hkv.1 hkv.2 hh;have hl1:=Ti h l;have hlim:∀y,lim (aa .row (xc h l)) (aa .row [y]):=λy=>Wb (t:=.row) (show (xc h l).length<1099511627776 by omega);simp only[Pm,uj,Om,pu,JP,IP,nu,Tr.val,Tr.ob,fa,hlss,hrd,Ua (l:=l) (by omega),e2];rw[sN];cases hb:(cc h x.Key x.Val).2.2 with
   |true=>exact⟨by simp[hin,hlim,e1],by simp[ca,Yf,hb]⟩
   |false=>exact⟨by simp[hin,hlim,e1],by simp[ca,Yf,hb]⟩
  ·have hend:cmp .lss (a.length:Int) (aa .row a)=false:=gb (t:=.row);simp only[Pm,uj,Om,Tr.val,Tr.ob,hend];exact⟨by simp,rfl⟩
 have a2:OP a h=.x (xc h a):=k.v;have b2:PP a h:=k.t;have hl2:=Ti h a;obtain⟨q1,q2⟩:=Mh (xc h a) (by omega) (GD λx hx=>Zf (hm x hx));simp only[vu,uu,CF,BF,tu,su,TP,QP,ru,qu,lpS,Tr.val,Tr.ob,fa,a2,q2,ocR];exact⟨by simp[b2,q1],trivial⟩
theorem BD{s t:Time}(hs:Ea s=true)(ht:Ea t=true):ni s t/\mi s t=bb s t:=by
 simp only[ni,mi,wI,vI,xy,Tr.val,Tr.ob,fa,fN,hs,ht,ocR];exact⟨by simp[gN],rfl⟩
theorem tN{s t:Time}(hs:Ea s=true)(ht:Ea t=true):Um s t/\Tm s t=bb s t:=by
 simp only[Um,Tm,SF,RF,Du,Tr.val,Tr.ob,fa,am,hs,ht,ocR];exact⟨by simp[Qi],rfl⟩
theorem zZ{x y:Int}(hx:0<=x/\x<=99)(hy:0<=y/\y<=99):tI x y/\sI x y=Vl x y:=by
 refine⟨⟨⟨by decide,trivial⟩,trivial⟩,?_⟩;show ar .rem .i64 (ar .add .i64 (ar .mul .i64 10 x) y) 100=_;rw[Xf (by omega),nc (by omega),De (by omega)];rfl
theorem AZ{x y:Int}(hx:0<=x/\x<=99)(hy:0<=y/\y<=99):MF x y/\LF x y=Vl x y:=by
 refine⟨⟨⟨by decide,trivial⟩,trivial⟩,?_⟩;show ar .rem .i64 (ar .add .i64 (ar .mul .i64 x 10) y) 100=_;rw[Xf (by omega),nc (by omega),De (by omega)];unfold Vl;rw[Int.mul_comm]
theorem uN{x y:Row}(hx:vb x=true)(hy:vb y=true):ar .mul .i64 x.Diff y.Diff=x.Diff*y.Diff:=by
 have h:=Dr (a:=[⟨0,x.Val,x.At,x.Diff⟩]) (b:=[⟨0,y.Val,y.At,y.Diff⟩]) (by simp[vb] at *;omega) (by simp[vb] at *;omega) ⟨0,Vl x.Val y.Val,bb x.At y.At,x.Diff*y.Diff⟩ (by simp[dc,ic]);exact Xf h.1
theorem zr(x:Row):∀b:List Row,(b.flatMap (ic x)).length<=b.length
 |[]=>Nat.le_refl _
 |y::b=>by
  have:=zr x b;rw[List.flatMap_cons,List.length_append,List.length_cons];have:(ic x y).length<=1:=by unfold ic;split<;>simp
  omega
theorem vN(b:List Row):∀a:List Row,(dc a b).length<=a.length*b.length
 |[]=>by simp[dc]
 |x::a=>by
  have h1:=vN b a;have h2:=zr x b;unfold dc at *;rw[List.flatMap_cons,List.length_append,List.length_cons,Nat.add_mul,Nat.one_mul];omega
theorem wN(a b:List Row)(x:Row):dc (a++[x]) b=dc a b++b.flatMap (ic x):=by unfold dc;rw[List.flatMap_append];simp
theorem xN(x:Row)(b:List Row)(y:Row):(b++[y]).flatMap (ic x)=b.flatMap (ic x)++ic x y:=by rw[List.flatMap_append];simp
end Go.Proofs.YthfkpijcajdnhaaGreat

namespace Go.Proofs.YthfkpijcajdnhaaGreat
namespace Tg
open Go
theorem Mg{a b:Int}(h1 : -1000000000000<=a/\a<=1000000000000)(h2 : -1000000000000<=b/\b<=1000000000000):ar .add .i64 a b=a+b:=nc (by omega)
theorem ttF:ac Tryz.prog tt:=xl (by kernel_rfl)
theorem foF : Tryz.prog.follows .mixedOrders=true:=by kernel_rfl
theorem g0:Good Tryz.prog tt []:=.nil ttF foF
theorem aW:Con Tryz.prog 49 vo:=QS (.nil ttF foF)
theorem wag:Con Tryz.prog 45 Bo:=VS (.cons aW (.nil ttF foF))
theorem g1:Good Tryz.prog tt [(45,Bo)]:=.cons wag (.nil ttF foF)
theorem xag:Con Tryz.prog 25 Lo:=uT (.cons aW (.nil ttF foF))
theorem g2:Good Tryz.prog tt [(25,Lo)]:=.cons xag (.nil ttF foF)
noncomputable def C7:Code:=Jd Tryz.f115
abbrev LT(x:List Time):AV:=.v (.acc true) (.lst .time x)
abbrev N7(r:Nat):NP:=⟨27,none,[(0,.map (some r))]⟩
noncomputable def o8(i:Nat):Oper:=opN (opsOf (nav C7 [1,1,0,1,0,0,1,0,0,1,0,0,1,0,0,0])) i
theorem op8:(o8 0).op=.move (.tmp 0)/\(o8 0).dst=some 15/\(o8 0).guard=none/\(o8 4).op=.lookup 110 (.tmp 15) (.tmp 18) false/\(o8 4).dst=some 19/\(o8 4).guard=none /\
  (o8 1).guard=none/\(o8 2).guard=none/\(o8 3).guard=none/\(o8 1).dst=some 16/\(o8 2).dst=some 17/\(o8 3).dst=some 18:=⟨by kernel_rfl,by kernel_rfl,by kernel_rfl,by kernel_rfl,by kernel_rfl,by kernel_rfl,by kernel_rfl,by kernel_rfl,by kernel_rfl,by kernel_rfl,by kernel_rfl,by kernel_rfl⟩
theorem at8:List.range (opsOf (nav C7 [1,1,0,1,0,0,1,0,0,1,0,0,1,0,0,0])).size=[0,1,2,3,4]/\∀i,i<5->(opsOf (nav C7 [1,1,0,1,0,0,1,0,0,1,0,0,1,0,0,0]))[i]? = some (o8 i):=by
 refine⟨by kernel_rfl,λi hi=>?_⟩;rcases (show i=0\/i=1\/i=2\/i=3\/i=4 by omega) with rfl|rfl|rfl|rfl|rfl<;>kernel_rfl
noncomputable def yag:TypeInfo:=(Tryz.prog.info? 38).get (by kernel_rfl)
noncomputable def sv4:TypeInfo:=(Tryz.prog.info? 4).get (by kernel_rfl)
noncomputable def fsT:Array Field:=match Tryz.prog.underlying 38 with
 |some (.struct fs)=>fs
 |_=>#[]
def Fd(S:va)(i:Int)(n:Nat):List Time:=((List.range n).filter λb:Nat=>decide ([i,(b:Int)]∈S)).map λb:Nat=>(⟨i,(b:Int)⟩ : Time)
def bf(S:va):Nat->List Time
 |0=>[]
 |n+1=>bf S n++Fd S n 8
def Kb(S:va):List Time:=bf S 8
theorem bW(S:va)(i:Int)(n:Nat):(Fd S i n).length<=n:=by
 unfold Fd;rw[List.length_map];exact Nat.le_trans (List.length_filter_le _ _) (by simp)
theorem bK(S:va):∀n,(bf S n).length<=8*n
 |0=>by simp[bf]
 |n+1=>by
  have h1:=bK S n;have h2:=bW S n 8;simp only[bf,List.length_append];omega
theorem cW(S:va)(i:Int)(n:Nat):Fd S i (n+1)=Fd S i n++(if [i,(n:Int)]∈S then [(⟨i,(n:Int)⟩ : Time)] else []):=by
 unfold Fd;rw[List.range_succ,List.filter_append,List.map_append]
 congr 1
 by_cases h : [i,(n:Int)]∈S<;>simp[h]
theorem sty:WV Tryz.prog 110 38 4 2:=by
 refine⟨by kernel_rfl,⟨fsT,by kernel_rfl⟩,ttF.eq _ ⟨.struct [(0,1),(1,1)],2,[.int .i64 0,.int .i64 0],some .time,true⟩ (by kernel_rfl) rfl,
  tC (fs:=fsT) (i:=yag) (by kernel_rfl) (by kernel_rfl) (by kernel_rfl) (by kernel_rfl),λw=>?_⟩
 have hi : Tryz.prog.info? 4=some sv4:=by kernel_rfl
 have hz:sv4.zero=some (.bool false):=by kernel_rfl
 simp[zeroValue,typeInfo,hi,hz]
def E7(l:List Time)(i j:Int):Env:=[(3,LT l),(4,.v .fr (.int .i64 i)),(5,.v .fr (.int .i64 j))]
def E7'(l:List Time)(i:Int):Env:=[(3,LT l),(4,.v .fr (.int .i64 i))]
set_option maxRecDepth 20000 in
theorem zag{Q:Exit->Act->World->Prop}{B:Nat}{W0:World}{F0:Fz}{r:Nat}{S:va}(hS:Yb 2 S)(hW:W0.heap[r]? = some (Ha S)){l:List Time}{i j:Int}{a:Act}{w:World}(hs:MS (N7 r) B [] W0 F0 [] (E7 l i j) a w)
  (hQ:∀a w,MS (N7 r) B [] W0 F0 [] [(3,LT l),(4,.v .fr (.int .i64 i)),(5,.v .fr (.int .i64 j)),(19,.v .fr (.bool (decide ([i,j]∈S))))] a w->Q .normal a w):(nav C7 [1,1,0,1,0,0,1,0,0,1,0,0,1,0,0,0]).wp Tryz.prog Q a w:=by
 obtain⟨p0,d0,q0,p4,d4,q4,q1,q2,q3,d1,d2,d3⟩:=op8;refine Mc (by kernel_rfl) at8.1 ?_;rw[wpOps_cons];refine wa (at8.2 0 (by omega)) q0 ?_;refine Ja (Xd p0) ?_;rw[d0,wpOps_cons,hs.k (s:=0) (v:=.map (some r)) (by simp)];have h1:=hs.val (d:=15) (by kernel_rfl) (v:=.map (some r)) (av:=.dead) rfl (λ_ _=>trivial);refine wa (at8.2 1 (by omega)) q1 ?_;refine h1.stepF g0 (ops:=opsOf (nav C7 [1,1,0,1,0,0,1,0,0,1,0,0,1,0,0,0])) (e':=(16,.v .fr (.int .i64 i))::(15,.dead)::E7 l i j) (ps:=[]) q1 (by kernel_rfl) trivial (λd h=>by rw[d1]at h;cases h;kernel_rfl) (λa2 w2 h2=>?_);rw[wpOps_cons];refine wa (at8.2 2 (by omega)) q2 ?_;refine h2.stepF g0 (ops:=opsOf (nav C7 [1,1,0,1,0,0,1,0,0,1,0,0,1,0,0,0])) (e':=(17,.v .fr (.int .i64 j))::(16,.v .fr (.int .i64 i))::(15,.dead)::E7 l i j) (ps:=[]) q2 (by kernel_rfl) trivial (λd h=>by rw[d2]at h;cases h;kernel_rfl) (λa3 w3 h3=>?_);rw[wpOps_cons];refine wa (at8.2 3 (by omega)) q3 ?_;refine h3.stepF g0 (ops:=opsOf (nav C7 [1,1,0,1,0,0,1,0,0,1,0,0,1,0,0,0])) (e':=(18,.agg true [.int .i64 i,.int .i64 j])::(17,.v .fr (.int .i64 j))::(16,.v .fr (.int .i64 i))::(15,.dead)::E7 l i j) (ps:=[]) q3 (by kernel_rfl) trivial (λd h=>by rw[d3]at h;cases h;kernel_rfl) (λa4 w4 h4=>?_);rw[wpOps_cons];refine wa (at8.2 4 (by omega)) q4 ?_;have hm:w4.heap[r]? = some (Ha S):=h4.kept.obj _ _ hW rfl
 have hkey:a4.tmps.getD 18 undef=Aa [i,j]:=by
  obtain⟨F,ow,hx⟩:=h4.sim.rep;obtain⟨vs,h1,h2⟩:=hx.sr 18;have h1:a4.tmps.getD 18 undef=.agg vs.toArray:=h1;rw[h1];cases h2 with
  |cons c1 h2=>cases h2 with
   |cons c2 h2=>cases h2;cases c1;cases c2;rfl
 refine Ja (Wq p4 (by rw[h4.k (s:=15) (v:=.map (some r)) (by simp),hkey];exact XV sty hm hS rfl)) ?_;rw[d4];have h5:=h4.val (d:=19) (by kernel_rfl) (v:=.bool (decide ([i,j]∈S))) (av:=.v .fr (.bool (decide ([i,j]∈S)))) rfl (λ_ _=>.bool _);refine Cc _ (hQ _ _ ?_);exact (h5.weak (ma.cast (pat:=[(3,.same),(4,.same),(5,.same),(19,.same)]) (by kernel_rfl) (by kernel_rfl))).forget rfl rfl (λp hp=>by simp at hp⊢;simp[hp]) (λp hp=>hp)
set_option maxRecDepth 20000 in
theorem Aag{Q:Exit->Act->World->Prop}{B:Nat}{W0:World}{F0:Fz}{r:Nat}{S:va}(hS:Yb 2 S)(hW:W0.heap[r]? = some (Ha S)){l:List Time}(hl:l.length<=100){i:Int}{a:Act}{w:World}(hs:MS (N7 r) B [] W0 F0 [] (E7 l i 0) a w)
  (hQ:∀a w,MS (N7 r) B [] W0 F0 [] (E7' (l++Fd S i 8) i) a w->Q .normal a w):(nav C7 [1,1,0,1,0,0,1,0,0,1]).wp Tryz.prog Q a w:=by
 refine tc (c1:=nav C7 [1,1,0,1,0,0,1,0,0,1,0]) (id:=2) (by kernel_rfl) ?_;rw[show nav C7 [1,1,0,1,0,0,1,0,0,1,0]=.loop (nav C7 [1,1,0,1,0,0,1,0,0,1,0,0]) by kernel_rfl];refine oe (σ:=Nat) (λj a w=>j<=8/\MS (N7 r) B [] W0 F0 [] (E7 (l++Fd S i j) i j) a w) (λj=>8 - j) ?_ 0 ⟨by omega,by simpa [Fd] using hs⟩;rintro j a w ⟨hj,hs⟩;refine ka (c1:=nav C7 [1,1,0,1,0,0,1,0,0,1,0,0,0]) (c2:=nav C7 [1,1,0,1,0,0,1,0,0,1,0,0,1]) (by kernel_rfl) ?_;refine ka (c1:=nav C7 [1,1,0,1,0,0,1,0,0,1,0,0,0,0]) (c2:=nav C7 [1,1,0,1,0,0,1,0,0,1,0,0,0,1]) (by kernel_rfl) ?_;refine MS.regC g0 (keep:=[3,4,5,12]) (e':=[(3,LT (l++Fd S i j)),(4,.v .fr (.int .i64 i)),(5,.v .fr (.int .i64 j)),(12,.v .fr (.bool (cmp .leq j 7)))]) (ps:=[]) (by kernel_rfl) trivial hs (λa w hs=>?_);show (nav C7 [1,1,0,1,0,0,1,0,0,1,0,0,0,1]).wp _ _ a w;refine uc (o:=.tmp 12) (c1:=nav C7 [1,1,0,1,0,0,1,0,0,1,0,0,0,1,0]) (c2:=nav C7 [1,1,0,1,0,0,1,0,0,1,0,0,0,1,1]) (by kernel_rfl) (hs.bool (k:=.fr) rfl) (λht=>Nc (by kernel_rfl) ?_) (λhf=>Oe (i:=2) (by kernel_rfl) ?_)
 ·have hlt:j<=7:=by
   have:=of_decide_eq_true (show decide ((j:Int)<=7)=true from ht);omega
  have hend:∀ {a:Act} {w:World},MS (N7 r) B [] W0 F0 [] (E7 (l++Fd S i (j+1)) i j) a w->(nav C7 [1,1,0,1,0,0,1,0,0,1,0,0,1,1]).wp Tryz.prog (λe a' w'=>Exit.then (λa' w'=>∃s',8 - s'<8 - j/\(s'<=8/\MS (N7 r) B [] W0 F0 [] (E7 (l++Fd S i s') i s') a' w')) (Exit.inBlock 2 Q) e a' w') a w:=λhs=>by
   refine MS.regC g0 (keep:=[3,4,5]) (e':=E7 (l++Fd S i (j+1)) i (ar .add .i64 j 1)) (ps:=[]) (by kernel_rfl) trivial hs (λa w hs=>?_);refine⟨j+1,by omega,by omega,?_⟩;rw[Mg (by omega) (by omega)]at hs;exact hs
  show (nav C7 [1,1,0,1,0,0,1,0,0,1,0,0,1]).wp _ _ a w;refine ka (c1:=nav C7 [1,1,0,1,0,0,1,0,0,1,0,0,1,0]) (c2:=nav C7 [1,1,0,1,0,0,1,0,0,1,0,0,1,1]) (by kernel_rfl) ?_;refine tc (c1:=nav C7 [1,1,0,1,0,0,1,0,0,1,0,0,1,0,0]) (id:=3) (by kernel_rfl) ?_;refine ka (c1:=nav C7 [1,1,0,1,0,0,1,0,0,1,0,0,1,0,0,0]) (c2:=nav C7 [1,1,0,1,0,0,1,0,0,1,0,0,1,0,0,1]) (by kernel_rfl) ?_;refine zag hS hW (hs.weak (ma.cast (e':=E7 (l++Fd S i j) i j) (pat:=[(3,.same),(4,.same),(5,.same)]) (by kernel_rfl) (by kernel_rfl))) (λa w hs=>?_);show (nav C7 [1,1,0,1,0,0,1,0,0,1,0,0,1,0,0,1]).wp _ _ a w;refine uc (o:=.tmp 19) (c1:=nav C7 [1,1,0,1,0,0,1,0,0,1,0,0,1,0,0,1,0]) (c2:=nav C7 [1,1,0,1,0,0,1,0,0,1,0,0,1,0,0,1,1]) (by kernel_rfl) (hs.bool (k:=.fr) rfl) (λht=>?_) (λhf=>Nc (by kernel_rfl) ?_)
  ·have hm : [i,(j:Int)]∈S:=of_decide_eq_true ht;have hlen:=bW S i j;refine MS.regC g0 (keep:=[3,4,5]) (e':=E7 (l++Fd S i j++[⟨i,j⟩]) i j) (ps:=[lim (aa .time (l++Fd S i j)) (aa .time [(⟨i,j⟩ : Time)])]) (by kernel_rfl) ⟨by simp[lim,aa];omega,trivial⟩ hs (λa w hs=>?_);refine hend ?_;rw[cW,if_pos hm,← List.append_assoc];exact hs
  ·have hm:¬ [i,(j:Int)]∈S:=of_decide_eq_false hf;refine hend ?_;rw[cW,if_neg hm,List.append_nil];exact hs.weak (ma.cast (pat:=[(3,.same),(4,.same),(5,.same)]) (by kernel_rfl) (by kernel_rfl))
 ·have hge:j=8:=by
   have:=of_decide_eq_false (show decide ((j:Int)<=7)=false from hf);omega
  subst hge;show Exit.inBlock 2 Q (.exit 2) a w;simp only[Exit.inBlock,if_true];exact hQ a w (hs.weak (ma.cast (pat:=[(3,.same),(4,.same)]) (by kernel_rfl) (by kernel_rfl)))
set_option maxRecDepth 20000 in
theorem Bag{Q:Exit->Act->World->Prop}{B:Nat}{W0:World}{F0:Fz}{r:Nat}{S:va}(hS:Yb 2 S)(hW:W0.heap[r]? = some (Ha S)){a:Act}{w:World}(hs:MS (N7 r) B [] W0 F0 [] (E7' [] 0) a w)
  (hQ:∀a w,MS (N7 r) B [] W0 F0 [] [(3,LT (Kb S))] a w->Q .normal a w):(nav C7 [1,1,0,1]).wp Tryz.prog Q a w:=by
 refine tc (c1:=nav C7 [1,1,0,1,0]) (id:=0) (by kernel_rfl) ?_;rw[show nav C7 [1,1,0,1,0]=.loop (nav C7 [1,1,0,1,0,0]) by kernel_rfl];refine oe (σ:=Nat) (λi a w=>i<=8/\MS (N7 r) B [] W0 F0 [] (E7' (bf S i) i) a w) (λi=>8 - i) ?_ 0 ⟨by omega,hs⟩;rintro i a w ⟨hi,hs⟩;refine ka (c1:=nav C7 [1,1,0,1,0,0,0]) (c2:=nav C7 [1,1,0,1,0,0,1]) (by kernel_rfl) ?_;refine ka (c1:=nav C7 [1,1,0,1,0,0,0,0]) (c2:=nav C7 [1,1,0,1,0,0,0,1]) (by kernel_rfl) ?_;refine MS.regC g0 (keep:=[3,4,8]) (e':=[(3,LT (bf S i)),(4,.v .fr (.int .i64 i)),(8,.v .fr (.bool (cmp .leq i 7)))]) (ps:=[]) (by kernel_rfl) trivial hs (λa w hs=>?_);show (nav C7 [1,1,0,1,0,0,0,1]).wp _ _ a w;refine uc (o:=.tmp 8) (c1:=nav C7 [1,1,0,1,0,0,0,1,0]) (c2:=nav C7 [1,1,0,1,0,0,0,1,1]) (by kernel_rfl) (hs.bool (k:=.fr) rfl) (λht=>Nc (by kernel_rfl) ?_) (λhf=>Oe (i:=0) (by kernel_rfl) ?_)
 ·have hlt:i<=7:=by
   have:=of_decide_eq_true (show decide ((i:Int)<=7)=true from ht);omega
  have hlen:=bK S i;show (nav C7 [1,1,0,1,0,0,1]).wp _ _ a w;refine ka (c1:=nav C7 [1,1,0,1,0,0,1,0]) (c2:=nav C7 [1,1,0,1,0,0,1,1]) (by kernel_rfl) ?_;refine tc (c1:=nav C7 [1,1,0,1,0,0,1,0,0]) (id:=1) (by kernel_rfl) ?_;refine ka (c1:=nav C7 [1,1,0,1,0,0,1,0,0,0]) (c2:=nav C7 [1,1,0,1,0,0,1,0,0,1]) (by kernel_rfl) ?_;refine MS.regC g0 (keep:=[3,4,5]) (e':=E7 (bf S i) i 0) (ps:=[]) (by kernel_rfl) trivial hs (λa w hs=>?_);refine Aag hS hW (by omega) hs (λa w hs=>?_);show (nav C7 [1,1,0,1,0,0,1,1]).wp _ _ a w;refine MS.regC g0 (keep:=[3,4]) (e':=E7' (bf S (i+1)) (ar .add .i64 i 1)) (ps:=[]) (by kernel_rfl) trivial hs (λa w hs=>?_);refine⟨i+1,by omega,by omega,?_⟩;rw[Mg (by omega) (by omega)]at hs;exact hs
 ·have hge:i=8:=by
   have:=of_decide_eq_false (show decide ((i:Int)<=7)=false from hf);omega
  subst hge;show Exit.inBlock 0 Q (.exit 0) a w;simp only[Exit.inBlock,if_true];exact hQ a w (hs.weak (ma.cast (pat:=[(3,.same)]) (by kernel_rfl) (by kernel_rfl)))
set_option maxRecDepth 20000 in
theorem tim{w0:World}{r:Nat}{S:va}(hS:Yb 2 S)(hr:w0.heap[r]? = some (Ha S)){F:Fz}(hF:Live F w0):Calls Tryz.prog 115 #[.map (some r)] w0 (λe w'=>∃v F',e=.returned v/\RC F' w0.heap.size w' (.lst .time (Kb S)) v/\Ia F w0 F' w'/\Live F' w'):=by
 refine calls_of_wp (fn:=Tryz.f115) (c:=C7) (by kernel_rfl) (by kernel_rfl) ?_;have hn:(Tryz.f115).ntmps=27:=by kernel_rfl
 rw[hn]
 have hsim:Sim (N7 r) w0.heap.size [] w0 F [] { tmps:=#[.map (some r)]++Array.replicate (27 - (#[Value.map (some r)]).size) undef,defers:=[] } w0:=by
  refine⟨rfl,⟨by simp,(λs h=>by cases h),λp hp=>?_⟩,Nat.le_refl _,(λb o h=>⟨hF.lt h,by simp⟩),Kept.refl _ _ _,F,λ_ _=>none,⟨λ_ _ h=>h,λ_ _ h=>.inl h,hF,λs i s' i' b h=>(by cases h),λs i b h=>(by cases h),λs=>trivial⟩⟩;have hp:p=(0,.map (some r)):=by simpa using hp
  subst hp;show (#[Value.map (some r)]++Array.replicate 26 undef).getD 0 undef=.map (some r);rw[Array.getD_eq_getD_getElem?,Array.getElem?_append_left (by simp)];simp
 have hms:=MS.of hsim rfl;refine ka (c1:=nav C7 [0]) (c2:=nav C7 [1]) (by kernel_rfl) ?_;refine MS.regC g0 (keep:=[]) (e':=[]) (ps:=[]) (by kernel_rfl) trivial hms (λa w hs=>?_);show (nav C7 [1]).wp _ _ a w;refine ka (c1:=nav C7 [1,0]) (c2:=nav C7 [1,1]) (by kernel_rfl) ?_;refine MS.regC g0 (keep:=[3]) (e':=[(3,LT [])]) (ps:=[]) (by kernel_rfl) trivial hs (λa w hs=>?_);show (nav C7 [1,1]).wp _ _ a w;refine ka (c1:=nav C7 [1,1,0]) (c2:=nav C7 [1,1,1]) (by kernel_rfl) ?_;refine ka (c1:=nav C7 [1,1,0,0]) (c2:=nav C7 [1,1,0,1]) (by kernel_rfl) ?_;refine MS.regC g0 (keep:=[3,4]) (e':=E7' [] 0) (ps:=[]) (by kernel_rfl) trivial hs (λa w hs=>?_);refine Bag hS hr hs (λa w hs=>?_);show (nav C7 [1,1,1]).wp _ _ a w;refine ka (c1:=nav C7 [1,1,1,0]) (c2:=nav C7 [1,1,1,1]) (by kernel_rfl) ?_;refine MS.regC g0 (keep:=[2]) (e':=[(2,LT (Kb S))]) (ps:=[]) (by kernel_rfl) trivial hs (λa w hs=>?_);refine Lg (by kernel_rfl) ?_;have ht:=hs.to;obtain⟨F',ow,hx⟩:=ht.rep;have h2:RC F' w0.heap.size w (.lst .time (Kb S)) (a.tmps.getD 2 undef):=(show Ga F' (lof w0.heap.size true) w (ow 2 none) (.lst .time (Kb S)) (a.tmps.getD 2 undef) from hx.sr 2).1
 have hrun:=eC (P:=Tryz.prog) (w:=w) (tmps:=a.tmps) (fn:=Tryz.f115) (rs:=[.tmp 2]) (by kernel_rfl) (vs:=[a.tmps.getD 2 undef]) rfl (λj rv v h h'=>by
  cases j with
  |zero=>simp only[List.getElem?_cons_zero,Option.some.injEq]at h h';subst h;subst h';rfl
  |succ j=>simp at h)
 exact⟨ht.defers,_,hrun,_,F',rfl,h2,⟨ht.kept.os,ht.kept.tape,ht.kept.output,ht.kept.size,λk hk=>ht.kept.block k hk (by simp),hx.sub,λb o h=>(hx.new b o h).imp_right λh=>h.elim id (λh=>by simp at h)⟩,hx.live⟩
noncomputable def C8:Code:=Jd Tryz.f100
abbrev N8(r:Nat):NP:=⟨61,none,[(5,.map (some r))]⟩
noncomputable def q3(i:Nat):Oper:=opN (opsOf (nav C8 [1,1,0])) i
noncomputable def q13(i:Nat):Oper:=opN (opsOf (nav C8 [1,1,1,1,0,1,0,0,1,0,1,0])) i
noncomputable def q26(i:Nat):Oper:=opN (opsOf (nav C8 [1,1,1,1,1,0])) i
theorem ops3:(q3 0).op=.makeMap 110 none/\(q3 0).dst=some 18/\(q3 0).guard=none/\(q3 1).op=.assign (.tmp 18)/\(q3 1).dst=some 5/\(q3 1).guard=none /\
  List.range (opsOf (nav C8 [1,1,0])).size=[0,1]/\(opsOf (nav C8 [1,1,0]))[0]? = some (q3 0)/\(opsOf (nav C8 [1,1,0]))[1]? = some (q3 1):=⟨by kernel_rfl,by kernel_rfl,by kernel_rfl,by kernel_rfl,by kernel_rfl,by kernel_rfl,by kernel_rfl,by kernel_rfl,by kernel_rfl⟩
theorem Cag:(q13 0).op=.move (.tmp 5)/\(q13 0).dst=some 34/\(q13 0).guard=none/\(q13 1).op=.call ⟨.value (.func 115),#[.tmp 34],#[110]⟩/\(q13 1).dst=some 35/\(q13 1).guard=none/\(q13 2).dst=some 9/\(q13 2).guard=none /\
  List.range (opsOf (nav C8 [1,1,1,1,0,1,0,0,1,0,1,0])).size=[0,1,2]/\(opsOf (nav C8 [1,1,1,1,0,1,0,0,1,0,1,0]))[0]? = some (q13 0)/\(opsOf (nav C8 [1,1,1,1,0,1,0,0,1,0,1,0]))[1]? = some (q13 1)/\(opsOf (nav C8 [1,1,1,1,0,1,0,0,1,0,1,0]))[2]? = some (q13 2):=⟨by kernel_rfl,by kernel_rfl,by kernel_rfl,by kernel_rfl,by kernel_rfl,by kernel_rfl,by kernel_rfl,by kernel_rfl,by kernel_rfl,by kernel_rfl,by kernel_rfl,by kernel_rfl⟩
theorem Dag:(q26 0).op=.move (.tmp 5)/\(q26 0).dst=some 59/\(q26 0).guard=none/\(q26 1).op=.call ⟨.value (.func 115),#[.tmp 59],#[110]⟩/\(q26 1).dst=some 60/\(q26 1).guard=none/\(q26 2).dst=some 4/\(q26 2).guard=none /\
  List.range (opsOf (nav C8 [1,1,1,1,1,0])).size=[0,1,2]/\(opsOf (nav C8 [1,1,1,1,1,0]))[0]? = some (q26 0)/\(opsOf (nav C8 [1,1,1,1,1,0]))[1]? = some (q26 1)/\(opsOf (nav C8 [1,1,1,1,1,0]))[2]? = some (q26 2):=⟨by kernel_rfl,by kernel_rfl,by kernel_rfl,by kernel_rfl,by kernel_rfl,by kernel_rfl,by kernel_rfl,by kernel_rfl,by kernel_rfl,by kernel_rfl,by kernel_rfl,by kernel_rfl⟩
def Qd(k:Int):List Row->va->va
 |[],S=>S
 |x::r,S=>Qd k r (if x.Key=k then od S (tK x.At) else S)
def dW(x:Row):AV:=.box [(.fr,.int .i64 x.Key),(.fr,.int .i64 x.Val),(.fr,.int .i64 x.At.A),(.fr,.int .i64 x.At.B),(.fr,.int .i64 x.Diff)]
def EA(xs:List Row)(k i:Int):Env:=[(1,.v .fr (.int .i64 k)),(19,.v .sh (.lst .row xs)),(20,.v .fr (.int .i64 (aa .row xs))),(21,.v .fr (.int .i64 i))]
def EB(xs:List Row)(k i:Int)(x:Row):Env:=[(1,.v .fr (.int .i64 k)),(7,dW x),(19,.v .sh (.lst .row xs)),(20,.v .fr (.int .i64 (aa .row xs))),(21,.v .fr (.int .i64 i))]
theorem Eag{n:Nat}{S:va}(h:Yb n S){ks:List Int}(hk:ks.length=n):Yb n (od S ks):=by
 unfold od;split
 .exact h
 ·intro p hp;rcases List.mem_append.1 hp with hp|hp
  .exact h p hp
  .simp at hp;subst hp;exact hk
noncomputable def r8(i:Nat):Oper:=opN (opsOf (nav C8 [1,1,1,0,1,0,0,1,1,0,0,1,1,0])) i
theorem Fag:(r8 0).op=.move (.tmp 5)/\(r8 0).dst=some 29/\(r8 0).guard=none/\(r8 1).dst=some 30/\(r8 1).guard=none/\(r8 2).dst=some 31/\(r8 2).guard=none /\
  (r8 3).op=.mapUpdate 110 (.tmp 29) (.tmp 31) (.const (.bool true))/\(r8 3).dst=none/\(r8 3).guard=none/\List.range (opsOf (nav C8 [1,1,1,0,1,0,0,1,1,0,0,1,1,0])).size=[0,1,2,3]:=⟨by kernel_rfl,by kernel_rfl,by kernel_rfl,by kernel_rfl,by kernel_rfl,by kernel_rfl,by kernel_rfl,by kernel_rfl,by kernel_rfl,by kernel_rfl,by kernel_rfl⟩
theorem CA:∀i,i<4->(opsOf (nav C8 [1,1,1,0,1,0,0,1,1,0,0,1,1,0]))[i]? = some (r8 i):=by
 intro i hi;rcases (show i=0\/i=1\/i=2\/i=3 by omega) with rfl|rfl|rfl|rfl<;>kernel_rfl
set_option maxRecDepth 20000 in
theorem Gag{Q:Exit->Act->World->Prop}{B:Nat}{W0:World}{F0:Fz}{r:Nat}{S:va}(hS:Yb 2 S){xs:List Row}{k i:Int}{x:Row}{a:Act}{w:World}(hs:MS (N8 r) B [] W0 F0 [(r,Ha S)] (EB xs k i x) a w)
  (hQ:∀a w,MS (N8 r) B [] W0 F0 [(r,Ha (od S (tK x.At)))] (EA xs k i) a w->Q .normal a w):(nav C8 [1,1,1,0,1,0,0,1,1,0,0,1,1,0]).wp Tryz.prog Q a w:=by
 obtain⟨p0,d0,q0,d1,q1,d2,q2,p3,d3,q3,hsz⟩:=Fag;refine Mc (by kernel_rfl) hsz ?_;rw[wpOps_cons];refine wa (CA 0 (by omega)) q0 ?_;refine Ja (Xd p0) ?_;rw[d0,wpOps_cons,hs.k (s:=5) (v:=.map (some r)) (by simp)];have h1:=hs.val (d:=29) (by kernel_rfl) (v:=.map (some r)) (av:=.dead) rfl (λ_ _=>trivial);refine wa (CA 1 (by omega)) q1 ?_;refine h1.stepF g0 (ops:=opsOf (nav C8 [1,1,1,0,1,0,0,1,1,0,0,1,1,0])) (e':=(30,.baddr 7 2)::(29,.dead)::EB xs k i x) (ps:=[]) q1 (by kernel_rfl) trivial (λd h=>by rw[d1]at h;cases h;kernel_rfl) (λa2 w2 h2=>?_);rw[wpOps_cons];refine wa (CA 2 (by omega)) q2 ?_;refine h2.stepF g0 (ops:=opsOf (nav C8 [1,1,1,0,1,0,0,1,1,0,0,1,1,0])) (e':=(31,.agg true [.int .i64 x.At.A,.int .i64 x.At.B])::(30,.baddr 7 2)::(29,.dead)::EB xs k i x) (ps:=[]) q2 (by kernel_rfl) trivial (λd h=>by rw[d2]at h;cases h;kernel_rfl) (λa3 w3 h3=>?_);rw[wpOps_cons];refine wa (CA 3 (by omega)) q3 ?_;have hm:w3.heap[r]? = some (Ha S):=h3.o (by simp)
 have hkey:a3.tmps.getD 31 undef=Aa (tK x.At):=by
  obtain⟨F,ow,hx⟩:=h3.sim.rep;obtain⟨vs,h1,h2⟩:=hx.sr 31;have h1:a3.tmps.getD 31 undef=.agg vs.toArray:=h1;rw[h1];cases h2 with
  |cons c1 h2=>cases h2 with
   |cons c2 h2=>cases h2;cases c1;cases c2;rfl
 refine Yq (ZV p3 (by rw[h3.k (s:=29) (v:=.map (some r)) (by simp),hkey];exact YV sty hm hS rfl)) ?_;rw[d3];refine Cc _ (hQ _ _ ?_)
 have h4:=h3.set (r:=r) (o0:=Ha S) (by simp) (Jg w3 r (Ha (od S (tK x.At)))) (obs':=[(r,Ha (od S (tK x.At)))]) (λp hp=>by
  simp at hp;subst hp;exact .inr ⟨rfl,Kg hm,rfl⟩)
 have hw:ma ((31,.agg true [.int .i64 x.At.A,.int .i64 x.At.B])::(30,.baddr 7 2)::(29,.dead)::EB xs k i x) (EA xs k i):=by
  have he:mask (clean ((31,.agg true [.int .i64 x.At.A,.int .i64 x.At.B])::(30,.baddr 7 2)::(29,.dead)::EB xs k i x)) [1,19,20,21]=EA xs k i:=by kernel_rfl
  rw[← he];exact λ_ _ _ _ _ _ _ hs=>hs.cleanMask _
 exact (h4.weak hw).forget rfl rfl (λp hp=>by simp at hp⊢;simp[hp]) (λp hp=>hp)
theorem cK(k:Int)(x:Row):∀ (l:List Row) (S:va),Qd k (l++[x]) S=if x.Key=k then od (Qd k l S) (tK x.At) else Qd k l S
 |[],_S=>rfl
 |_y::r,_S=>cK k x r _
theorem eW(k:Int):∀ (l:List Row) (S:va),Yb 2 S->Yb 2 (Qd k l S)
 |[],S,h=>h
 |x::r,S,h=>by
  simp only[Qd];refine eW k r _ ?_;split
  .exact Eag h rfl
  .exact h
set_option maxRecDepth 20000 in
theorem loopA{xs:List Row}{k:Int}(hlim:xs.length<=1000000){Q:Exit->Act->World->Prop}{B:Nat}{W0:World}{F0:Fz}{r:Nat}{a:Act}{w:World}(hs:MS (N8 r) B [] W0 F0 [(r,Ha [])] (EA xs k 0) a w)
  (hQ:∀a w,MS (N8 r) B [] W0 F0 [(r,Ha (Qd k xs []))] [] a w->Q .normal a w):(nav C8 [1,1,1,0,1]).wp Tryz.prog Q a w:=by
 refine tc (c1:=nav C8 [1,1,1,0,1,0]) (id:=0) (by kernel_rfl) ?_;rw[show nav C8 [1,1,1,0,1,0]=.loop (nav C8 [1,1,1,0,1,0,0]) by kernel_rfl];refine oe (σ:=Nat) (λi a w=>i<=xs.length/\MS (N8 r) B [] W0 F0 [(r,Ha (Qd k (xs.take i) []))] (EA xs k i) a w) (λi=>xs.length - i) ?_ 0 ⟨Nat.zero_le _,hs⟩;rintro i a w ⟨hi,hs⟩;refine ka (c1:=nav C8 [1,1,1,0,1,0,0,0]) (c2:=nav C8 [1,1,1,0,1,0,0,1]) (by kernel_rfl) ?_;refine MS.regC g0 (keep:=[1,19,20,21,22]) (e':=[(1,.v .fr (.int .i64 k)),(19,.v .sh (.lst .row xs)),(20,.v .fr (.int .i64 (aa .row xs))),(21,.v .fr (.int .i64 i)),(22,.v .fr (.bool (cmp .lss i (aa .row xs))))]) (ps:=[]) (by kernel_rfl) trivial hs (λa w hs=>?_);show (nav C8 [1,1,1,0,1,0,0,1]).wp _ _ a w;refine ka (c1:=nav C8 [1,1,1,0,1,0,0,1,0]) (c2:=nav C8 [1,1,1,0,1,0,0,1,1]) (by kernel_rfl) ?_;refine uc (o:=.tmp 22) (c1:=nav C8 [1,1,1,0,1,0,0,1,0,0]) (c2:=nav C8 [1,1,1,0,1,0,0,1,0,1]) (by kernel_rfl) (hs.bool (k:=.fr) rfl) (λht=>Nc (by kernel_rfl) ?_) (λhf=>Oe (i:=0) (by kernel_rfl) ?_)
 ·have hlt:i<xs.length:=by
   have:=of_decide_eq_true (show decide ((i:Int)<aa .row xs)=true from ht);unfold aa at this;omega
  have htake:xs.take (i+1)=xs.take i++[rd .row xs i]:=by
   rw[List.take_succ_eq_append_getElem hlt]
   congr 2
   unfold rd;rw[List.getD_eq_getElem?_getD,show (i:Int).toNat=i from rfl,List.getElem?_eq_getElem hlt];rfl
  have hend:∀ {a:Act} {w:World},MS (N8 r) B [] W0 F0 [(r,Ha (Qd k (xs.take (i+1)) []))] (EA xs k i) a w->(nav C8 [1,1,1,0,1,0,0,1,1,1]).wp Tryz.prog (λe a' w'=>Exit.then (λa' w'=>∃s',xs.length - s'<xs.length - i/\(s'<=xs.length/\MS (N8 r) B [] W0 F0 [(r,Ha (Qd k (xs.take s') []))] (EA xs k s') a' w')) (Exit.inBlock 0 Q) e a' w') a w:=λhs=>by
   refine MS.regC g0 (keep:=[1,19,20,21]) (e':=EA xs k (ar .add .i64 i 1)) (ps:=[]) (by kernel_rfl) trivial hs (λa w hs=>?_);refine⟨i+1,by omega,by omega,?_⟩;rw[Mg (by omega) (by omega)]at hs;exact hs
  show (nav C8 [1,1,1,0,1,0,0,1,1]).wp _ _ a w;refine ka (c1:=nav C8 [1,1,1,0,1,0,0,1,1,0]) (c2:=nav C8 [1,1,1,0,1,0,0,1,1,1]) (by kernel_rfl) ?_;refine tc (c1:=nav C8 [1,1,1,0,1,0,0,1,1,0,0]) (id:=1) (by kernel_rfl) ?_;refine ka (c1:=nav C8 [1,1,1,0,1,0,0,1,1,0,0,0]) (c2:=nav C8 [1,1,1,0,1,0,0,1,1,0,0,1]) (by kernel_rfl) ?_;refine MS.regC g0 (keep:=[1,7,19,20,21]) (e':=EB xs k i (rd .row xs i)) (ps:=[inb i (aa .row xs)]) (by kernel_rfl) ⟨⟨by omega,by unfold aa;omega⟩,trivial⟩ hs (λa w hs=>?_);show (nav C8 [1,1,1,0,1,0,0,1,1,0,0,1]).wp _ _ a w;refine ka (c1:=nav C8 [1,1,1,0,1,0,0,1,1,0,0,1,0]) (c2:=nav C8 [1,1,1,0,1,0,0,1,1,0,0,1,1]) (by kernel_rfl) ?_;refine MS.regC g0 (keep:=[1,7,19,20,21,28]) (e':=[(1,.v .fr (.int .i64 k)),(7,dW (rd .row xs i)),(19,.v .sh (.lst .row xs)),(20,.v .fr (.int .i64 (aa .row xs))),(21,.v .fr (.int .i64 i)),(28,.v .fr (.bool (cmp .eql (rd .row xs i).Key k)))]) (ps:=[]) (by kernel_rfl) trivial hs (λa w hs=>?_);show (nav C8 [1,1,1,0,1,0,0,1,1,0,0,1,1]).wp _ _ a w;refine uc (o:=.tmp 28) (c1:=nav C8 [1,1,1,0,1,0,0,1,1,0,0,1,1,0]) (c2:=nav C8 [1,1,1,0,1,0,0,1,1,0,0,1,1,1]) (by kernel_rfl) (hs.bool (k:=.fr) rfl) (λht=>?_) (λhf=>Nc (by kernel_rfl) ?_)
  ·have hk:(rd .row xs i).Key=k:=by simpa [cmp] using ht
   refine Gag (xs:=xs) (k:=k) (i:=i) (x:=rd .row xs i) (eW k _ [] (λp hp=>by cases hp)) (hs.weak (ma.cast (e':=EB xs k i (rd .row xs i)) (pat:=[(1,.same),(7,.same),(19,.same),(20,.same),(21,.same)]) (by kernel_rfl) (by kernel_rfl))) (λa w hs=>?_);refine hend ?_;rw[htake,cK,if_pos hk];exact hs
  ·have hk:¬ (rd .row xs i).Key=k:=by simpa [cmp] using hf
   refine hend ?_;rw[htake,cK,if_neg hk];exact hs.weak (ma.cast (pat:=[(1,.same),(19,.same),(20,.same),(21,.same)]) (by kernel_rfl) (by kernel_rfl))
 ·have hge:xs.length<=i:=by
   have:=of_decide_eq_false (show decide ((i:Int)<aa .row xs)=false from hf);unfold aa at this;omega
  show Exit.inBlock 0 Q (.exit 0) a w;simp only[Exit.inBlock,if_true];refine hQ a w ?_;rw[List.take_of_length_le hge]at hs;exact hs.weak (ma.cast (pat:=[]) (by kernel_rfl) (by kernel_rfl))
theorem fW{N:NP}{B:Nat}{W0:World}{F0:Fz}{obs:List (Nat×Obj)}{e:Env}{a:Act}{w:World}(hs:MS N B [] W0 F0 obs e a w){r:Nat}{S:va}(hS:Yb 2 S)(hr:(r,Ha S)∈obs){o:Oper}{x d:Nat}
  (hop:o.op=.call ⟨.value (.func 115),#[.tmp x],#[110]⟩) (hx:a.tmps.getD x undef=.map (some r)) (hd:o.dst=some d) (hdN:N.ok d=true) {next:Act->World->Prop} {Q:Exit->Act->World->Prop}
  (hn:∀v w',MS ⟨N.n,N.r,(d,v)::N.k⟩ B [] W0 F0 obs (put e d (.v .fr (.lst .time (Kb S)))) (a.put (some d) v) w'->next (a.put (some d) v) w'):o.wp Tryz.prog a w next Q:=by
 have hfn : Tryz.prog.funcs[115]? = some Tryz.f115:=by kernel_rfl
 have hname:((Tryz.f115).name == "runtime.NumGoroutine")=false:=by kernel_rfl
 have hbody:(Tryz.f115).body.isNone=false:=by kernel_rfl
 have hrun:(execOp a.eval o).run Tryz.prog w=.ok (.enter 115 #[.map (some r)]) w:=by
  obtain⟨dst,op,ty,pos,aft,gd⟩:=o;simp only[]at hop;subst hop;have hname':¬ (Tryz.f115).name="runtime.NumGoroutine":=by simpa using hname
  have hbody':¬ (Tryz.f115).body=none:=by intro e;rw[e]at hbody;simp at hbody
  simp[execOp,resolve,Act.eval,Deferred.ofValue,invoke,callFunc,hfn,hname',hbody',hx]
 unfold Oper.wp;rw[hrun,Oper.upon_enter];obtain⟨F,ow,hxx⟩:=hs.sim.rep;refine (tim hS (hs.o hr) (F:=F) hxx.live).mono ?_;rintro e' w' ⟨v,F',rfl,hrc,hg,hl⟩;show next (a.put o.dst v) w';rw[hd];refine hn v w' ?_
 have hkp:Kept B [] w w':=⟨hg.os,hg.tape,hg.output,hg.size,λk hk _=>hg.block k (Nat.lt_of_lt_of_le hk hs.sim.base),λk o hk _=>by
  rw[hg.block k (Array.getElem?_eq_some_iff.1 hk).1];exact hk⟩
 refine⟨⟨hs.sim.defers,hs.sim.tmps.putK hdN v,Nat.le_trans hs.sim.base hg.size,hs.sim.f0,Kept.refl _ _ _,F',λs=>if s=d then (λ_=>none) else ow s,?_⟩,hs.kept.trans hkp,λp hp=>⟨hkp.obj _ _ (hs.ob p hp).1 (hs.ob p hp).2.1,(hs.ob p hp).2⟩,hs.hB⟩;rw[show (λn=>(a.put (some d) v).tmps.getD n undef)=λn=>if n=d then v else a.tmps.getD n undef from funext (La a d v (by rw[hs.sim.tmps.size];exact NP.ok_lt hdN))];refine hxx.put hs.sim.base hg hl (λi b h=>by simp at h) (λi i' b h=>by simp at h) (λg' _ _=>?_);show RC F' B w' _ (if d=d then v else _);rw[if_pos rfl];exact hrc.mono (λ_ _ h=>h) hs.sim.base (λ_ _ _=>rfl)
abbrev TL(l:List Time):AV:=.v .fr (.lst .time l)
def Rk(t:Time):AV:=.box [(.fr,.int .i64 t.A),(.fr,.int .i64 t.B)]
def EJ(l:List Time)(b:Bool)(i:Int)(s:Time)(j:Int):Env:=[(8,.v .fr (.bool b)),(9,TL l),(11,Rk s),(36,TL l),(37,.v .fr (.int .i64 (aa .time l))),(38,.v .fr (.int .i64 i)),(42,TL l),(43,.v .fr (.int .i64 (aa .time l))),(44,.v .fr (.int .i64 j))]
def EI(l:List Time)(b:Bool)(i:Int):Env:=[(8,.v .fr (.bool b)),(9,TL l),(36,TL l),(37,.v .fr (.int .i64 (aa .time l))),(38,.v .fr (.int .i64 i))]
def cf(st:va×Bool)(t:Time):va×Bool:=if tK t∈st.1 then st else (st.1++[tK t],true)
theorem Hag{st:va×Bool}(h:Yb 2 st.1)(t:Time):Yb 2 (cf st t).1:=by
 unfold cf;split
 .exact h
 ·intro p hp;rcases List.mem_append.1 hp with hp|hp
  .exact h p hp
  .simp at hp;subst hp;rfl
def EK(l:List Time)(b:Bool)(i:Int)(s:Time)(j:Int)(t:Time):Env:=(14,Rk t)::EJ l b i s j
noncomputable def r21(i:Nat):Oper:=opN (opsOf (nav C8 [1,1,1,1,0,1,0,0,1,0,1,1,1,0,0,1,1,0,0,1,1,0,0,1,1,0,0,1,1,0])) i
noncomputable def r22(i:Nat):Oper:=opN (opsOf (nav C8 [1,1,1,1,0,1,0,0,1,0,1,1,1,0,0,1,1,0,0,1,1,0,0,1,1,0,0,1,1,1,0,0])) i
theorem Iag:(r21 0).op=.move (.tmp 5)/\(r21 0).dst=some 51/\(r21 0).guard=none/\(r21 1).dst=some 52/\(r21 1).guard=none/\(r21 2).op=.lookup 110 (.tmp 51) (.tmp 52) false/\(r21 2).dst=some 53/\(r21 2).guard=none/\(r21 3).dst=some 54/\(r21 3).guard=none /\
  List.range (opsOf (nav C8 [1,1,1,1,0,1,0,0,1,0,1,1,1,0,0,1,1,0,0,1,1,0,0,1,1,0,0,1,1,0])).size=[0,1,2,3]/\(opsOf (nav C8 [1,1,1,1,0,1,0,0,1,0,1,1,1,0,0,1,1,0,0,1,1,0,0,1,1,0,0,1,1,0]))[0]? = some (r21 0)/\(opsOf (nav C8 [1,1,1,1,0,1,0,0,1,0,1,1,1,0,0,1,1,0,0,1,1,0,0,1,1,0,0,1,1,0]))[1]? = some (r21 1)/\(opsOf (nav C8 [1,1,1,1,0,1,0,0,1,0,1,1,1,0,0,1,1,0,0,1,1,0,0,1,1,0,0,1,1,0]))[2]? = some (r21 2)/\(opsOf (nav C8 [1,1,1,1,0,1,0,0,1,0,1,1,1,0,0,1,1,0,0,1,1,0,0,1,1,0,0,1,1,0]))[3]? = some (r21 3):=⟨by kernel_rfl,by kernel_rfl,by kernel_rfl,by kernel_rfl,by kernel_rfl,by kernel_rfl,by kernel_rfl,by kernel_rfl,by kernel_rfl,by kernel_rfl,by kernel_rfl,by kernel_rfl,by kernel_rfl,by kernel_rfl,by kernel_rfl⟩
set_option maxRecDepth 20000 in
theorem Jag{Q:Exit->Act->World->Prop}{B:Nat}{W0:World}{F0:Fz}{r:Nat}{S:va}(hS:Yb 2 S){l:List Time}{b:Bool}{i j:Int}{s t:Time}{a:Act}{w:World}(hs:MS (N8 r) B [] W0 F0 [(r,Ha S)] (EK l b i s j t) a w)
  (hQ:∀a w,MS (N8 r) B [] W0 F0 [(r,Ha S)] ((54,.v .fr (.bool (!decide (tK t∈S))))::EK l b i s j t) a w->Q .normal a w):(nav C8 [1,1,1,1,0,1,0,0,1,0,1,1,1,0,0,1,1,0,0,1,1,0,0,1,1,0,0,1,1,0]).wp Tryz.prog Q a w:=by
 obtain⟨p0,d0,q0,d1,q1,p2,d2,q2,d3,q3,hsz,a0,a1,a2,a3⟩:=Iag;refine Mc (by kernel_rfl) hsz ?_;rw[wpOps_cons];refine wa a0 q0 ?_;refine Ja (Xd p0) ?_;rw[d0,wpOps_cons,hs.k (s:=5) (v:=.map (some r)) (by simp)];have h1:=hs.val (d:=51) (by kernel_rfl) (v:=.map (some r)) (av:=.dead) rfl (λ_ _=>trivial);refine wa a1 q1 ?_;refine h1.stepF g0 (ops:=opsOf (nav C8 [1,1,1,1,0,1,0,0,1,0,1,1,1,0,0,1,1,0,0,1,1,0,0,1,1,0,0,1,1,0])) (e':=(52,.agg true [.int .i64 t.A,.int .i64 t.B])::(51,.dead)::EK l b i s j t) (ps:=[]) q1 (by kernel_rfl) trivial (λd h=>by rw[d1]at h;cases h;kernel_rfl) (λa' w' h2=>?_);rw[wpOps_cons];refine wa a2 q2 ?_;have hm:w'.heap[r]? = some (Ha S):=h2.o (by simp)
 have hkey:a'.tmps.getD 52 undef=Aa (tK t):=by
  obtain⟨F,ow,hx⟩:=h2.sim.rep;obtain⟨vs,h1,h2⟩:=hx.sr 52;have h1:a'.tmps.getD 52 undef=.agg vs.toArray:=h1;rw[h1];cases h2 with
  |cons c1 h2=>cases h2 with
   |cons c2 h2=>cases h2;cases c1;cases c2;rfl
 refine Ja (Wq p2 (by rw[h2.k (s:=51) (v:=.map (some r)) (by simp),hkey];exact XV sty hm hS rfl)) ?_;rw[d2,wpOps_cons];have h3:=h2.val (d:=53) (by kernel_rfl) (v:=.bool (decide (tK t∈S))) (av:=.v .fr (.bool (decide (tK t∈S)))) rfl (λ_ _=>.bool _);refine wa a3 q3 ?_;refine h3.stepF g0 (ops:=opsOf (nav C8 [1,1,1,1,0,1,0,0,1,0,1,1,1,0,0,1,1,0,0,1,1,0,0,1,1,0,0,1,1,0])) (e':=(54,.v .fr (.bool (!decide (tK t∈S))))::(53,.v .fr (.bool (decide (tK t∈S))))::(52,.agg true [.int .i64 t.A,.int .i64 t.B])::(51,.dead)::EK l b i s j t) (ps:=[]) q3 (by kernel_rfl) trivial (λd h=>by rw[d3]at h;cases h;kernel_rfl) (λa'' w'' h4=>?_);refine Cc _ (hQ _ _ ?_);exact (h4.weak (ma.cast (pat:=[(54,.same),(14,.same),(8,.same),(9,.same),(11,.same),(36,.same),(37,.same),(38,.same),(42,.same),(43,.same),(44,.same)]) (by kernel_rfl) (by kernel_rfl))).forget rfl rfl (λp hp=>by simp at hp⊢;simp[hp]) (λp hp=>hp)
theorem Kag:(r22 0).op=.move (.tmp 5)/\(r22 0).dst=some 55/\(r22 0).guard=none/\(r22 1).dst=some 56/\(r22 1).guard=none/\(r22 2).op=.mapUpdate 110 (.tmp 55) (.tmp 56) (.const (.bool true))/\(r22 2).dst=none/\(r22 2).guard=none /\
  List.range (opsOf (nav C8 [1,1,1,1,0,1,0,0,1,0,1,1,1,0,0,1,1,0,0,1,1,0,0,1,1,0,0,1,1,1,0,0])).size=[0,1,2]/\(opsOf (nav C8 [1,1,1,1,0,1,0,0,1,0,1,1,1,0,0,1,1,0,0,1,1,0,0,1,1,0,0,1,1,1,0,0]))[0]? = some (r22 0)/\(opsOf (nav C8 [1,1,1,1,0,1,0,0,1,0,1,1,1,0,0,1,1,0,0,1,1,0,0,1,1,0,0,1,1,1,0,0]))[1]? = some (r22 1)/\(opsOf (nav C8 [1,1,1,1,0,1,0,0,1,0,1,1,1,0,0,1,1,0,0,1,1,0,0,1,1,0,0,1,1,1,0,0]))[2]? = some (r22 2):=⟨by kernel_rfl,by kernel_rfl,by kernel_rfl,by kernel_rfl,by kernel_rfl,by kernel_rfl,by kernel_rfl,by kernel_rfl,by kernel_rfl,by kernel_rfl,by kernel_rfl,by kernel_rfl⟩
set_option maxRecDepth 20000 in
theorem Lag{Q:Exit->Act->World->Prop}{B:Nat}{W0:World}{F0:Fz}{r:Nat}{S:va}(hS:Yb 2 S){l:List Time}{b:Bool}{i j:Int}{s t:Time}{a:Act}{w:World}(hs:MS (N8 r) B [] W0 F0 [(r,Ha S)] (EK l b i s j t) a w)
  (hQ:∀a w,MS (N8 r) B [] W0 F0 [(r,Ha (od S (tK t)))] (EJ l b i s j) a w->Q .normal a w):(nav C8 [1,1,1,1,0,1,0,0,1,0,1,1,1,0,0,1,1,0,0,1,1,0,0,1,1,0,0,1,1,1,0,0]).wp Tryz.prog Q a w:=by
 obtain⟨p0,d0,q0,d1,q1,p2,d2,q2,hsz,a0,a1,a2⟩:=Kag;refine Mc (by kernel_rfl) hsz ?_;rw[wpOps_cons];refine wa a0 q0 ?_;refine Ja (Xd p0) ?_;rw[d0,wpOps_cons,hs.k (s:=5) (v:=.map (some r)) (by simp)];have h1:=hs.val (d:=55) (by kernel_rfl) (v:=.map (some r)) (av:=.dead) rfl (λ_ _=>trivial);refine wa a1 q1 ?_;refine h1.stepF g0 (ops:=opsOf (nav C8 [1,1,1,1,0,1,0,0,1,0,1,1,1,0,0,1,1,0,0,1,1,0,0,1,1,0,0,1,1,1,0,0])) (e':=(56,.agg true [.int .i64 t.A,.int .i64 t.B])::(55,.dead)::EK l b i s j t) (ps:=[]) q1 (by kernel_rfl) trivial (λd h=>by rw[d1]at h;cases h;kernel_rfl) (λa' w' h2=>?_);rw[wpOps_cons];refine wa a2 q2 ?_;have hm:w'.heap[r]? = some (Ha S):=h2.o (by simp)
 have hkey:a'.tmps.getD 56 undef=Aa (tK t):=by
  obtain⟨F,ow,hx⟩:=h2.sim.rep;obtain⟨vs,h1,h2⟩:=hx.sr 56;have h1:a'.tmps.getD 56 undef=.agg vs.toArray:=h1;rw[h1];cases h2 with
  |cons c1 h2=>cases h2 with
   |cons c2 h2=>cases h2;cases c1;cases c2;rfl
 refine Yq (ZV p2 (by rw[h2.k (s:=55) (v:=.map (some r)) (by simp),hkey];exact YV sty hm hS rfl)) ?_;rw[d2];refine Cc _ (hQ _ _ ?_)
 have h4:=h2.set (r:=r) (o0:=Ha S) (by simp) (Jg w' r (Ha (od S (tK t)))) (obs':=[(r,Ha (od S (tK t)))]) (λp hp=>by
  simp at hp;subst hp;exact .inr ⟨rfl,Kg hm,rfl⟩)
 exact (h4.weak (ma.cast (pat:=[(8,.same),(9,.same),(11,.same),(36,.same),(37,.same),(38,.same),(42,.same),(43,.same),(44,.same)]) (by kernel_rfl) (by kernel_rfl))).forget rfl rfl (λp hp=>by simp at hp⊢;simp[hp]) (λp hp=>hp)
def Zb(l:List Time)(s:Time)(st:va×Bool):va×Bool:=l.foldl (λst t=>cf st (bb s t)) st
def fe(l:List Time)(ss:List Time)(st:va×Bool):va×Bool:=ss.foldl (λst s=>Zb l s st) st
def rnd(S:va):va×Bool:=fe (Kb S) (Kb S) (S,false)
theorem Mag(l:List Time)(s t:Time)(st:va×Bool):Zb (l++[t]) s st=cf (Zb l s st) (bb s t):=by unfold Zb;rw[List.foldl_append];rfl
theorem Nag(l ss:List Time)(s:Time)(st:va×Bool):fe l (ss++[s]) st=Zb l s (fe l ss st):=by unfold fe;rw[List.foldl_append];rfl
theorem dK:∀ (l:List Time) (s:Time) (st:va×Bool),Yb 2 st.1->Yb 2 (Zb l s st).1
 |[],_,_,h=>h
 |t::l,s,st,h=>dK l s (cf st (bb s t)) (Hag h _)
theorem gW(l:List Time):∀ (ss:List Time) (st:va×Bool),Yb 2 st.1->Yb 2 (fe l ss st).1
 |[],_,h=>h
 |s::ss,st,h=>gW l ss (Zb l s st) (dK l s st h)
def gh(S:va)(t:Time):Bool:=decide (tK t∈S)
theorem fK(S:va):∀n,bf S n=qc (gh S) n
 |0=>rfl
 |n+1=>by
  simp only[bf,qc,fK S n];rfl
theorem gK{S:va}{t:Time}:t∈Kb S↔tK t∈S/\Ea t=true:=by
 unfold Kb;rw[fK,BA];simp only[gh,Ea,decide_eq_true_eq];exact⟨λh=>⟨h.1,by omega⟩,λh=>⟨h.1,by omega⟩⟩
def mu(S:va):Nat:=cnt (gh S) allT
def GoodS(xs:List Row)(k:Int)(S:va):Prop:=∀p∈S,∃t,p=tK t/\Ea t=true/\jT xs k t=true
structure ef(xs:List Row)(k:Int)(S0:va)(st:va×Bool)(D:Time->Time->Prop):Prop where
 sub:∀p∈S0,p∈st.1
 good:GoodS xs k st.1
 same:st.2=false->st.1=S0/\∀s t,D s t->tK (bb s t)∈S0
 less:st.2=true->mu st.1<mu S0
theorem Oag{s t:Time}(hs:Ea s=true)(ht:Ea t=true):Ea (bb s t)=true:=by
 simp only[Ea,bb,si,decide_eq_true_eq] at *;refine⟨?_,?_,?_,?_⟩<;>split<;>omega
theorem ef.add{xs:List Row}{k:Int}{S0:va}{st:va×Bool}{D:Time->Time->Prop}(h:ef xs k S0 st D){s t:Time}(hs:Ea s=true/\jT xs k s=true)(ht:Ea t=true/\jT xs k t=true) :
  ef xs k S0 (cf st (bb s t)) (λa b=>D a b\/(a=s/\b=t)):=by
 have hok:=Oag hs.1 ht.1;unfold cf;split
 ·rename_i hm;exact⟨h.sub,h.good,λhf=>⟨(h.same hf).1,λa b hab=>hab.elim ((h.same hf).2 a b) λe=>by rw[e.1,e.2,← (h.same hf).1];exact hm⟩,h.less⟩
 ·rename_i hm;refine⟨λp hp=>List.mem_append.2 (.inl (h.sub p hp)),λp hp=>?_,λhf=>(by cases hf),λ_=>?_⟩
  ·rcases List.mem_append.1 hp with hp|hp
   .exact h.good p hp
   ·simp at hp;exact⟨_,hp,hok,LV hs.2 ht.2⟩
  ·have h1:mu (st.1++[tK (bb s t)])<mu st.1:=cnt_lt (y:=bb s t) (λx _ hx=>by simp only[gh,decide_eq_true_eq]at hx⊢;exact List.mem_append.2 (.inl hx)) (QV.2 hok) (by simpa [gh] using hm) (by simp[gh])
   cases hb:st.2 with
   |true=>exact Nat.lt_trans h1 (h.less hb)
   |false=>rw[(h.same hb).1]at h1⊢;exact h1
theorem ef.mono{xs:List Row}{k:Int}{S0:va}{st:va×Bool}{D D':Time->Time->Prop}(h:ef xs k S0 st D)(hd:∀a b,D' a b->D a b):ef xs k S0 st D':=⟨h.sub,h.good,λhf=>⟨(h.same hf).1,λa b hab=>(h.same hf).2 a b (hd a b hab)⟩,h.less⟩
theorem iW{xs:List Row}{k:Int}{S0:va}{s:Time}(hs:Ea s=true/\jT xs k s=true):∀ (l:List Time) (st:va×Bool) (D:Time->Time->Prop),(∀t∈l,Ea t=true/\jT xs k t=true)->ef xs k S0 st D ->
  ef xs k S0 (Zb l s st) (λa b=>D a b\/(a=s/\b∈l))
 |[],st,D,_,h=>h.mono λa b hab=>hab.elim id λe=>by cases e.2
 |t::l,st,D,hl,h=>(iW hs l (cf st (bb s t)) _ (λu hu=>hl u (by simp[hu])) (h.add hs (hl t (by simp)))).mono λa b hab=>by
  rcases hab with hab|⟨e1,e2⟩
  .exact .inl (.inl hab)
  ·rcases List.mem_cons.1 e2 with rfl|e2
   .exact .inl (.inr ⟨e1,rfl⟩)
   .exact .inr ⟨e1,e2⟩
theorem jW{xs:List Row}{k:Int}{S0:va}{l:List Time}(hl:∀t∈l,Ea t=true/\jT xs k t=true):∀ (ss:List Time) (st:va×Bool) (D:Time->Time->Prop),(∀t∈ss,Ea t=true/\jT xs k t=true)->ef xs k S0 st D ->
  ef xs k S0 (fe l ss st) (λa b=>D a b\/(a∈ss/\b∈l))
 |[],st,D,_,h=>h.mono λa b hab=>hab.elim id λe=>by cases e.1
 |s::ss,st,D,hss,h=>(jW hl ss (Zb l s st) _ (λu hu=>hss u (by simp[hu])) (iW (hss s (by simp)) l st D hl h)).mono λa b hab=>by
  rcases hab with hab|⟨e1,e2⟩
  .exact .inl (.inl hab)
  ·rcases List.mem_cons.1 e1 with rfl|e1
   .exact .inl (.inr ⟨rfl,e2⟩)
   .exact .inr ⟨e1,e2⟩
theorem kW{xs:List Row}{k:Int}{S:va}(h:GoodS xs k S):∀t∈Kb S,Ea t=true/\jT xs k t=true:=λt ht=>by
 obtain⟨h1,h2⟩:=gK.1 ht;obtain⟨u,e,_,h3⟩:=h _ h1;rw[zA e];exact⟨by rw[← zA e];exact h2,h3⟩
theorem Pag{xs:List Row}{k:Int}{S:va}(h:GoodS xs k S):ef xs k S (rnd S) (λa b=>a∈Kb S/\b∈Kb S):=(jW (kW h) (Kb S) (S,false) (λ_ _=>False) (kW h) ⟨λ_ hp=>hp,h,λ_=>⟨rfl,λ_ _ h=>h.elim⟩,λhf=>by cases hf⟩).mono λ_ _ hab=>.inr hab
def Wp(xs:List Row)(k:Int)(S:va):Prop:=∀x∈xs,x.Key=k->tK x.At∈S
def iK(S:va):Prop:=∀s t,s∈Kb S->t∈Kb S->tK (bb s t)∈S
theorem Qag{xs:List Row}{k:Int}{S:va}(h1:GoodS xs k S)(h2:Wp xs k S)(h3:iK S):Kb S=qc (jT xs k) 8:=by
 unfold Kb;rw[fK];refine YJ λa b ha hb=>?_;rw[Bool.eq_iff_iff];constructor
 ·intro h;simp only[gh,decide_eq_true_eq]at h;obtain⟨u,e,_,h4⟩:=h1 _ h;rw[zA e];exact h4
 ·intro h
  have hM:∀t:Time,tK t∈S->t∈Kb S:=λt ht=>by
   obtain⟨u,e,h5,_⟩:=h1 _ ht;rw[← zA e]at h5;exact gK.2 ⟨ht,h5⟩
  have:=MV (M:=λt=>tK t∈S) h2 (λs t hs ht=>h3 s t (hM s hs) (hM t ht)) h;simpa [gh] using this
theorem jK(k:Int):∀ (xs:List Row) (S:va) (p:List Int),p∈Qd k xs S↔p∈S\/∃x∈xs,x.Key=k/\p=tK x.At
 |[],S,p=>by simp[Qd]
 |x::r,S,p=>by
  rw[Qd,jK k r];by_cases hk:x.Key=k
  ·have hi:p∈od S (tK x.At)↔p∈S\/p=tK x.At:=by
    unfold od;split
    ·rename_i hm;exact⟨.inl,λh=>h.elim id λe=>e▸hm⟩
    .simp
   rw[if_pos hk,hi];constructor
   ·rintro ((h|h)|⟨y,h1,h2,h3⟩)
    .exact .inl h
    .exact .inr ⟨x,by simp,hk,h⟩
    .exact .inr ⟨y,by simp[h1],h2,h3⟩
   ·rintro (h|⟨y,h1,h2,h3⟩)
    .exact .inl (.inl h)
    ·rcases List.mem_cons.1 h1 with rfl|h1
     .exact .inl (.inr h3)
     .exact .inr ⟨y,h1,h2,h3⟩
  ·rw[if_neg hk];constructor
   ·rintro (h|⟨y,h1,h2,h3⟩)
    .exact .inl h
    .exact .inr ⟨y,by simp[h1],h2,h3⟩
   ·rintro (h|⟨y,h1,h2,h3⟩)
    .exact .inl h
    ·rcases List.mem_cons.1 h1 with rfl|h1
     .exact absurd h2 hk
     .exact .inr ⟨y,h1,h2,h3⟩
end Tg
end Go.Proofs.YthfkpijcajdnhaaGreat

namespace Go.Proofs.YthfkpijcajdnhaaGreat
namespace Tg
open Go
set_option maxRecDepth 20000 in
theorem Rag{Q:Exit->Act->World->Prop}{B:Nat}{W0:World}{F0:Fz}{r:Nat}{S:va}(hS:Yb 2 S){l:List Time}(hlen:l.length<=64)(hl:∀t∈l,Ea t=true){b:Bool}{i:Int}{s:Time}(hs0:Ea s=true){a:Act}{w:World}(hs:MS (N8 r) B [] W0 F0 [(r,Ha S)] (EJ l b i s 0) a w)
  (hQ:∀a w,MS (N8 r) B [] W0 F0 [(r,Ha (Zb l s (S,b)).1)] (EI l (Zb l s (S,b)).2 i) a w->Q .normal a w):(nav C8 [1,1,1,1,0,1,0,0,1,0,1,1,1,0,0,1,1,0,0,1,1]).wp Tryz.prog Q a w:=by
 refine tc (c1:=nav C8 [1,1,1,1,0,1,0,0,1,0,1,1,1,0,0,1,1,0,0,1,1,0]) (id:=6) (by kernel_rfl) ?_;rw[show nav C8 [1,1,1,1,0,1,0,0,1,0,1,1,1,0,0,1,1,0,0,1,1,0]=.loop (nav C8 [1,1,1,1,0,1,0,0,1,0,1,1,1,0,0,1,1,0,0,1,1,0,0]) by kernel_rfl];refine oe (σ:=Nat) (λj a w=>j<=l.length/\MS (N8 r) B [] W0 F0 [(r,Ha (Zb (l.take j) s (S,b)).1)] (EJ l (Zb (l.take j) s (S,b)).2 i s j) a w) (λj=>l.length - j) ?_ 0 ⟨Nat.zero_le _,hs⟩;rintro j a w ⟨hj,hs⟩;refine ka (c1:=nav C8 [1,1,1,1,0,1,0,0,1,0,1,1,1,0,0,1,1,0,0,1,1,0,0,0]) (c2:=nav C8 [1,1,1,1,0,1,0,0,1,0,1,1,1,0,0,1,1,0,0,1,1,0,0,1]) (by kernel_rfl) ?_;refine MS.regC g0 (keep:=[8,9,11,36,37,38,42,43,44,45]) (e':=[(8,.v .fr (.bool (Zb (l.take j) s (S,b)).2)),(9,TL l),(11,Rk s),(36,TL l),(37,.v .fr (.int .i64 (aa .time l))),(38,.v .fr (.int .i64 i)),(42,TL l),(43,.v .fr (.int .i64 (aa .time l))),(44,.v .fr (.int .i64 j)),(45,.v .fr (.bool (cmp .lss j (aa .time l))))]) (ps:=[]) (by kernel_rfl) trivial hs (λa w hs=>?_);show (nav C8 [1,1,1,1,0,1,0,0,1,0,1,1,1,0,0,1,1,0,0,1,1,0,0,1]).wp _ _ a w;refine ka (c1:=nav C8 [1,1,1,1,0,1,0,0,1,0,1,1,1,0,0,1,1,0,0,1,1,0,0,1,0]) (c2:=nav C8 [1,1,1,1,0,1,0,0,1,0,1,1,1,0,0,1,1,0,0,1,1,0,0,1,1]) (by kernel_rfl) ?_;refine uc (o:=.tmp 45) (c1:=nav C8 [1,1,1,1,0,1,0,0,1,0,1,1,1,0,0,1,1,0,0,1,1,0,0,1,0,0]) (c2:=nav C8 [1,1,1,1,0,1,0,0,1,0,1,1,1,0,0,1,1,0,0,1,1,0,0,1,0,1]) (by kernel_rfl) (hs.bool (k:=.fr) rfl) (λht=>Nc (by kernel_rfl) ?_) (λhf=>Oe (i:=6) (by kernel_rfl) ?_)
 ·have hlt:j<l.length:=by
   have:=of_decide_eq_true (show decide ((j:Int)<aa .time l)=true from ht);unfold aa at this;omega
  have hrd:rd .time l j=l[j]:=by
   unfold rd;rw[List.getD_eq_getElem?_getD,show (j:Int).toNat=j from rfl,List.getElem?_eq_getElem hlt];rfl
  have htake:l.take (j+1)=l.take j++[rd .time l j]:=by rw[List.take_succ_eq_append_getElem hlt,hrd]
  have hokt:Ea (rd .time l j)=true:=by rw[hrd];exact hl _ (List.getElem_mem hlt)
  have hkj:=dK (l.take j) s (S,b) hS;have hnext:Zb (l.take (j+1)) s (S,b)=cf (Zb (l.take j) s (S,b)) (bb s (rd .time l j)):=by rw[List.take_succ_eq_append_getElem hlt,Mag,← hrd]
  generalize Zb (l.take j) s (S,b)=st at hs hkj hnext;generalize htt:rd .time l j=t at hnext hokt
  have hend:∀ {a:Act} {w:World},MS (N8 r) B [] W0 F0 [(r,Ha (Zb (l.take (j+1)) s (S,b)).1)] (EJ l (Zb (l.take (j+1)) s (S,b)).2 i s j) a w->(nav C8 [1,1,1,1,0,1,0,0,1,0,1,1,1,0,0,1,1,0,0,1,1,0,0,1,1,1]).wp Tryz.prog (λe a' w'=>Exit.then (λa' w'=>∃s',l.length - s'<l.length - j/\(s'<=l.length/\MS (N8 r) B [] W0 F0 [(r,Ha (Zb (l.take s') s (S,b)).1)] (EJ l (Zb (l.take s') s (S,b)).2 i s s') a' w')) (Exit.inBlock 6 Q) e a' w') a w:=λhs=>by
   refine MS.regC g0 (keep:=[8,9,11,36,37,38,42,43,44]) (e':=EJ l (Zb (l.take (j+1)) s (S,b)).2 i s (ar .add .i64 j 1)) (ps:=[]) (by kernel_rfl) trivial hs (λa w hs=>?_);refine⟨j+1,by omega,by omega,?_⟩;rw[Mg (by omega) (by omega)]at hs;exact hs
  show (nav C8 [1,1,1,1,0,1,0,0,1,0,1,1,1,0,0,1,1,0,0,1,1,0,0,1,1]).wp _ _ a w;refine ka (c1:=nav C8 [1,1,1,1,0,1,0,0,1,0,1,1,1,0,0,1,1,0,0,1,1,0,0,1,1,0]) (c2:=nav C8 [1,1,1,1,0,1,0,0,1,0,1,1,1,0,0,1,1,0,0,1,1,0,0,1,1,1]) (by kernel_rfl) ?_;refine tc (c1:=nav C8 [1,1,1,1,0,1,0,0,1,0,1,1,1,0,0,1,1,0,0,1,1,0,0,1,1,0,0]) (id:=7) (by kernel_rfl) ?_;refine ka (c1:=nav C8 [1,1,1,1,0,1,0,0,1,0,1,1,1,0,0,1,1,0,0,1,1,0,0,1,1,0,0,0]) (c2:=nav C8 [1,1,1,1,0,1,0,0,1,0,1,1,1,0,0,1,1,0,0,1,1,0,0,1,1,0,0,1]) (by kernel_rfl) ?_;refine MS.regC g0 (keep:=[13,8,9,11,36,37,38,42,43,44]) (e':=(13,Rk (rd .time l j))::EJ l st.2 i s j) (ps:=[inb j (aa .time l)]) (by kernel_rfl) ⟨⟨by omega,by unfold aa;omega⟩,trivial⟩ hs (λa w hs=>?_);rw[htt]at hs;show (nav C8 [1,1,1,1,0,1,0,0,1,0,1,1,1,0,0,1,1,0,0,1,1,0,0,1,1,0,0,1]).wp _ _ a w;refine ka (c1:=nav C8 [1,1,1,1,0,1,0,0,1,0,1,1,1,0,0,1,1,0,0,1,1,0,0,1,1,0,0,1,0]) (c2:=nav C8 [1,1,1,1,0,1,0,0,1,0,1,1,1,0,0,1,1,0,0,1,1,0,0,1,1,0,0,1,1]) (by kernel_rfl) ?_;refine MS.regC g2 (keep:=[14,8,9,11,36,37,38,42,43,44]) (e':=(14,Rk (mi s t))::EJ l st.2 i s j) (ps:=[ni s t]) (by kernel_rfl) ⟨(BD hs0 hokt).1,trivial⟩ hs (λa w hs=>?_);rw[(BD hs0 hokt).2]at hs;show (nav C8 [1,1,1,1,0,1,0,0,1,0,1,1,1,0,0,1,1,0,0,1,1,0,0,1,1,0,0,1,1]).wp _ _ a w;refine ka (c1:=nav C8 [1,1,1,1,0,1,0,0,1,0,1,1,1,0,0,1,1,0,0,1,1,0,0,1,1,0,0,1,1,0]) (c2:=nav C8 [1,1,1,1,0,1,0,0,1,0,1,1,1,0,0,1,1,0,0,1,1,0,0,1,1,0,0,1,1,1]) (by kernel_rfl) ?_;refine Jag (S:=st.1) hkj (l:=l) (b:=st.2) (i:=i) (j:=j) (s:=s) (t:=bb s t) hs (λa w hs=>?_);show (nav C8 [1,1,1,1,0,1,0,0,1,0,1,1,1,0,0,1,1,0,0,1,1,0,0,1,1,0,0,1,1,1]).wp _ _ a w;refine uc (o:=.tmp 54) (c1:=nav C8 [1,1,1,1,0,1,0,0,1,0,1,1,1,0,0,1,1,0,0,1,1,0,0,1,1,0,0,1,1,1,0]) (c2:=nav C8 [1,1,1,1,0,1,0,0,1,0,1,1,1,0,0,1,1,0,0,1,1,0,0,1,1,0,0,1,1,1,1]) (by kernel_rfl) (hs.bool (k:=.fr) rfl) (λht=>?_) (λhf=>Nc (by kernel_rfl) ?_)
  ·have hm:¬ tK (bb s t)∈st.1:=by simpa using ht
   have hs2:=hs.weak (ma.cast (e':=EK l st.2 i s j (bb s t)) (pat:=[(14,.same),(8,.same),(9,.same),(11,.same),(36,.same),(37,.same),(38,.same),(42,.same),(43,.same),(44,.same)]) (by kernel_rfl) (by kernel_rfl));refine ka (c1:=nav C8 [1,1,1,1,0,1,0,0,1,0,1,1,1,0,0,1,1,0,0,1,1,0,0,1,1,0,0,1,1,1,0,0]) (c2:=nav C8 [1,1,1,1,0,1,0,0,1,0,1,1,1,0,0,1,1,0,0,1,1,0,0,1,1,0,0,1,1,1,0,1]) (by kernel_rfl) ?_;refine Lag (S:=st.1) hkj (l:=l) (b:=st.2) (i:=i) (j:=j) (s:=s) (t:=bb s t) hs2 (λa w hs=>?_);show (nav C8 [1,1,1,1,0,1,0,0,1,0,1,1,1,0,0,1,1,0,0,1,1,0,0,1,1,0,0,1,1,1,0,1]).wp _ _ a w;refine MS.regC g0 (keep:=[8,9,11,36,37,38,42,43,44]) (e':=EJ l true i s j) (ps:=[]) (by kernel_rfl) trivial hs (λa w hs=>?_);refine hend ?_;rw[hnext];unfold cf;rw[if_neg hm];unfold od at hs;rw[if_neg hm]at hs;exact hs
  ·have hm:tK (bb s t)∈st.1:=by simpa using hf
   refine hend ?_;rw[hnext];unfold cf;rw[if_pos hm];exact hs.weak (ma.cast (pat:=[(8,.same),(9,.same),(11,.same),(36,.same),(37,.same),(38,.same),(42,.same),(43,.same),(44,.same)]) (by kernel_rfl) (by kernel_rfl))
 ·have hge:l.length<=j:=by
   have:=of_decide_eq_false (show decide ((j:Int)<aa .time l)=false from hf);unfold aa at this;omega
  show Exit.inBlock 6 Q (.exit 6) a w;simp only[Exit.inBlock,if_true];refine hQ a w ?_;rw[List.take_of_length_le hge]at hs;exact hs.weak (ma.cast (pat:=[(8,.same),(9,.same),(36,.same),(37,.same),(38,.same)]) (by kernel_rfl) (by kernel_rfl))
set_option maxRecDepth 20000 in
theorem Sag{Q:Exit->Act->World->Prop}{B:Nat}{W0:World}{F0:Fz}{r:Nat}{S:va}(hS:Yb 2 S){l:List Time}(hlen:l.length<=64)(hl:∀t∈l,Ea t=true){b:Bool}{a:Act}{w:World}(hs:MS (N8 r) B [] W0 F0 [(r,Ha S)] (EI l b 0) a w)
  (hQ:∀a w,MS (N8 r) B [] W0 F0 [(r,Ha (fe l l (S,b)).1)] [(8,.v .fr (.bool (fe l l (S,b)).2))] a w->Q .normal a w):(nav C8 [1,1,1,1,0,1,0,0,1,0,1,1,1]).wp Tryz.prog Q a w:=by
 refine tc (c1:=nav C8 [1,1,1,1,0,1,0,0,1,0,1,1,1,0]) (id:=4) (by kernel_rfl) ?_;rw[show nav C8 [1,1,1,1,0,1,0,0,1,0,1,1,1,0]=.loop (nav C8 [1,1,1,1,0,1,0,0,1,0,1,1,1,0,0]) by kernel_rfl];refine oe (σ:=Nat) (λi a w=>i<=l.length/\MS (N8 r) B [] W0 F0 [(r,Ha (fe l (l.take i) (S,b)).1)] (EI l (fe l (l.take i) (S,b)).2 i) a w) (λi=>l.length - i) ?_ 0 ⟨Nat.zero_le _,hs⟩;rintro i a w ⟨hi,hs⟩;refine ka (c1:=nav C8 [1,1,1,1,0,1,0,0,1,0,1,1,1,0,0,0]) (c2:=nav C8 [1,1,1,1,0,1,0,0,1,0,1,1,1,0,0,1]) (by kernel_rfl) ?_;refine MS.regC g0 (keep:=[8,9,36,37,38,39]) (e':=[(8,.v .fr (.bool (fe l (l.take i) (S,b)).2)),(9,TL l),(36,TL l),(37,.v .fr (.int .i64 (aa .time l))),(38,.v .fr (.int .i64 i)),(39,.v .fr (.bool (cmp .lss i (aa .time l))))]) (ps:=[]) (by kernel_rfl) trivial hs (λa w hs=>?_);show (nav C8 [1,1,1,1,0,1,0,0,1,0,1,1,1,0,0,1]).wp _ _ a w;refine ka (c1:=nav C8 [1,1,1,1,0,1,0,0,1,0,1,1,1,0,0,1,0]) (c2:=nav C8 [1,1,1,1,0,1,0,0,1,0,1,1,1,0,0,1,1]) (by kernel_rfl) ?_;refine uc (o:=.tmp 39) (c1:=nav C8 [1,1,1,1,0,1,0,0,1,0,1,1,1,0,0,1,0,0]) (c2:=nav C8 [1,1,1,1,0,1,0,0,1,0,1,1,1,0,0,1,0,1]) (by kernel_rfl) (hs.bool (k:=.fr) rfl) (λht=>Nc (by kernel_rfl) ?_) (λhf=>Oe (i:=4) (by kernel_rfl) ?_)
 ·have hlt:i<l.length:=by
   have:=of_decide_eq_true (show decide ((i:Int)<aa .time l)=true from ht);unfold aa at this;omega
  have hrd:rd .time l i=l[i]:=by
   unfold rd;rw[List.getD_eq_getElem?_getD,show (i:Int).toNat=i from rfl,List.getElem?_eq_getElem hlt];rfl
  have hokt:Ea (rd .time l i)=true:=by rw[hrd];exact hl _ (List.getElem_mem hlt)
  have hki:=gW l (l.take i) (S,b) hS;have hnext:fe l (l.take (i+1)) (S,b)=Zb l (rd .time l i) (fe l (l.take i) (S,b)):=by rw[List.take_succ_eq_append_getElem hlt,Nag,← hrd]
  generalize fe l (l.take i) (S,b)=st at hs hki hnext;generalize htt:rd .time l i=s at hnext hokt;show (nav C8 [1,1,1,1,0,1,0,0,1,0,1,1,1,0,0,1,1]).wp _ _ a w;refine ka (c1:=nav C8 [1,1,1,1,0,1,0,0,1,0,1,1,1,0,0,1,1,0]) (c2:=nav C8 [1,1,1,1,0,1,0,0,1,0,1,1,1,0,0,1,1,1]) (by kernel_rfl) ?_;refine tc (c1:=nav C8 [1,1,1,1,0,1,0,0,1,0,1,1,1,0,0,1,1,0,0]) (id:=5) (by kernel_rfl) ?_;refine ka (c1:=nav C8 [1,1,1,1,0,1,0,0,1,0,1,1,1,0,0,1,1,0,0,0]) (c2:=nav C8 [1,1,1,1,0,1,0,0,1,0,1,1,1,0,0,1,1,0,0,1]) (by kernel_rfl) ?_;refine MS.regC g0 (keep:=[8,9,11,36,37,38]) (e':=[(8,.v .fr (.bool st.2)),(9,TL l),(11,Rk (rd .time l i)),(36,TL l),(37,.v .fr (.int .i64 (aa .time l))),(38,.v .fr (.int .i64 i))]) (ps:=[inb i (aa .time l)]) (by kernel_rfl) ⟨⟨by omega,by unfold aa;omega⟩,trivial⟩ hs (λa w hs=>?_);rw[htt]at hs;show (nav C8 [1,1,1,1,0,1,0,0,1,0,1,1,1,0,0,1,1,0,0,1]).wp _ _ a w;refine ka (c1:=nav C8 [1,1,1,1,0,1,0,0,1,0,1,1,1,0,0,1,1,0,0,1,0]) (c2:=nav C8 [1,1,1,1,0,1,0,0,1,0,1,1,1,0,0,1,1,0,0,1,1]) (by kernel_rfl) ?_;refine MS.regC g0 (keep:=[8,9,11,36,37,38,42,43,44]) (e':=EJ l st.2 i s 0) (ps:=[]) (by kernel_rfl) trivial hs (λa w hs=>?_);refine Rag (S:=st.1) hki hlen hl hokt hs (λa w hs=>?_);show (nav C8 [1,1,1,1,0,1,0,0,1,0,1,1,1,0,0,1,1,1]).wp _ _ a w;have hs:MS (N8 r) B [] W0 F0 [(r,Ha (Zb l s st).1)] (EI l (Zb l s st).2 i) a w:=hs;refine MS.regC g0 (keep:=[8,9,36,37,38]) (e':=EI l (Zb l s st).2 (ar .add .i64 i 1)) (ps:=[]) (by kernel_rfl) trivial hs (λa w hs=>?_);refine⟨i+1,by omega,by omega,?_⟩;rw[Mg (by omega) (by omega)]at hs;rw[hnext];exact hs
 ·have hge:l.length<=i:=by
   have:=of_decide_eq_false (show decide ((i:Int)<aa .time l)=false from hf);unfold aa at this;omega
  show Exit.inBlock 4 Q (.exit 4) a w;simp only[Exit.inBlock,if_true];refine hQ a w ?_;rw[List.take_of_length_le hge]at hs;exact hs.weak (ma.cast (pat:=[(8,.same)]) (by kernel_rfl) (by kernel_rfl))
set_option maxRecDepth 20000 in
theorem Tag{Q:Exit->Act->World->Prop}{B:Nat}{W0:World}{F0:Fz}{r:Nat}{S:va}(hS:Yb 2 S){a:Act}{w:World}(hs:MS (N8 r) B [] W0 F0 [(r,Ha S)] [(8,.v .fr (.bool false))] a w)
  (hQ:∀a w,MS (N8 r) B [] W0 F0 [(r,Ha S)] [(8,.v .fr (.bool false)),(9,TL (Kb S))] a w->Q .normal a w):(nav C8 [1,1,1,1,0,1,0,0,1,0,1,0]).wp Tryz.prog Q a w:=by
 obtain⟨p0,d0,g0',p1,d1,g1',d2,g2',hsz,a0,a1,a2⟩:=Cag;refine Mc (by kernel_rfl) hsz ?_;rw[wpOps_cons];refine wa a0 g0' ?_;refine Ja (Xd p0) ?_;rw[d0,wpOps_cons,hs.k (s:=5) (v:=.map (some r)) (by simp)];have h1:=hs.val (d:=34) (by kernel_rfl) (v:=.map (some r)) (av:=.dead) rfl (λ_ _=>trivial);refine wa a1 g1' ?_;refine fW h1 hS (r:=r) (by simp) p1 (h1.k (s:=34) (v:=.map (some r)) (by simp)) d1 (by kernel_rfl) (λv w' h2=>?_);rw[wpOps_cons];refine wa a2 g2' ?_;refine h2.stepF g0 (ops:=opsOf (nav C8 [1,1,1,1,0,1,0,0,1,0,1,0])) (e':=[(9,TL (Kb S)),(35,TL (Kb S)),(34,.dead),(8,.v .fr (.bool false))]) (ps:=[]) g2' (by kernel_rfl) trivial (λd h=>by rw[d2]at h;cases h;kernel_rfl) (λa3 w3 h3=>?_);refine Cc _ (hQ _ _ ?_);exact (h3.weak (ma.cast (pat:=[(8,.same),(9,.same)]) (by kernel_rfl) (by kernel_rfl))).forget rfl rfl (λp hp=>by simp at hp⊢;simp[hp]) (λp hp=>hp)
set_option maxRecDepth 20000 in
theorem Uag{Q:Exit->Act->World->Prop}{B:Nat}{W0:World}{F0:Fz}{r:Nat}{S:va}(hS:Yb 2 S){a:Act}{w:World}(hs:MS (N8 r) B [] W0 F0 [(r,Ha S)] [] a w)
  (hQ:∀a w,MS (N8 r) B [] W0 F0 [(r,Ha S)] [(4,TL (Kb S))] a w->Q .normal a w):(nav C8 [1,1,1,1,1,0]).wp Tryz.prog Q a w:=by
 obtain⟨p0,d0,g0',p1,d1,g1',d2,g2',hsz,a0,a1,a2⟩:=Dag;refine Mc (by kernel_rfl) hsz ?_;rw[wpOps_cons];refine wa a0 g0' ?_;refine Ja (Xd p0) ?_;rw[d0,wpOps_cons,hs.k (s:=5) (v:=.map (some r)) (by simp)];have h1:=hs.val (d:=59) (by kernel_rfl) (v:=.map (some r)) (av:=.dead) rfl (λ_ _=>trivial);refine wa a1 g1' ?_;refine fW h1 hS (r:=r) (by simp) p1 (h1.k (s:=59) (v:=.map (some r)) (by simp)) d1 (by kernel_rfl) (λv w' h2=>?_);rw[wpOps_cons];refine wa a2 g2' ?_;refine h2.stepF g0 (ops:=opsOf (nav C8 [1,1,1,1,1,0])) (e':=[(4,TL (Kb S)),(60,TL (Kb S)),(59,.dead)]) (ps:=[]) g2' (by kernel_rfl) trivial (λd h=>by rw[d2]at h;cases h;kernel_rfl) (λa3 w3 h3=>?_);refine Cc _ (hQ _ _ ?_);exact (h3.weak (ma.cast (pat:=[(4,.same)]) (by kernel_rfl) (by kernel_rfl))).forget rfl rfl (λp hp=>by simp at hp⊢;simp[hp]) (λp hp=>hp)
theorem Vag(S:va):(Kb S).length<=64:=bK S 8
set_option maxRecDepth 20000 in
theorem Wag{xs:List Row}{k:Int}{Q:Exit->Act->World->Prop}{B:Nat}{W0:World}{F0:Fz}{r:Nat}{S:va}(hS:GoodS xs k S)(hH:Wp xs k S){a:Act}{w:World}(hs:MS (N8 r) B [] W0 F0 [(r,Ha S)] [(8,.v .fr (.bool true))] a w)
  (hQ:∀S a w,GoodS xs k S->Wp xs k S->iK S->MS (N8 r) B [] W0 F0 [(r,Ha S)] [] a w->Q .normal a w):(nav C8 [1,1,1,1,0,1]).wp Tryz.prog Q a w:=by
 have hkd:∀ {S:va},GoodS xs k S->Yb 2 S:=λh p hp=>by obtain⟨t,rfl,_⟩:=h p hp;rfl
 refine tc (c1:=nav C8 [1,1,1,1,0,1,0]) (id:=2) (by kernel_rfl) ?_;rw[show nav C8 [1,1,1,1,0,1,0]=.loop (nav C8 [1,1,1,1,0,1,0,0]) by kernel_rfl];refine oe (σ:=va×Bool) (λst a w=>(GoodS xs k st.1/\Wp xs k st.1/\(st.2=false->iK st.1))/\MS (N8 r) B [] W0 F0 [(r,Ha st.1)] [(8,.v .fr (.bool st.2))] a w) (λst=>2*mu st.1+st.2.toNat) ?_ (S,true) ⟨⟨hS,hH,λh=>by cases h⟩,hs⟩;rintro⟨S,b⟩ a w ⟨⟨hS,hH,hC⟩,hs⟩;refine ka (c1:=nav C8 [1,1,1,1,0,1,0,0,0]) (c2:=nav C8 [1,1,1,1,0,1,0,0,1]) (by kernel_rfl) ?_;refine ka (c1:=nav C8 [1,1,1,1,0,1,0,0,0,0]) (c2:=nav C8 [1,1,1,1,0,1,0,0,0,1]) (by kernel_rfl) ?_;refine MS.regC g0 (keep:=[33]) (e':=[(33,.v .fr (.bool b))]) (ps:=[]) (by kernel_rfl) trivial hs (λa w hs=>?_);show (nav C8 [1,1,1,1,0,1,0,0,0,1]).wp _ _ a w;refine uc (o:=.tmp 33) (c1:=nav C8 [1,1,1,1,0,1,0,0,0,1,0]) (c2:=nav C8 [1,1,1,1,0,1,0,0,0,1,1]) (by kernel_rfl) (hs.bool (k:=.fr) rfl) (λht=>Nc (by kernel_rfl) ?_) (λhf=>Oe (i:=2) (by kernel_rfl) ?_)
 ·subst ht;show (nav C8 [1,1,1,1,0,1,0,0,1]).wp _ _ a w;refine tc (c1:=nav C8 [1,1,1,1,0,1,0,0,1,0]) (id:=3) (by kernel_rfl) ?_;refine ka (c1:=nav C8 [1,1,1,1,0,1,0,0,1,0,0]) (c2:=nav C8 [1,1,1,1,0,1,0,0,1,0,1]) (by kernel_rfl) ?_;refine MS.regC g0 (keep:=[8]) (e':=[(8,.v .fr (.bool false))]) (ps:=[]) (by kernel_rfl) trivial hs (λa w hs=>?_);show (nav C8 [1,1,1,1,0,1,0,0,1,0,1]).wp _ _ a w;refine ka (c1:=nav C8 [1,1,1,1,0,1,0,0,1,0,1,0]) (c2:=nav C8 [1,1,1,1,0,1,0,0,1,0,1,1]) (by kernel_rfl) ?_;refine Tag (hkd hS) hs (λa w hs=>?_);show (nav C8 [1,1,1,1,0,1,0,0,1,0,1,1]).wp _ _ a w;refine ka (c1:=nav C8 [1,1,1,1,0,1,0,0,1,0,1,1,0]) (c2:=nav C8 [1,1,1,1,0,1,0,0,1,0,1,1,1]) (by kernel_rfl) ?_;refine MS.regC g0 (keep:=[8,9,36,37,38]) (e':=EI (Kb S) false 0) (ps:=[]) (by kernel_rfl) trivial hs (λa w hs=>?_);refine Sag (hkd hS) (Vag S) (λt ht=>(gK.1 ht).2) hs (λa w hs=>?_);have hs:MS (N8 r) B [] W0 F0 [(r,Ha (rnd S).1)] [(8,.v .fr (.bool (rnd S).2))] a w:=hs;have hI:=Pag (S:=S) hS;refine⟨rnd S,?_,⟨hI.good,λx hx hk=>hI.sub _ (hH x hx hk),λhf=>?_⟩,hs⟩
  ·show 2*mu (rnd S).1+(rnd S).2.toNat<2*mu S+true.toNat;cases hb:(rnd S).2 with
   |true=>
    have:=hI.less hb;simp only[Bool.toNat_true];omega
   |false=>
    rw[(hI.same hb).1];simp
  ·obtain⟨e,h2⟩:=hI.same hf;intro s t hs ht;rw[e]at hs ht⊢;exact h2 s t ⟨hs,ht⟩
 ·subst hf;show Exit.inBlock 2 Q (.exit 2) a w;simp only[Exit.inBlock,if_true];exact hQ S a w hS hH (hC rfl) (hs.weak (ma.cast (pat:=[]) (by kernel_rfl) (by kernel_rfl)))
end Tg
open Tg in
set_option maxRecDepth 20000 in
theorem Xag:Con Tryz.prog 100 IV:=by
 refine Gi ttF (fn:=Tryz.f100) (c:=C8) (by kernel_rfl) (by kernel_rfl) (by kernel_rfl) (rs:=[.tmp 4]) (by kernel_rfl) (by kernel_rfl) (λ_=>rfl) ?_;intro x hx fr hfB hfL hIO a w hs;obtain⟨B,IoB,W0,F0⟩:=fr;have hIO:IoB=[]:=hIO rfl;subst hIO;obtain⟨xs,kk,u⟩:=x;have hx:xs.length<=1000000:=hx;obtain⟨q1,q2⟩:=kN xs (by omega);have hms:MS ⟨61,none,[]⟩ B [] W0 F0 [] [(0,.v .sh (.lst .row xs)),(1,.v .fr (.int .i64 kk))] a w:=(MS.of hs hfB).forget (by kernel_rfl) rfl (λp h=>by cases h) (λp h=>by cases h);refine ka (c1:=nav C8 [0]) (c2:=nav C8 [1]) (by kernel_rfl) ?_;refine MS.regC g1 (keep:=[0,1]) (e':=[(0,.v .sh (.lst .row xs)),(1,.v .fr (.int .i64 kk))]) (ps:=[]) (by kernel_rfl) trivial hms (λa w hs=>?_);show (nav C8 [1]).wp _ _ a w;refine ka (c1:=nav C8 [1,0]) (c2:=nav C8 [1,1]) (by kernel_rfl) ?_;refine ka (c1:=nav C8 [1,0,0]) (c2:=nav C8 [1,0,1]) (by kernel_rfl) ?_;refine MS.regC g1 (keep:=[0,1,17]) (e':=[(0,.v .sh (.lst .row xs)),(1,.v .fr (.int .i64 kk)),(17,.v .fr (.bool (!(zo xs))))]) (ps:=[Ao xs]) (by kernel_rfl) ⟨q1,trivial⟩ hs (λa w hs=>?_);show (nav C8 [1,0,1]).wp _ _ a w;refine uc (o:=.tmp 17) (c1:=nav C8 [1,0,1,0]) (c2:=nav C8 [1,0,1,1]) (by kernel_rfl) (hs.bool (k:=.fr) rfl) (λht=>?_) (λhf=>Nc (by kernel_rfl) ?_)
 ·have hro:¬ Ib xs=true:=by
   intro h;rw[q2,h]at ht;cases ht
  refine ka (c1:=nav C8 [1,0,1,0,0]) (c2:=nav C8 [1,0,1,0,1]) (by kernel_rfl) ?_;refine MS.regC g1 (keep:=[4]) (e':=[(4,.v .fr (.nl .time))]) (ps:=[]) (by kernel_rfl) trivial hs (λa w hs=>?_);refine Lg (by kernel_rfl) ?_;refine⟨[(4,.v .fr (.nl .time))],?_,?_⟩
  .exact (hs.forget (N':=⟨(Tryz.f100).ntmps,none,[]⟩) (obs':=[]) (by kernel_rfl) rfl (λp h=>by cases h) (λp h=>by cases h)).to
  ·have hv:Xa xs kk=[]:=by unfold Xa;rw[if_neg hro]
   refine⟨?_,trivial⟩;show _=some (RT.av (.one .fr (.lst .time)) (Xa xs kk));rw[hv];rfl
 have hro:Ib xs=true:=by
  rw[q2]at hf;cases h:Ib xs with
  |true=>rfl
  |false=>rw[h]at hf;cases hf
 show (nav C8 [1,1]).wp _ _ a w;refine ka (c1:=nav C8 [1,1,0]) (c2:=nav C8 [1,1,1]) (by kernel_rfl) ?_;obtain⟨p0,d0,g0',p1,d1,g1',hsz,a0,a1⟩:=ops3;refine Mc (by kernel_rfl) hsz ?_;rw[wpOps_cons];refine wa a0 g0' ?_;refine Ja (AC p0) ?_;rw[d0,wpOps_cons];have h1:=hs.alloc (d:=18) (by kernel_rfl) (v:=.map (some w.heap.size)) (o:=.map #[] 0) rfl;refine wa a1 g1' ?_;refine Ja (Cl p1) ?_;rw[d1,h1.k (s:=18) (v:=.map (some w.heap.size)) (by simp)];have h2:=h1.val (d:=5) (by kernel_rfl) (v:=.map (some w.heap.size)) (av:=.dead) rfl (λ_ _=>trivial);have h3:MS (N8 w.heap.size) B [] W0 F0 [(w.heap.size,Ha [])] [(0,.v .sh (.lst .row xs)),(1,.v .fr (.int .i64 kk))] _ _:=(h2.weak (ma.cast (pat:=[(0,.same),(1,.same)]) (by kernel_rfl) (by kernel_rfl))).forget rfl rfl (λp hp=>by simp at hp⊢;simp[hp]) (λp hp=>hp);generalize w.heap.size=r at h3;clear h1 h2;refine Cc _ ?_;show (nav C8 [1,1,1]).wp _ _ _ _;generalize w.alloc (.map #[] 0)=w1 at h3⊢;generalize (a.put (some 18) _).put (some 5) _=a1 at h3⊢;refine ka (c1:=nav C8 [1,1,1,0]) (c2:=nav C8 [1,1,1,1]) (by kernel_rfl) ?_;refine ka (c1:=nav C8 [1,1,1,0,0]) (c2:=nav C8 [1,1,1,0,1]) (by kernel_rfl) ?_;refine MS.regC Tg.g0 (keep:=[1,19,20,21]) (e':=EA xs kk 0) (ps:=[]) (by kernel_rfl) trivial h3 (λa w hs=>?_);refine loopA hx hs (λa w hs=>?_)
 have hG:GoodS xs kk (Qd kk xs []):=λp hp=>by
  rcases (jK kk xs [] p).1 hp with h|⟨y,h1,h2,h3⟩
  .cases h
  .exact⟨y.At,h3,Og ((Bb hro).2 y h1),JV h1 h2⟩
 have hH:Wp xs kk (Qd kk xs []):=λy h1 h2=>(jK kk xs [] _).2 (.inr ⟨y,h1,h2,rfl⟩);show (nav C8 [1,1,1,1]).wp _ _ a w;refine ka (c1:=nav C8 [1,1,1,1,0]) (c2:=nav C8 [1,1,1,1,1]) (by kernel_rfl) ?_;refine ka (c1:=nav C8 [1,1,1,1,0,0]) (c2:=nav C8 [1,1,1,1,0,1]) (by kernel_rfl) ?_;refine MS.regC Tg.g0 (keep:=[8]) (e':=[(8,.v .fr (.bool true))]) (ps:=[]) (by kernel_rfl) trivial hs (λa w hs=>?_);refine Wag hG hH hs (λS a w hG hH hC hs=>?_);show (nav C8 [1,1,1,1,1]).wp _ _ a w;refine ka (c1:=nav C8 [1,1,1,1,1,0]) (c2:=nav C8 [1,1,1,1,1,1]) (by kernel_rfl) ?_;refine Uag (λp hp=>by obtain⟨t,rfl,_⟩:=hG p hp;rfl) hs (λa w hs=>?_);show (nav C8 [1,1,1,1,1,1]).wp _ _ a w;refine Lg (by kernel_rfl) ?_;have hv:Xa xs kk=Kb S:=by unfold Xa;rw[if_pos hro,Qag hG hH hC]
 refine⟨[(4,TL (Kb S))],?_,?_⟩
 .exact (hs.forget (N':=⟨(Tryz.f100).ntmps,none,[]⟩) (obs':=[]) (by kernel_rfl) rfl (λp h=>by cases h) (λp h=>by cases h)).to
 ·refine⟨?_,trivial⟩;show _=some (RT.av (.one .fr (.lst .time)) (Xa xs kk));rw[hv];rfl
end Go.Proofs.YthfkpijcajdnhaaGreat

namespace Go.Proofs.YthfkpijcajdnhaaGreat
open Go Tg
theorem Canon.filter{s:List Item}(h:Canon s)(φ:Item->Bool):Canon (s.filter φ):=⟨h.1.sublist List.filter_sublist,λx hx=>h.2 x (List.mem_filter.1 hx).1⟩
theorem Z1(kind k:Int):Wa kind k []=[]:=by
 unfold Wa;split
 .rfl
 .split<;>rfl
def fg(kind:Int)(s:List Item):List Item:=(List.range 4).flatMap λk:Nat=>Wa kind k (s.filter λx=>decide (x.Key=k))
theorem Canon.append{s u:List Item}(hs:Canon s)(hu:Canon u)(h:∀x∈s,∀y∈u,x.Key<y.Key):Canon (s++u):=by
 refine⟨List.pairwise_append.2 ⟨hs.1,hu.1,λx hx y hy=>?_⟩,λx hx=>(List.mem_append.1 hx).elim (hs.2 x) (hu.2 x)⟩;have:=h x hx y hy;simp[kI,ltK,this]
theorem Qh(f:Nat->List Item):(List.range 4).flatMap f=f 0++(f 1++(f 2++(f 3++[]))):=rfl
end Go.Proofs.YthfkpijcajdnhaaGreat

namespace Go.Proofs.YthfkpijcajdnhaaGreat
open Go Tg
theorem BZ{a b m0:List Row}{x:Row}{n i:Int}(hb:Ib b=true)(hx:vb x=true)(hm0:m0.length<=160000) :
  yT b m0 x a n i (aa .row b)/\xT b m0 x a n i (aa .row b)=.x (m0++b.flatMap (ic x)):=by
 obtain⟨hl,hm⟩:=Bb hb
 have k:ia (λs:LR×Int=>ca (vk b m0 x a n i (aa .row b) s.1 s.2)) (λs=>Oo b m0 x a n i (aa .row b) s.1 s.2) (m0,0) (.x (m0++b.flatMap (ic x))):=by
  refine ia.fold b (λi b=>(b,(i:Int))) (λl=>m0++l.flatMap (ic x)) (by simp) (λl y r hy=>?_) ?_
  ·have hlen:b.length=l.length+(r.length+1):=by rw[hy];simp
   have hrd:rd .row b (l.length:Int)=y:=by rw[hy];exact Za
   have hin:inb (l.length:Int) (aa .row b):=by rw[hy];exact Ta (t:=.row)
   have hlss:cmp .lss (l.length:Int) (aa .row b)=true:=by rw[hy];exact fb
   have hoy:=hm y (by rw[hy];simp);obtain⟨v1,v2⟩:=zZ (Si hx).2 (Si hoy).2;obtain⟨t1,t2⟩:=BD (Og hx) (Og hoy);have hl1:=zr x l;have hlim:∀z,lim (aa .row (m0++l.flatMap (ic x))) (aa .row [z]):=λz=>Wb (t:=.row) (show (m0++l.flatMap (ic x)).length<1099511627776 by rw[List.length_append];omega);simp only[Oo,vk,Mo,Ay,wT,vT,zy,Tr.val,Tr.ob,fa,hlss,hrd,Ua (l:=l) (by omega),v2,t2,uN hx hoy,Db];rw[xN];by_cases hk:x.Key=y.Key
   .exact⟨by simp[hin,hlim,v1,t1],by simp[ca,ic,hk]⟩
   .exact⟨by simp[hin,hlim,hk],by simp[ca,ic,hk]⟩
  ·have hend:cmp .lss (b.length:Int) (aa .row b)=false:=gb (t:=.row);simp only[Oo,vk,Mo,Tr.val,Tr.ob,hend];exact⟨by simp,rfl⟩
 exact⟨k.t,k.v⟩
theorem dm{a b:List Row}(ha:a.length<=400)(hb:b.length<=400):(dc a b).length<=160000:=Nat.le_trans (vN b a) (Nat.mul_le_mul ha hb)
theorem CZ{a b:List Row}(ha:Ib a=true)(hb:Ib b=true):Jy a b/\Iy a b=Ve (ab (dc a b)):=by
 obtain⟨hl,hm⟩:=Bb ha;obtain⟨hlb,hmb⟩:=Bb hb
 have k:ia (λs:LR×Int=>ca (wk b a (aa .row a) s.1 s.2)) (λs=>Qo b a (aa .row a) s.1 s.2) ([],0) (.x (dc a b)):=by
  refine ia.fold a (λi m=>(m,(i:Int))) (λl=>dc l b) rfl (λl x r hx=>?_) ?_
  ·have hlen:a.length=l.length+(r.length+1):=by rw[hx];simp
   have hrd:rd .row a (l.length:Int)=x:=by rw[hx];exact Za
   have hin:inb (l.length:Int) (aa .row a):=by rw[hx];exact Ta (t:=.row)
   have hlss:cmp .lss (l.length:Int) (aa .row a)=true:=by rw[hx];exact fb
   have hox:=hm x (by rw[hx];simp);obtain⟨c1,c2⟩:=BZ (a:=a) (n:=aa .row a) (i:=(l.length:Int)) hb hox (dm (a:=l) (b:=b) (by omega) hlb);simp only[Qo,wk,Po,Dy,AT,zT,Cy,By,lpS,Tr.val,Tr.ob,fa,hlss,hrd,Ua (l:=l) (by omega),c2];rw[wN];exact⟨by simp[hin,c1],rfl⟩
  ·have hend:cmp .lss (a.length:Int) (aa .row a)=false:=gb (t:=.row);simp only[Qo,wk,Po,Tr.val,Tr.ob,hend];exact⟨by simp,rfl⟩
 have a2:BT b a (aa .row a)=.x (dc a b):=k.v;have b2:CT b a (aa .row a):=k.t;have hl2:=dm (a:=a) (b:=b) hl hlb;obtain⟨q1,q2⟩:=cm (xs:=dc a b) (by omega) λx hx=>(Dr hm hmb x hx).1;simp only[Jy,Iy,AI,zI,Hy,Gy,ET,DT,Fy,Ey,lpS,Tr.val,Tr.ob,fa,a2,q2,ocR];exact⟨by simp[b2,q1],by unfold Ve;split<;>rfl⟩
theorem DZ{a b:List Row}(ha:Ib a=true)(hb:Ib b=true):Pu a b/\Ou a b=ab (dc a b):=by
 obtain⟨hl,hm⟩:=Bb ha;obtain⟨hlb,hmb⟩:=Bb hb
 have k4:∀ (l:List Row) (x:Row) (r m0:List Row),a=l++x::r->m0.length<=160000->ia (λs:LR×Int=>ca (yj a b m0 (l.length:Int) s.1 s.2)) (λs=>Wm a b m0 (l.length:Int) s.1 s.2) (m0,0) (.x (m0++b.flatMap (ic x))):=by
  intro l x r m0 hx hm0;have hrdx:rd .row a (l.length:Int)=x:=by rw[hx];exact Za
  have hinx:inb (l.length:Int) (aa .row a):=by rw[hx];exact Ta (t:=.row)
  have hox:=hm x (by rw[hx];simp);generalize (l.length:Int)=i at hrdx hinx;refine ia.fold b (λi b=>(b,(i:Int))) (λl=>m0++l.flatMap (ic x)) (by simp) (λl y r hy=>?_) ?_
  ·have hlen:b.length=l.length+(r.length+1):=by rw[hy];simp
   have hrd:rd .row b (l.length:Int)=y:=by rw[hy];exact Za
   have hin:inb (l.length:Int) (aa .row b):=by rw[hy];exact Ta (t:=.row)
   have hlss:cmp .lss (l.length:Int) (aa .row b)=true:=by rw[hy];exact fb
   have hoy:=hmb y (by rw[hy];simp);obtain⟨v1,v2⟩:=AZ (Si hox).2 (Si hoy).2;obtain⟨t1,t2⟩:=tN (Og hox) (Og hoy);have hl1:=zr x l;have hlim:∀z,lim (aa .row (m0++l.flatMap (ic x))) (aa .row [z]):=λz=>Wb (t:=.row) (show (m0++l.flatMap (ic x)).length<1099511627776 by rw[List.length_append];omega);simp only[Wm,yj,Vm,Gu,gQ,fQ,Fu,Tr.val,Tr.ob,fa,hlss,hrd,hrdx,Ua (l:=l) (by omega),v2,t2,uN hox hoy,Db];rw[xN];by_cases hk:x.Key=y.Key
   .exact⟨by simp[hin,hinx,hlim,v1,t1],by simp[ca,ic,hk]⟩
   .exact⟨by simp[hin,hinx,hlim,hk],by simp[ca,ic,hk]⟩
  ·have hend:cmp .lss (b.length:Int) (aa .row b)=false:=gb (t:=.row);simp only[Wm,yj,Vm,Tr.val,Tr.ob,hend];exact⟨by simp,rfl⟩
 have k:ia (λs:LR×Int=>ca (zj a b s.1 s.2)) (λs=>Ym a b s.1 s.2) ([],0) (.x (dc a b)):=by
  refine ia.fold a (λi m=>(m,(i:Int))) (λl=>dc l b) rfl (λl x r hx=>?_) ?_
  ·have hlen:a.length=l.length+(r.length+1):=by rw[hx];simp
   have hlss:cmp .lss (l.length:Int) (aa .row a)=true:=by rw[hx];exact fb
   have k:=k4 l x r (dc l b) hx (dm (a:=l) (b:=b) (by omega) hlb);have c2:iQ a b (dc l b) (l.length:Int)=.x (dc l b++b.flatMap (ic x)):=k.v;have c1:jQ a b (dc l b) (l.length:Int):=k.t;simp only[Ym,zj,Xm,Ju,lQ,kQ,Iu,Hu,lpS,Tr.val,Tr.ob,hlss,Ua (l:=l) (by omega),c2];rw[wN];exact⟨by simp[c1],rfl⟩
  ·have hend:cmp .lss (a.length:Int) (aa .row a)=false:=gb (t:=.row);simp only[Ym,zj,Xm,Tr.val,Tr.ob,hend];exact⟨by simp,rfl⟩
 have a2:mQ a b=.x (dc a b):=k.v;have b2:nQ a b:=k.t;have hl2:=dm (a:=a) (b:=b) hl hlb;obtain⟨q1,q2⟩:=Mh (dc a b) (by omega) λx hx=>(Dr hm hmb x hx).1;simp only[Pu,Ou,XF,WF,Nu,Mu,pQ,oQ,Lu,Ku,lpS,Tr.val,Tr.ob,fa,a2,q2,ocR];exact⟨by simp[b2,q1],trivial⟩
end Go.Proofs.YthfkpijcajdnhaaGreat

namespace Go.Proofs.YthfkpijcajdnhaaGreat
open Go Tg
theorem EZ{a b:List Row}(ha:a.length<1000000000)(hb:b.length<1000000000):ly a b/\jy a b=a++b:=by
 simp only[ly,jy,jI,iI,iy,Tr.val,Tr.ob,fa,List.nil_append,ocR];refine⟨⟨⟨?_,?_,trivial⟩,trivial⟩,trivial⟩<;>simp only[lim,aa,List.length_nil]<;>omega
theorem FZ{a:List Row}(ha:a.length<1000000000):Rx a/\Qx a=a:=by
 simp only[Rx,Qx,SH,RH,Px,Tr.val,Tr.ob,fa,ocR];refine⟨⟨⟨⟨rfl,by simp only[aa];omega⟩,trivial⟩,trivial⟩,?_⟩;have h:Int.toNat (aa .row a)=a.length:=by simp[aa]
 rw[h,List.length_replicate,List.take_of_length_le (Nat.le_refl _),List.drop_of_length_le (by rw[List.length_replicate];exact Nat.le_refl _),List.append_nil]
theorem GZ{a:List Row}(hl:a.length<1000000):wy a/\uy a=ib a:=by
 have k:ia (λs:LR×Int=>ca (tk a (aa .row a) s.1 s.2)) (λs=>Ko a (aa .row a) s.1 s.2) (a,0) (.x (ib a)):=by
  refine ia.fold a (λi b=>(b,(i:Int))) (λl=>ib l++a.drop l.length) (by simp[ib]) (λl x r hx=>?_) ?_
  ·have hlen:a.length=l.length+(r.length+1):=by rw[hx];simp
   have hd:a.drop l.length=x::r:=by rw[hx];simp
   have hd2:a.drop (l++[x]).length=r:=by rw[hx];simp
   have hnl:(ib l).length=l.length:=by simp[ib]
   have hrd:rd .row (ib l++x::r) (l.length:Int)=x:=by rw[← hnl];exact Za
   have hin:inb (l.length:Int) (aa .row (ib l++x::r)):=by rw[← hnl];exact Ta (t:=.row)
   have hlss:cmp .lss (l.length:Int) (aa .row a)=true:=by rw[hx];exact fb
   have hset:List.set (ib l++x::r) (Int.toNat (l.length:Int)) (Nh x)=ib (l++[x])++r:=by
    rw[show Int.toNat (l.length:Int)=(ib l).length by rw[hnl];rfl,List.set_append_right _ _ (Nat.le_refl _),Nat.sub_self];simp[ib]
   simp only[hd,hd2,Ko,tk,Jo,Tr.val,Tr.ob,fa,hlss,hrd,Ua (l:=l) (by omega)];refine⟨by simp[hin],?_⟩;show Lp.go (List.set (ib l++x::r) (Int.toNat (l.length:Int)) (Nh x),_)=_;rw[hset]
  ·have hend:cmp .lss (a.length:Int) (aa .row a)=false:=gb (t:=.row);simp only[Ko,tk,Jo,Tr.val,Tr.ob,fa,hend];exact⟨by simp,by simp[ca]⟩
 have a2:mT a (aa .row a)=.x (ib a):=k.v;have b2:nT a (aa .row a):=k.t;have hlim:lim (aa .row ([]:List Row)) (aa .row a):=by simp only[lim,aa,List.length_nil];omega
 simp only[wy,uy,pI,oI,sy,ry,pT,oT,qy,ny,lpS,Tr.val,Tr.ob,fa,List.nil_append,a2,ocR];exact⟨by simp[b2,hlim],trivial⟩
theorem HZ{x y z:Row}(h1:Te x y)(h2:Te y z):Te x z:=Rf h1 h2
theorem yN:∀ (xs:List Row) (y:Option Row),Sb Ad y xs=true->xs.Pairwise Te/\(∀x∈xs,x.Diff≠0)/\∀z,y=some z->∀x∈xs,Te z x
 |[],_,_=>⟨.nil,by simp,by simp⟩
 |x::r,y,h=>by
  simp only[Sb,Bool.and_eq_true,Bool.not_eq_true']at h;obtain⟨h1,h2,h3⟩:=yN r (some x) h.2
  have hx:x.Diff≠0:=by
   have:=h.1;cases y<;>simp[Ad]at this
   .exact this
   .exact this.1
  refine⟨List.pairwise_cons.2 ⟨h3 x rfl,h1⟩,λz hz=>?_,λz hz w hw=>?_⟩
  ·rcases List.mem_cons.1 hz with rfl|hz
   .exact hx
   .exact h2 z hz
  ·subst hz
   have hzx:Te z x:=by
    have:=h.1;simp[Ad]at this;exact this.2
   rcases List.mem_cons.1 hw with rfl|hw
   .exact hzx
   .exact HZ hzx (h3 x rfl w hw)
theorem IZ{xs:List Row}(h1:xs.Pairwise Te)(h2:∀x∈xs,x.Diff≠0/\InR x.Diff):ab xs=xs:=by
 have h3:mc (chR xs)=chR xs:=T1 (n:=4) (List.pairwise_map.2 h1) (pD xs) λp hp=>by
  obtain⟨x,hx,rfl⟩:=List.mem_map.1 hp;exact h2 x hx
 unfold ab;rw[h3,VY]
theorem zN{xs:List Row}(h:Qa xs=true):xs.Pairwise Te/\(∀x∈xs,x.Diff≠0)/\∀x∈xs,vb x=true:=by
 simp only[Qa,Bool.and_eq_true]at h;obtain⟨h1,h2,_⟩:=yN xs none h.1;exact⟨h1,h2,(Bb h.2).2⟩
theorem AN{xs:List Row}(h:Qa xs=true):ab xs=xs:=by
 obtain⟨h1,h2,h3⟩:=zN h;exact IZ h1 λx hx=>⟨h2 x hx,Zf (h3 x hx)⟩
theorem BN{x:Row}(h:vb x=true)(_h0:x.Diff≠0):vb (Nh x)=true/\(Nh x).Diff=-x.Diff:=by
 simp only[vb,decide_eq_true_eq]at h;have e:IntKind.wrap .i64 (0 - x.Diff)=-x.Diff:=by rw[mD (by unfold InR;omega)];omega
 refine⟨?_,e⟩;simp only[vb,Nh,e,decide_eq_true_eq];omega
theorem CN{xs:List Row}(h:Qa xs=true):Qa (ib xs)=true:=by
 obtain⟨h1,h2,h3⟩:=zN h;have hr:=(Bb (bg h)).1
 have hp:(ib xs).Pairwise Te:=by
  unfold ib;rw[List.pairwise_map];exact h1
 unfold Qa;rw[nN (ib xs) none hp (λx hx=>?_) (λz hz=>by cases hz),Bool.true_and]
 ·simp only[Ib,Bool.and_eq_true,decide_eq_true_eq,List.all_eq_true];refine⟨λx hx=>?_,by simpa [ib] using hr⟩;obtain⟨y,hy,rfl⟩:=List.mem_map.1 hx;exact (BN (h3 y hy) (h2 y hy)).1
 ·obtain⟨y,hy,rfl⟩:=List.mem_map.1 hx;rw[(BN (h3 y hy) (h2 y hy)).2];have:=h2 y hy;omega
theorem JZ(xs:List Row)(hl:xs.length<1000000000):ai xs/\Zh xs=if Qa xs=true then xs else []:=by
 obtain⟨b1,b2⟩:=yr xs hl;simp only[ai,Zh,wt,vt,lj,Tr.val,Tr.ob,fa,b2];cases Qa xs<;>simp[b1,ocR]
theorem LZ{a:List Row}(h:Qa a=true):Cu a/\Bu a=ib a:=by
 have hr:=bg h;obtain⟨hl,hm⟩:=Bb hr;obtain⟨r1,r2⟩:=bm a (by omega);have hn:=CN h
 have k:ia (λs:LR×Int=>ca (wj a s.1 s.2)) (λs=>Sm a s.1 s.2) ([],0) (.x (ib a)):=by
  refine ia.fold a (λi b=>(b,(i:Int))) (λl=>ib l) rfl (λl x r hx=>?_) ?_
  ·have hlen:a.length=l.length+(r.length+1):=by rw[hx];simp
   have hrd:rd .row a (l.length:Int)=x:=by rw[hx];exact Za
   have hin:inb (l.length:Int) (aa .row a):=by rw[hx];exact Ta (t:=.row)
   have hlss:cmp .lss (l.length:Int) (aa .row a)=true:=by rw[hx];exact fb
   have hnl:(ib l).length=l.length:=by simp[ib]
   have hlim:∀y,lim (aa .row (ib l)) (aa .row [y]):=λy=>Wb (t:=.row) (show (ib l).length<1099511627776 by omega);simp only[Sm,wj,Rm,Tr.val,Tr.ob,fa,hlss,hrd,r2,hr,Ua (l:=l) (by omega)];exact⟨by simp[hin,hlim,r1],by simp[ca,ib,Nh]⟩
  ·have hend:cmp .lss (a.length:Int) (aa .row a)=false:=gb (t:=.row);simp only[Sm,wj,Rm,Tr.val,Tr.ob,fa,hend];exact⟨by simp,rfl⟩
 have a2:UP a=.x (ib a):=k.v;have b2:VP a:=k.t;have hnl:(ib a).length=a.length:=by simp[ib]
 obtain⟨q1,q2⟩:=Mh (ib a) (by omega) (dO a);rw[AN hn]at q2;obtain⟨f1,f2⟩:=JZ (ib a) (by omega);rw[if_pos hn]at f2;simp only[Cu,Bu,HF,GF,Au,zu,aQ,WP,yu,xu,lpS,Tr.val,Tr.ob,fa,a2,q2,f2,ocR];exact⟨by simp[b2,q1,q2,f1],trivial⟩
end Go.Proofs.YthfkpijcajdnhaaGreat

namespace Go.Proofs.YthfkpijcajdnhaaGreat
open Go Tg
def Ca(k:Int)(s:List Item):List Item:=s.filter λx=>decide (x.Key=k)
theorem DN(k:Int)(l:List Item)(x:Item):Ca k (l++[x])=Ca k l++if x.Key=k then [x] else []:=by
 unfold Ca;rw[List.filter_append]
 congr 1
 by_cases h:x.Key=k<;>simp[h]
theorem EN(l:List Item)(x:Item):ce (l++[x])=ar .add .i64 (ce l) x.Count:=by unfold ce;rw[List.foldl_append];rfl
theorem CD{ρ β:Type}[Inhabited ρ]{step:β×Int->Lp (β×Int) ρ}{ob:β×Int->Prop}(f:Nat->β){fin:ρ}(hgo:∀i:Nat,i<4->ob (f i,(i:Int))/\step (f i,(i:Int))=.go (f (i+1),((i+1:Nat):Int)))
  (hout:ob (f 4,((4:Nat):Int))/\step (f 4,((4:Nat):Int))=.out fin):ia step ob (f 0,0) fin:=by
 refine ia.fold (List.range 4) (λi b=>(b,(i:Int))) (λl=>f l.length) rfl (λl x r hx=>?_) ?_
 ·have hlen:4=l.length+(r.length+1):=by have:=congrArg List.length hx;simpa using this
  have:=hgo l.length (by omega);rw[List.length_append,List.length_singleton];exact this
 .exact hout
theorem MZ{s:List Item}(hl:s.length<1000000):ez s/\dz s=fg 1 s:=by
 have k5:∀ (y:List Item) (k:Int),ia (λt:Int×Int=>ca (zk s y k (aa .item s) t.1 t.2)) (λt=>Xo s y k (aa .item s) t.1 t.2) (0,0) (.x (ce (Ca k s))):=λy k=>by
  refine ia.fold s (λi b=>(b,(i:Int))) (λl=>ce (Ca k l)) rfl (λl x r hx=>?_) ?_
  ·have hlen:s.length=l.length+(r.length+1):=by rw[hx];simp
   have hrd:rd .item s (l.length:Int)=x:=by rw[hx];exact Za
   have hin:inb (l.length:Int) (aa .item s):=by rw[hx];exact Ta (t:=.item)
   have hlss:cmp .lss (l.length:Int) (aa .item s)=true:=by rw[hx];exact fb
   simp only[Xo,zk,Wo,Sy,WT,VT,Ry,Tr.val,Tr.ob,fa,hlss,hrd,Ua (l:=l) (by omega),Db];rw[DN];by_cases h:x.Key=k
   .exact⟨by simp[hin],by simp[ca,h,EN]⟩
   .exact⟨by simp[hin],by simp[ca,h]⟩
  ·have hend:cmp .lss (s.length:Int) (aa .item s)=false:=gb (t:=.item);simp only[Xo,zk,Wo,Tr.val,Tr.ob,hend];exact⟨by simp,rfl⟩
 have a5:∀y k,XT s y k (aa .item s)=.x (ce (Ca k s)):=λy k=>(k5 y k).v;have b5:∀y k,YT s y k (aa .item s):=λy k=>(k5 y k).t
 have hlen:∀i:Nat,i<=4->((List.range i).flatMap λk:Nat=>Wa 1 k (Ca k s)).length<=i:=λi _=>by
  induction i with
  |zero=>simp
  |succ i ih=>
   have:=ih (by omega);rw[List.range_succ,List.flatMap_append,List.length_append]
   have:(List.flatMap (λk:Nat=>Wa 1 k (Ca k s)) [i]).length<=1:=by
    rw[List.flatMap_singleton];unfold Wa;rw[if_pos rfl];split<;>simp
   omega
 have k2:ia (λt:LI×Int=>ca (Ak s t.1 t.2)) (λt=>Zo s t.1 t.2) ([],0) (.x (fg 1 s)):=by
  refine CD (λi=>(List.range i).flatMap λk:Nat=>Wa 1 k (Ca k s)) (λi hi=>?_) ?_
  ·have hlss:cmp .lss (i:Int) 4=true:=by rw[fc];simp;omega
   have hadd:ar .add .i64 (i:Int) 1=((i+1:Nat):Int):=by rw[nc (by omega)];omega
   have hl4:=hlen i (by omega);have hlim:∀y,lim (aa .item ((List.range i).flatMap λk:Nat=>Wa 1 k (Ca k s))) (aa .item [y]):=λy=>Wb (t:=.item) (by omega);simp only[Zo,Ak,Yo,Yy,cU,bU,Xy,Wy,aU,ZT,Vy,Uy,lpS,Tr.val,Tr.ob,fa,hlss,hadd,a5,Ae];rw[List.range_succ,List.flatMap_append,List.flatMap_singleton];by_cases h:ce (Ca i s)=0
   .exact⟨by simp[b5,h],by simp[ca,Wa,h]⟩
   .exact⟨by simp[b5,h,hlim],by simp[ca,Wa,h,Ri]⟩
  ·have hend:cmp .lss ((4:Nat):Int) 4=false:=rfl;simp only[Zo,Ak,Yo,Tr.val,Tr.ob,hend];exact⟨by simp,rfl⟩
 have a2:dU s=.x (fg 1 s):=k2.v;have b2:eU s:=k2.t;simp only[ez,dz,VI,UI,cz,bz,gU,fU,az,Zy,lpS,Tr.val,Tr.ob,a2,ocR];exact⟨by simp[b2],trivial⟩
theorem NZ{s:List Item}(hs:Canon s)(hk:∀x∈s,0<=x.Key/\x.Key<=3):s=(List.range 4).flatMap λk:Nat=>Ca k s:=by
 have hc:Canon ((List.range 4).flatMap λk:Nat=>Ca k s):=by
  have hm:∀ (k:Nat) x,x∈Ca k s->x.Key=k:=λk x hx=>by simpa using (List.mem_filter.1 hx).2
  have h:∀k:Nat,Canon (Ca k s):=λk=>hs.filter _;rw[Qh,List.append_nil];refine (h 0).append ((h 1).append ((h 2).append (h 3) λx hx y hy=>?_) λx hx y hy=>?_) λx hx y hy=>?_
  .rw[hm 2 x hx,hm 3 y hy];decide
  ·rw[hm 1 x hx];rcases List.mem_append.1 hy with hy|hy
   .rw[hm 2 y hy];decide
   .rw[hm 3 y hy];decide
  ·rw[hm 0 x hx];rcases List.mem_append.1 hy with hy|hy
   .rw[hm 1 y hy];decide
   ·rcases List.mem_append.1 hy with hy|hy
    .rw[hm 2 y hy];decide
    .rw[hm 3 y hy];decide
 refine iD (lt:=λx y:Item=>ltK (kI x) (kI y)=true) (λx h=>by rw[Me]at h;cases h) (λh1 h2=>Rf h1 h2) hs.1 hc.1 λx=>?_;simp only[List.mem_flatMap,List.mem_range,Ca,List.mem_filter,decide_eq_true_eq];constructor
 ·intro hx;have:=hk x hx;exact⟨x.Key.toNat,by omega,hx,by omega⟩
 ·rintro⟨k,_,hx,_⟩;exact hx
theorem PZ(f:Nat->List Item):Dc ((List.range 4).flatMap f)=(List.range 4).flatMap λk=>Dc (f k):=by
 rw[Qh,Qh];unfold Dc;simp only[List.filter_append,List.map_append,List.filter_nil,List.map_nil]
theorem QZ{k:Int}(s:List Item):Dc (Ca k s)=Ec k (Ca k s):=by
 unfold Dc Ec;refine List.map_congr_left λx hx=>?_;have:=(List.mem_filter.1 (List.mem_filter.1 hx).1).2;simp only[decide_eq_true_eq]at this;rw[this]
theorem FN{s:List Item}(hs:Canon s)(hk:∀x∈s,0<=x.Key/\x.Key<=3):Dc s=fg 2 s:=by
 conv=>lhs;rw[NZ hs hk]
 rw[PZ];unfold fg;rw[Qh,Qh];simp only[QZ];rfl
def Xb(out:List Item)(x:Item):List Item:=if out=[]\/(∃y,out.getLast? = some y/\y.Key≠x.Key) then out++[x] else out
theorem Ar{k:Int}:∀ (l out:List Item),(∀x∈l,x.Key=k)->(∀y∈out,y.Key≠k)->l.foldl Xb out=out++l.take 1
 |[],out,_,_=>by simp
 |x::l,out,hl,ho=>by
  have h1:Xb out x=out++[x]:=by
   unfold Xb;rw[if_pos];rcases last_cases out with⟨h,_⟩|⟨l',y,h,h2⟩
   .exact .inl h
   .exact .inr ⟨y,h2,by rw[hl x (by simp)];exact ho y (by rw[h];simp)⟩
  have h2:∀ (m:List Item),(∀z∈m,z.Key=k)->m.foldl Xb (out++[x])=out++[x]:=by
   intro m
   induction m with
   |nil=>intro _;rfl
   |cons z m ih=>
    intro hm
    have:Xb (out++[x]) z=out++[x]:=by
     unfold Xb;rw[if_neg];rintro (h|⟨y,h3,h4⟩)
     .simp at h
     ·simp at h3;subst h3;exact h4 (by rw[hl x (by simp),hm z (by simp)])
    rw[List.foldl_cons,this];exact ih λw hw=>hm w (by simp[hw])
  rw[List.foldl_cons,h1,h2 l λz hz=>hl z (by simp[hz])];simp
theorem RZ{s:List Item}(hs:Canon s)(hk:∀x∈s,0<=x.Key/\x.Key<=3):(Dc s).foldl Xb []=fg 3 s:=by
 have hm:∀ (k:Nat) x,x∈Ec k (Ca k s)->x.Key=k:=λk x hx=>by
  obtain⟨y,_,rfl⟩:=List.mem_map.1 hx;rfl
 have ht:∀ (k:Nat) x,x∈(Ec k (Ca k s)).take 1->x.Key=k:=λk x hx=>hm k x (List.mem_of_mem_take hx);rw[FN hs hk];unfold fg;rw[Qh,Qh,List.append_nil,List.append_nil];have e:∀k:Nat,Wa 2 k (Ca k s)=Ec k (Ca k s):=λk=>by unfold Wa;simp
 have e3:∀k:Nat,Wa 3 k (Ca k s)=(Ec k (Ca k s)).take 1:=λk=>by unfold Wa;simp
 show List.foldl Xb [] (Wa 2 (0:Nat) (Ca (0:Nat) s)++(Wa 2 (1:Nat) (Ca (1:Nat) s)++(Wa 2 (2:Nat) (Ca (2:Nat) s)++Wa 2 (3:Nat) (Ca (3:Nat) s))))=Wa 3 (0:Nat) (Ca (0:Nat) s)++(Wa 3 (1:Nat) (Ca (1:Nat) s)++(Wa 3 (2:Nat) (Ca (2:Nat) s)++Wa 3 (3:Nat) (Ca (3:Nat) s)));simp only[e,e3]
 rw[List.foldl_append,List.foldl_append,List.foldl_append,Ar _ _ (hm 0) (λy hy=>by cases hy),List.nil_append,
  Ar _ _ (hm 1) (λy hy=>by rw[ht 0 y hy];decide),Ar _ _ (hm 2) (λy hy=>?_),Ar _ _ (hm 3) (λy hy=>?_)]
 .simp only[List.append_assoc]
 ·rcases List.mem_append.1 hy with hy|hy
  ·rcases List.mem_append.1 hy with hy|hy
   .rw[ht 0 y hy];decide
   .rw[ht 1 y hy];decide
  .rw[ht 2 y hy];decide
 ·rcases List.mem_append.1 hy with hy|hy
  .rw[ht 0 y hy];decide
  .rw[ht 1 y hy];decide
theorem GN:∀ (l out:List Item),(l.foldl Xb out).length<=out.length+l.length
 |[],out=>by simp
 |x::l,out=>by
  have:=GN l (Xb out x);have h2:(Xb out x).length<=out.length+1:=by unfold Xb;split<;>simp
  rw[List.foldl_cons,List.length_cons];omega
theorem SZ{s:List Item}(hl:s.length<1000000):Az s/\yz s=(Dc s).foldl Xb []:=by
 obtain⟨o1,o2⟩:=WM s (by omega);have hol:(Dc s).length<=s.length:=by unfold Dc;rw[List.length_map];exact List.length_filter_le _ _
 generalize hL:Dc s=L at o2 hol
 have k:ia (λt:LI×Int=>ca (Gk L (aa .item L) t.1 t.2)) (λt=>lp L (aa .item L) t.1 t.2) ([],0) (.x (L.foldl Xb [])):=by
  refine ia.fold L (λi b=>(b,(i:Int))) (λl=>l.foldl Xb []) rfl (λl x r hx=>?_) ?_
  ·have hlen:L.length=l.length+(r.length+1):=by rw[hx];simp
   have hrd:rd .item L (l.length:Int)=x:=by rw[hx];exact Za
   have hin:inb (l.length:Int) (aa .item L):=by rw[hx];exact Ta (t:=.item)
   have hlss:cmp .lss (l.length:Int) (aa .item L)=true:=by rw[hx];exact fb
   have hll:=GN l [];rw[List.length_nil]at hll;have hlim:∀y,lim (aa .item (l.foldl Xb [])) (aa .item [y]):=λy=>Wb (t:=.item) (show (l.foldl Xb []).length<1099511627776 by omega);rw[List.foldl_append];show _/\_=Lp.go (Xb (l.foldl Xb []) x,_);generalize l.foldl Xb []=out at hll hlim;simp only[lp,Gk,jp,tz,pU,oU,rz,Tr.val,Tr.ob,fa,hlss,hrd,Ua (l:=l) (by omega),Db,Ae];rcases last_cases out with⟨h,h2⟩|⟨l',y,h,h2⟩
   ·subst h;have h0:aa .item ([]:List Item)=0:=rfl;simp only[h0];exact⟨by simp[hin];exact hlim x,by simp[ca,Xb]⟩
   ·have hn0:¬ aa .item out=0:=by rw[h];simp only[aa,List.length_append,List.length_singleton];omega
    have hsub:ar .sub .i64 (aa .item out) 1=(l'.length:Int):=by
     rw[Ng (by simp only[aa];omega),h];simp only[aa,List.length_append,List.length_singleton];omega
    have hrd2:rd .item out (l'.length:Int)=y:=by rw[h];exact Za (r:=[])
    have hin2:inb (l'.length:Int) (aa .item out):=by rw[h];exact Ta (t:=.item) (r:=[])
    simp only[hn0,hsub,hrd2];have hne:out≠[]:=by rw[h];simp
    by_cases hk:y.Key=x.Key
    ·refine⟨by simp[hin,hin2,hk],?_⟩
     have:Xb out x=out:=by
      unfold Xb;rw[if_neg];rintro (h3|⟨z,h3,h4⟩)
      .exact hne h3
      .rw[h2]at h3;cases h3;exact h4 hk
     rw[this];simp[ca,hk]
    ·refine⟨by simp[hin,hin2,hk,hlim],?_⟩
     have:Xb out x=out++[x]:=by
      unfold Xb;rw[if_pos (.inr ⟨y,h2,hk⟩)]
     rw[this];simp[ca,hk]
  ·have hend:cmp .lss (L.length:Int) (aa .item L)=false:=gb (t:=.item);simp only[lp,Gk,jp,Tr.val,Tr.ob,hend];exact⟨by simp,rfl⟩
 have a2:qU L (aa .item L)=.x (L.foldl Xb []):=k.v;have b2:rU L (aa .item L):=k.t;simp only[Az,yz,fJ,dJ,xz,wz,tU,sU,vz,uz,lpS,Tr.val,Tr.ob,fa,o2,a2,ocR];exact⟨by simp[b2,o1],trivial⟩
theorem TZ{s:List Item}(hl:s.length<1000000)(hs:Canon s)(hk:∀x∈s,0<=x.Key/\x.Key<=3){kind:Int}(hkind:1<=kind/\kind<=3):Dz s kind/\Cz s kind=fg kind s:=by
 obtain⟨c1,c2⟩:=MZ hl;obtain⟨o1,o2⟩:=WM s (by omega);obtain⟨l1,l2⟩:=SZ hl;rw[FN hs hk]at o2;rw[RZ hs hk]at l2;simp only[Dz,Cz,jJ,iJ,Bz,Tr.val,Tr.ob,fa,c2,o2,l2,Db];have hc:kind=1\/kind=2\/kind=3:=by omega
 rcases hc with rfl|rfl|rfl
 .exact⟨by simp[c1],by simp[ocR]⟩
 .exact⟨by simp[o1],by simp[ocR]⟩
 .exact⟨by simp[l1],by simp[ocR]⟩
theorem HN{k:Int}{s:List Item}(h:∀x∈s,x.Key=k):Ca k s=s:=List.filter_eq_self.2 λx hx=>by simpa using h x hx
theorem UZ{k:Int}{s:List Item}(h:∀x∈s,x.Key≠k):Ca k s=[]:=List.filter_eq_nil_iff.2 λx hx=>by simpa using h x hx
theorem VZ{kind:Int}{k:Nat}(hk:k<4){s:List Item}(h:∀x∈s,x.Key=k):fg kind s=Wa kind k s:=by
 have hn:∀j:Nat,j≠k->Wa kind j (Ca j s)=[]:=λj hj=>by
  rw[UZ λx hx=>by rw[h x hx];omega,Z1]
 have hy:Wa kind k (Ca k s)=Wa kind k s:=by rw[HN h]
 show Wa kind (0:Nat) (Ca (0:Nat) s)++(Wa kind (1:Nat) (Ca (1:Nat) s)++(Wa kind (2:Nat) (Ca (2:Nat) s)++(Wa kind (3:Nat) (Ca (3:Nat) s)++[])))=_;have hc:k=0\/k=1\/k=2\/k=3:=by omega
 rcases hc with rfl|rfl|rfl|rfl
 .rw[hn 1 (by decide),hn 2 (by decide),hn 3 (by decide),hy];simp
 .rw[hn 0 (by decide),hn 2 (by decide),hn 3 (by decide),hy];simp
 .rw[hn 0 (by decide),hn 1 (by decide),hn 3 (by decide),hy];simp
 .rw[hn 0 (by decide),hn 1 (by decide),hn 2 (by decide),hy];simp
def Gc(kind k:Int)(s:List Item):List Item:=if kind=2 then Ec k s else if kind=3 then (Ec k s).take 1 else []
theorem Br(k:Int)(l:List Item)(x:Item):Ec k (l++[x])=Ec k l++if 0<x.Count then [⟨k,x.Val,1⟩] else []:=by
 unfold Ec;rw[List.filter_append,List.map_append]
 congr 1
 by_cases h:0<x.Count<;>simp[h]
theorem JN(kind k:Int)(s:List Item):(Gc kind k s).length<=s.length:=by
 have h:(Ec k s).length<=s.length:=by unfold Ec;rw[List.length_map];exact List.length_filter_le _ _
 unfold Gc;split
 .exact h
 ·split
  .rw[List.length_take];omega
  .simp
theorem WZ{s:List Item}(hl:s.length<1000000){key kind:Int}(hkind:1<=kind/\kind<=3):fw s key kind/\ew s key kind=Wa kind key (Ca key s):=by
 have k:ia (λt:LI×Int×Int=>ca (Oj s key kind t.1 t.2.1 t.2.2)) (λt=>Nn s key kind t.1 t.2.1 t.2.2) ([],0,0) (.x (Gc kind key (Ca key s),ce (Ca key s))):=by
  refine ia.fold s (λi b=>(b.1,b.2,(i:Int))) (λl=>(Gc kind key (Ca key l),ce (Ca key l))) (by simp[Ca,Gc,Ec,ce]) (λl x r hx=>?_) ?_
  ·have hlen:s.length=l.length+(r.length+1):=by rw[hx];simp
   have hrd:rd .item s (l.length:Int)=x:=by rw[hx];exact Za
   have hin:inb (l.length:Int) (aa .item s):=by rw[hx];exact Ta (t:=.item)
   have hlss:cmp .lss (l.length:Int) (aa .item s)=true:=by rw[hx];exact fb
   have hkl:(Ca key l).length<=l.length:=List.length_filter_le _ _;have hol:=JN kind key (Ca key l);have hlim:∀y,lim (aa .item (Gc kind key (Ca key l))) (aa .item [y]):=λy=>Wb (t:=.item) (show (Gc kind key (Ca key l)).length<1099511627776 by omega);simp only[Nn,Oj,Jn,Xv,uR,tR,Wv,Tr.val,Tr.ob,fa,hlss,hrd,Ua (l:=l) (by omega),Db,Ae,Yc];rw[DN];by_cases h:x.Key=key
   ·rw[if_pos h,EN];generalize hK:Ca key l=K at hlim
    have hz:∀o:List Item,decide (aa .item o=0)=decide (o=[]):=λo=>by
     cases o with
     |nil=>rfl
     |cons a o=>
      have:¬ aa .item (a::o)=0:=by simp only[aa,List.length_cons];omega
      simp[this]
    have hc:kind=1\/kind=2\/kind=3:=by omega
    by_cases hp:0<x.Count
    ·rcases hc with rfl|rfl|rfl
     .exact⟨by simp[hin,h,hp],by simp[ca,Gc,h,hp]⟩
     ·refine⟨by simp[hin,h,hp];exact hlim _,?_⟩;simp[ca,Gc,h,hp,Br]
     ·simp only[hz];refine⟨by simp[hin,h,hp];exact λ_=>hlim _,?_⟩;have e3:∀s,Gc 3 key s=(Ec key s).take 1:=λs=>by simp[Gc]
      rw[e3,e3,Br,if_pos hp];cases hO:Ec key K with
      |nil=>simp[ca,h,hp]
      |cons a O=>simp[ca,h,hp]
    ·rcases hc with rfl|rfl|rfl
     .exact⟨by simp[hin,h,hp],by simp[ca,Gc,h,hp]⟩
     .exact⟨by simp[hin,h,hp],by simp[ca,Gc,h,hp,Br]⟩
     .exact⟨by simp[hin,h,hp],by simp[ca,Gc,h,hp,Br]⟩
   ·rw[if_neg h,List.append_nil];exact⟨by simp[hin,h],by simp[ca,h]⟩
  ·have hend:cmp .lss (s.length:Int) (aa .item s)=false:=gb (t:=.item);simp only[Nn,Oj,Jn,Tr.val,Tr.ob,hend];exact⟨by simp,rfl⟩
 have a2:vR s key kind=.x (Gc kind key (Ca key s),ce (Ca key s)):=k.v;have b2:wR s key kind:=k.t;have hkl:(Ca key s).length<=s.length:=List.length_filter_le _ _;have hol:=JN kind key (Ca key s);have hlim:∀y,lim (aa .item (Gc kind key (Ca key s))) (aa .item [y]):=λy=>Wb (t:=.item) (show (Gc kind key (Ca key s)).length<1099511627776 by omega);have hcnt:∀n,CG n/\Vv n=Ri n:=λn=>⟨⟨⟨by decide,by decide,trivial⟩,trivial⟩,rfl⟩;simp only[fw,ew,HG,GG,dw,aw,yR,xR,Zv,Yv,cw,AR,zR,bw,lpS,Tr.val,Tr.ob,fa,a2,(hcnt _).2,Db,Ae];have hc:kind=1\/kind=2\/kind=3:=by omega
 rcases hc with rfl|rfl|rfl
 ·by_cases h:ce (Ca key s)=0
  .exact⟨by simp[b2,h],by simp[ocR,Wa,Gc,h]⟩
  .exact⟨by simp[b2,h,hlim,(hcnt _).1],by simp[ocR,Wa,Gc,h]⟩
 .exact⟨by simp[b2],by simp[ocR,Wa,Gc]⟩
 .exact⟨by simp[b2],by simp[ocR,Wa,Gc]⟩
end Go.Proofs.YthfkpijcajdnhaaGreat

namespace Go.Proofs.YthfkpijcajdnhaaGreat
open Go Tg
theorem ia.while{σ ρ:Type}[Inhabited ρ]{step:σ->Lp σ ρ}{ob:σ->Prop}(I:σ->Prop)(m:σ->Nat){Q:ρ->Prop}
  (h:∀s,I s->ob s/\((∃s',step s=.go s'/\I s'/\m s'<m s)\/∃q,step s=.out q/\Q q)):∀ (n:Nat) (s:σ),m s=n->I s->∃q,ia step ob s q/\Q q:=by
 intro n
 induction n using Nat.strongRecOn with
 |_ n ih=>
  intro s hn hI;obtain⟨ho,⟨s',h1,h2,h3⟩|⟨q,h1,h2⟩⟩:=h s hI
  ·obtain⟨q,hq,hQ⟩:=ih (m s') (by omega) s' rfl h2;exact⟨q,.go ho h1 hq,hQ⟩
  .exact⟨q,.out ho h1,h2⟩
theorem LN{ρ β:Type}[Inhabited ρ]{step:β×Int->Lp (β×Int) ρ}{ob:β×Int->Prop}(f:Nat->β){fin:ρ}(hgo:∀i:Nat,i<8->ob (f i,(i:Int))/\step (f i,(i:Int))=.go (f (i+1),((i+1:Nat):Int)))
  (hout:ob (f 8,((8:Nat):Int))/\step (f 8,((8:Nat):Int))=.out fin):ia step ob (f 0,0) fin:=by
 refine ia.fold (List.range 8) (λi b=>(b,(i:Int))) (λl=>f l.length) rfl (λl x r hx=>?_) ?_
 ·have hlen:8=l.length+(r.length+1):=by have:=congrArg List.length hx;simpa using this
  have:=hgo l.length (by omega);rw[List.length_append,List.length_singleton];exact this
 .exact hout
theorem MN{α:Type}:∀ {S L:List α},S.Nodup->(∀t∈S,t∈L)->S.length<=L.length
 |[],L,_,_=>by simp
 |x::S,L,h,hs=>by
  obtain⟨A,B,rfl⟩:=List.append_of_mem (hs x (by simp));have h':=List.nodup_cons.1 h
  have:=MN (S:=S) (L:=A++B) h'.2 λt ht=>by
   have h1:=hs t (by simp[ht]);simp only[List.mem_append,List.mem_cons]at h1⊢;rcases h1 with h1|rfl|h1
   .exact .inl h1
   .exact absurd ht h'.1
   .exact .inr h1
  simp only[List.length_append,List.length_cons]at this⊢;omega
def Cb(l:List Time)(t:Time):Bool:=decide (t∈l)
theorem XZ{s t:Time}:(decide (s.A=t.A)&&(decide (s.B=t.B)&&true))=decide (s=t):=by
 obtain⟨a,b⟩:=s;obtain⟨c,d⟩:=t;rw[Bool.eq_iff_iff];simp
theorem DD(l:List Time)(t:Time)(hl:l.length<1000000):Cj l t/\Bj l t=Cb l t:=by
 have k:ia (λs:Int=>ca (Aj l t s)) (λs=>cn l t s) 0 (if Sb (λ_ x=>decide (x=t)) none l=true then .x () else .r true):=by
  refine ia.scan l _ (λm x r hx=>?_) ?_
  ·have hlen:l.length=m.length+(r.length+1):=by rw[hx];simp
   have hrd:rd .time l (m.length:Int)=x:=by rw[hx];exact Za
   have hin:inb (m.length:Int) (aa .time l):=by rw[hx];exact Ta (t:=.time)
   have hlss:cmp .lss (m.length:Int) (aa .time l)=true:=by rw[hx];exact fb
   simp only[cn,Aj,bn,Tr.val,Tr.ob,fa,hlss,hrd,Ua (l:=m) (by omega),Db,XZ];refine⟨by simp[hin],?_⟩;cases decide (x=t)<;>rfl
  ·have hend:cmp .lss (l.length:Int) (aa .time l)=false:=gb (t:=.time);simp only[cn,Aj,bn,Tr.val,Tr.ob,fa,hend];exact⟨by simp,rfl⟩
 have a2:qQ l t=_:=k.v;have b2:rQ l t:=k.t
 have hs:Sb (λ_ x=>decide (x=t)) none l=!Cb l t:=by
  have:=cg (λx:Time=>!decide (x=t)) l none;simp only[Bool.not_not]at this;rw[this,Bool.eq_iff_iff];simp only[Cb,List.all_eq_true,decide_eq_false_iff_not,Bool.not_eq_eq_eq_not,Bool.not_true];exact⟨λh hm=>h t hm rfl,λh x hx e=>h (e▸hx)⟩
 rw[hs]at a2;simp only[Cj,Bj,dG,cG,Uu,Tu,tQ,sQ,Su,Ru,lpS,Tr.val,Tr.ob,a2];refine⟨by simp[b2],?_⟩;cases Cb l t<;>rfl
structure de(xs:List Row)(k:Int)(S:List Time):Prop where
 nd:S.Nodup
 ok:∀t∈S,Ea t=true/\jT xs k t=true
theorem de.len{xs:List Row}{k:Int}{S:List Time}(h:de xs k S):S.length<=64:=by
 have:=MN h.nd λt ht=>QV.2 (h.ok t ht).1;have h2:allT.length<=64:=AA _ 8;omega
theorem de.snoc{xs:List Row}{k:Int}{S:List Time}(h:de xs k S){t:Time}(ht:Ea t=true/\jT xs k t=true)(hn:t ∉ S):de xs k (S++[t]):=by
 refine⟨?_,λu hu=>?_⟩
 ·rw[List.nodup_append];exact⟨h.nd,by simp,λa ha b hb=>by simp at hb;subst hb;exact λe=>hn (e▸ha)⟩
 ·rcases List.mem_append.1 hu with hu|hu
  .exact h.ok u hu
  .simp at hu;subst hu;exact ht
def Tb(k:Int)(l:List Row):List Time:=l.foldl (λs x=>if x.Key=k/\x.At ∉ s then s++[x.At] else s) []
theorem NN(k:Int)(l:List Row)(x:Row):Tb k (l++[x])=if x.Key=k/\x.At ∉ Tb k l then Tb k l++[x.At] else Tb k l:=by unfold Tb;rw[List.foldl_append];rfl
theorem PN{xs:List Row}{k:Int}(hr:∀x∈xs,vb x=true):∀r l,xs=l++r->de xs k (Tb k l)/\(∀x∈l,x.Key=k->x.At∈Tb k l):=by
 suffices ∀l,(∀x∈l,x∈xs)->de xs k (Tb k l)/\(∀x∈l,x.Key=k->x.At∈Tb k l) from λr l h=>this l λx hx=>by rw[h];simp[hx]
 intro l
 induction hn:l.length generalizing l with
 |zero=>
  have:l=[]:=List.length_eq_zero_iff.1 hn;subst this;exact λ_=>⟨⟨by simp[Tb],by simp[Tb]⟩,by simp⟩
 |succ n ih=>
  rcases last_cases l with⟨h,_⟩|⟨l',x,h,_⟩
  .rw[h]at hn;simp at hn
  ·subst h;intro hm;obtain⟨i1,i2⟩:=ih l' (by simpa using hn) λy hy=>hm y (by simp[hy]);rw[NN];have hx:=hm x (by simp);split
   ·rename_i hc;refine⟨i1.snoc ⟨Og (hr x hx),JV hx hc.1⟩ hc.2,λy hy hk=>?_⟩;rcases List.mem_append.1 hy with hy|hy
    .exact List.mem_append.2 (.inl (i2 y hy hk))
    .simp at hy;subst hy;simp
   ·rename_i hc;refine⟨i1,λy hy hk=>?_⟩;rcases List.mem_append.1 hy with hy|hy
    .exact i2 y hy hk
    ·simp at hy;subst hy;by_cases hin:y.At∈Tb k l'
     .exact hin
     .exact absurd ⟨hk,hin⟩ hc
theorem YZ(s t:Time):bb s t=bb t s:=by
 unfold bb;simp only[si]
 congr 1<;>split<;>split<;>omega
theorem ZZ(s:Time):bb s s=s:=by
 obtain⟨a,b⟩:=s;simp[bb,si]
theorem Ui{S:List Time}{p:Nat}(hp:p<S.length)(t:Time):rd .time (S++[t]) (p:Int)=rd .time S (p:Int):=by
 unfold rd;simp only[Int.toNat_natCast];rw[List.getD_eq_getElem?_getD,List.getD_eq_getElem?_getD,List.getElem?_append_left hp]
theorem QN{S:List Time}{p:Nat}(hp:p<S.length):rd .time S (p:Int)∈S:=by
 unfold rd;simp only[Int.toNat_natCast];rw[List.getD_eq_getElem?_getD,List.getElem?_eq_getElem hp];exact List.getElem_mem hp
def Cf(S:List Time)(i j:Nat):Prop:=(∀p q,p<i->q<p->bb (rd .time S (p:Int)) (rd .time S (q:Int))∈S)/\∀q,q<j->bb (rd .time S (i:Int)) (rd .time S (q:Int))∈S
theorem Cf.snoc{S:List Time}{i j:Nat}(h:Cf S i j)(hi:i<S.length)(hj:j<=i)(t:Time):Cf (S++[t]) i j:=⟨λp q hp hq=>by rw[Ui (by omega),Ui (by omega)];exact List.mem_append.2 (.inl (h.1 p q hp hq)),λq hq=>by rw[Ui hi,Ui (by omega)];exact List.mem_append.2 (.inl (h.2 q hq))⟩
theorem j0{xs:List Row}(hr:Ib xs=true)(k:Int):Av xs k/\yv xs k=Xa xs k:=by
 obtain⟨hl,hm⟩:=Bb hr;obtain⟨r1,r2⟩:=bm xs (by omega)
 have k2:ia (λs:List Time×Int=>ca (Dj xs k s.1 s.2)) (λs=>ln xs k s.1 s.2) ([],0) (.x (Tb k xs)):=by
  refine ia.fold xs (λi b=>(b,(i:Int))) (λl=>Tb k l) rfl (λl x r hx=>?_) ?_
  ·have hlen:xs.length=l.length+(r.length+1):=by rw[hx];simp
   have hrd:rd .row xs (l.length:Int)=x:=by rw[hx];exact Za
   have hin:inb (l.length:Int) (aa .row xs):=by rw[hx];exact Ta (t:=.row)
   have hlss:cmp .lss (l.length:Int) (aa .row xs)=true:=by rw[hx];exact fb
   obtain⟨i1,_⟩:=PN (xs:=xs) (k:=k) hm (x::r) l hx;have hl6:=i1.len;obtain⟨q1,q2⟩:=DD (Tb k l) x.At (by omega);have hlim:∀y,lim (aa .time (Tb k l)) (aa .time [y]):=λy=>Wb (t:=.time) (show (Tb k l).length<1099511627776 by omega);simp only[ln,Dj,jn,Wu,vQ,uQ,Vu,Tr.val,Tr.ob,fa,hlss,hrd,r2,hr,Ua (l:=l) (by omega),Db,q2];rw[NN];by_cases hk:x.Key=k
   ·by_cases hh:x.At∈Tb k l
    .exact⟨by simp[hin,r1,hk,q1,Cb,hh],by simp[ca,hk,Cb,hh]⟩
    .exact⟨by simp[hin,r1,hk,q1,Cb,hh,hlim],by simp[ca,hk,Cb,hh]⟩
   .exact⟨by simp[hin,r1,hk],by simp[ca,hk]⟩
  ·have hend:cmp .lss (xs.length:Int) (aa .row xs)=false:=gb (t:=.row);simp only[ln,Dj,jn,Tr.val,Tr.ob,fa,hend];exact⟨by simp,rfl⟩
 have a2:wQ xs k=.x (Tb k xs):=k2.v;have b2:xQ xs k:=k2.t;obtain⟨j1,j2⟩:=PN (xs:=xs) (k:=k) hm [] xs (by simp)
 have k7:∀ (S:List Time) (i:Nat),de xs k S->i<S.length->Cf S i 0->∃q,ia (λs:List Time×Int=>ca (Ej S (i:Int) s.1 s.2)) (λs=>qn S (i:Int) s.1 s.2) (S,0) q /\
   ∃S',q=.x S'/\de xs k S'/\i<S'.length/\Cf S' (i+1) 0/\∀t∈S,t∈S':=by
  intro S0 i hI0 hi0 hJ0;refine ia.while (λs:List Time×Int=>∃j:Nat,s.2=(j:Int)/\j<=i/\de xs k s.1/\i<s.1.length/\Cf s.1 i j/\∀t∈S0,t∈s.1) (λs=>i - s.2.toNat) (λs hs=>?_) _ _ rfl ⟨0,rfl,Nat.zero_le _,hI0,hi0,hJ0,λ_ h=>h⟩;obtain⟨S,_⟩:=s;obtain⟨j,rfl,hj,hI,hi,hJ,hsub⟩:=hs;have hI:de xs k S:=hI;have hi:i<S.length:=hi;have hJ:Cf S i j:=hJ;have hsub:∀t∈S0,t∈S:=hsub;have hl6:=hI.len;by_cases hlt:j<i
  ·have hlss:cmp .lss (j:Int) (i:Int)=true:=by rw[fc];simpa using hlt
   have hadd:ar .add .i64 (j:Int) 1=((j+1:Nat):Int):=by rw[nc (by omega)];omega
   have hin1:inb (i:Int) (aa .time S):=by unfold inb aa;omega
   have hin2:inb (j:Int) (aa .time S):=by unfold inb aa;omega
   have h1:=hI.ok _ (QN hi);have h2:=hI.ok _ (QN (show j<S.length by omega));obtain⟨t1,t2⟩:=tN h1.1 h2.1;obtain⟨q1,q2⟩:=DD S (bb (rd .time S (i:Int)) (rd .time S (j:Int))) (by omega);have hok:=vag h1.1 h2.1;have hjj:=LV h1.2 h2.2;have hlim:∀y,lim (aa .time S) (aa .time [y]):=λy=>Wb (t:=.time) (show S.length<1099511627776 by omega);simp only[qn,Ej,nn,cv,BQ,AQ,bv,Tr.val,Tr.ob,fa,hlss,hadd,t2,q2];by_cases hh:bb (rd .time S (i:Int)) (rd .time S (j:Int))∈S
   ·refine⟨by simp[hin1,hin2,t1,q1,Cb,hh],.inl ⟨(S,((j+1:Nat):Int)),by simp[ca,Cb,hh],⟨j+1,rfl,by omega,hI,hi,⟨hJ.1,λq hq=>?_⟩,hsub⟩,?_⟩⟩
    ·by_cases e:q=j
     .rw[e];exact hh
     .exact hJ.2 q (by omega)
    ·simp only[Int.toNat_natCast];omega
   ·refine⟨by simp[hin1,hin2,t1,q1,Cb,hh,hlim],.inl ⟨(S++[bb (rd .time S (i:Int)) (rd .time S (j:Int))],((j+1:Nat):Int)),by simp[ca,Cb,hh],⟨j+1,rfl,by omega,hI.snoc ⟨hok,hjj⟩ hh,by simp;omega,?_,λt ht=>List.mem_append.2 (.inl (hsub t ht))⟩,?_⟩⟩
    ·have hJ':=hJ.snoc hi (by omega) (bb (rd .time S (i:Int)) (rd .time S (j:Int)));refine⟨hJ'.1,λq hq=>?_⟩;by_cases e:q=j
     .rw[e,Ui hi,Ui (by omega)];simp
     .exact hJ'.2 q (by omega)
    ·simp only[Int.toNat_natCast];omega
  ·have hlss:cmp .lss (j:Int) (i:Int)=false:=by rw[fc];simp;omega
   have hji:j=i:=by omega
   subst hji;simp only[qn,Ej,nn,Tr.val,Tr.ob,hlss];refine⟨by simp,.inr ⟨_,rfl,S,rfl,hI,hi,⟨λp q hp hq=>?_,λq hq=>absurd hq (by omega)⟩,hsub⟩⟩;by_cases e:p=j
   .rw[e]at hq⊢;exact hJ.2 q hq
   .exact hJ.1 p q (by omega) hq
 have k5:∃q,ia (λs:List Time×Int=>ca (Fj (Tb k xs) s.1 s.2)) (λs=>sn (Tb k xs) s.1 s.2) (Tb k xs,0) q/\∃S',q=.x S'/\de xs k S'/\Cf S' S'.length 0/\∀t∈Tb k xs,t∈S':=by
  refine ia.while (λs:List Time×Int=>∃i:Nat,s.2=(i:Int)/\i<=s.1.length/\de xs k s.1/\Cf s.1 i 0/\∀t∈Tb k xs,t∈s.1) (λs=>64 - s.2.toNat) (λs hs=>?_) _ _ rfl ⟨0,rfl,Nat.zero_le _,j1,⟨λp q hp=>by omega,λq hq=>by omega⟩,λ_ h=>h⟩;obtain⟨S,_⟩:=s;obtain⟨i,rfl,hi,hI,hJ,hsub⟩:=hs;have hI:de xs k S:=hI;have hi:i<=S.length:=hi;have hJ:Cf S i 0:=hJ;have hsub:∀t∈Tb k xs,t∈S:=hsub;have hl6:=hI.len;by_cases hlt:i<S.length
  ·have hlss:cmp .lss (i:Int) (aa .time S)=true:=by rw[fc];simp[aa];omega
   have hadd:ar .add .i64 (i:Int) 1=((i+1:Nat):Int):=by rw[nc (by omega)];omega
   obtain⟨q,h1,S',rfl,h2,h3,h4,h5⟩:=k7 S i hI hlt hJ;have a7:CQ S (i:Int)=.x S':=h1.v;have b7:DQ S (i:Int):=h1.t;simp only[sn,Fj,rn,fv,FQ,EQ,ev,dv,lpS,Tr.val,Tr.ob,hlss,hadd,a7];refine⟨by simp[b7],.inl ⟨(S',((i+1:Nat):Int)),rfl,⟨i+1,rfl,h3,h2,h4,λt ht=>h5 t (hsub t ht)⟩,?_⟩⟩;simp only[Int.toNat_natCast];omega
  ·have hlss:cmp .lss (i:Int) (aa .time S)=false:=by rw[fc];simp[aa];omega
   have hii:i=S.length:=by omega
   subst hii;simp only[sn,Fj,rn,Tr.val,Tr.ob,hlss];exact⟨by simp,.inr ⟨_,rfl,S,rfl,hI,hJ,hsub⟩⟩
 obtain⟨q,hq,S,rfl,hI,hJ,hsub⟩:=k5;have a5:GQ (Tb k xs)=.x S:=hq.v;have b5:HQ (Tb k xs):=hq.t;have hl6:=hI.len
 have hcl:∀s t,s∈S->t∈S->bb s t∈S:=λs t hs ht=>by
  obtain⟨p,hp,e1⟩:=List.getElem_of_mem hs;obtain⟨q,hq,e2⟩:=List.getElem_of_mem ht;have r1:rd .time S (p:Int)=s:=by unfold rd;simp only[Int.toNat_natCast];rw[List.getD_eq_getElem?_getD,List.getElem?_eq_getElem hp];exact e1
  have r2:rd .time S (q:Int)=t:=by unfold rd;simp only[Int.toNat_natCast];rw[List.getD_eq_getElem?_getD,List.getElem?_eq_getElem hq];exact e2
  rcases Nat.lt_trichotomy p q with h|h|h
  ·have:=hJ.1 q p hq h;rw[r1,r2,YZ]at this;exact this
  ·subst h;rw[r1]at r2;rw[← r2,ZZ];exact hs
  ·have:=hJ.1 p q hp h;rw[r1,r2]at this;exact this
 have k12:∀ (o:List Time) (x:Nat),x<8->o.length<=64->ia (λs:List Time×Int=>ca (ei S o (x:Int) s.1 s.2)) (λs=>Gj S o (x:Int) s.1 s.2) (o,0) (.x (o++rowP (Cb S) (x:Int) 8)):=by
  intro o x hx ho;have h0:o++rowP (Cb S) (x:Int) 0=o:=by simp[rowP]
  suffices key:ia (λs:List Time×Int=>ca (ei S o (x:Int) s.1 s.2)) (λs=>Gj S o (x:Int) s.1 s.2) (o++rowP (Cb S) (x:Int) 0,0) (.x (o++rowP (Cb S) (x:Int) 8)) by
   rw[h0]at key;exact key
  refine LN (λi=>o++rowP (Cb S) (x:Int) i) (λi hi=>?_) ?_
  ·have hleq:cmp .leq (i:Int) 7=true:=by rw[Re];simp;omega
   have hadd:ar .add .i64 (i:Int) 1=((i+1:Nat):Int):=by rw[nc (by omega)];omega
   have hrl:=NV (Cb S) (x:Int) i;have hlim:∀y,lim (aa .time (o++rowP (Cb S) (x:Int) i)) (aa .time [y]):=λy=>Wb (t:=.time) (show (o++rowP (Cb S) (x:Int) i).length<1099511627776 by rw[List.length_append];omega);obtain⟨q1,q2⟩:=DD S ⟨(x:Int),(i:Int)⟩ (by omega);simp only[Gj,ei,tn,nv,MQ,LQ,lv,Tr.val,Tr.ob,fa,hleq,hadd,q2];rw[tag];cases Cb S ⟨(x:Int),(i:Int)⟩ with
   |true=>exact⟨by simp[q1];exact hlim _,by simp[ca]⟩
   |false=>exact⟨by simp[q1],by simp[ca]⟩
  ·have hleq:cmp .leq ((8:Nat):Int) 7=false:=rfl;simp only[Gj,ei,tn,Tr.val,Tr.ob,hleq];exact⟨by simp,rfl⟩
 have k10:ia (λs:List Time×Int=>ca (Ij S s.1 s.2)) (λs=>vn S s.1 s.2) ([],0) (.x (qc (Cb S) 8)):=by
  refine LN (λi=>qc (Cb S) i) (λi hi=>?_) ?_
  ·have hleq:cmp .leq (i:Int) 7=true:=by rw[Re];simp;omega
   have hadd:ar .add .i64 (i:Int) 1=((i+1:Nat):Int):=by rw[nc (by omega)];omega
   have htl:=AA (Cb S) i;have k:=k12 (qc (Cb S) i) i hi (by omega);have a12:NQ S (qc (Cb S) i) (i:Int)=.x (qc (Cb S) i++rowP (Cb S) (i:Int) 8):=k.v;have b12:PQ S (qc (Cb S) i) (i:Int):=k.t;simp only[vn,Ij,un,sv,SQ,RQ,qv,ov,lpS,Tr.val,Tr.ob,hleq,hadd,a12];exact⟨by simp[b12],rfl⟩
  ·have hleq:cmp .leq ((8:Nat):Int) 7=false:=rfl;simp only[vn,Ij,un,Tr.val,Tr.ob,hleq];exact⟨by simp,rfl⟩
 have a10:TQ S=.x (qc (Cb S) 8):=k10.v;have b10:UQ S:=k10.t
 have hfin:qc (Cb S) 8=Xa xs k:=by
  unfold Xa;rw[if_pos hr];refine YJ λa b _ _=>?_;rw[Bool.eq_iff_iff];constructor
  ·intro h;exact (hI.ok _ (by simpa [Cb] using h)).2
  ·intro h;have:=MV (M:=λt=>t∈S) (λx hx hk=>hsub _ (j2 x hx hk)) hcl h;simpa [Cb] using this
 simp only[Av,yv,nG,mG,xv,Zu,zQ,yQ,Yu,Xu,jv,JQ,IQ,iv,
  gv,wv,WQ,VQ,uv,tv,lpS,Tr.val,Tr.ob,a2,a5,a10,ocR]
 exact⟨by simp[b2,b5,b10,a5],hfin⟩
end Go.Proofs.YthfkpijcajdnhaaGreat

namespace Go.Proofs.YthfkpijcajdnhaaGreat
open Go Tg
theorem RN(k:Int)(l:List Row)(x:Row):na k (l++[x])=na k l++if x.Key=k then [x] else []:=by
 unfold na;rw[List.filter_append]
 congr 1
 by_cases h:x.Key=k<;>simp[h]
theorem em(k:Int)(l:List Row):(na k l).length<=l.length:=List.length_filter_le _ _
theorem B0{a:List Row}(h:Ib a=true)(k:Int):Ib (na k a)=true:=by
 obtain⟨h1,h2⟩:=Bb h;have:=em k a;simp only[Ib,Bool.and_eq_true,decide_eq_true_eq,List.all_eq_true];exact⟨λx hx=>h2 x (List.mem_filter.1 hx).1,by omega⟩
theorem G0(xs:List Item)(hl:xs.length<1000000000):Kl xs/\nr xs=gathI xs:=by
 refine⟨?_,rfl⟩;show lim _ 1;simp only[lim,aa];omega
section
variable {a:List Row} (hr:Ib a=true) {kind:Int} (hkind:1<=kind/\kind<=3)
include hr hkind
theorem H0(all:List Row){k:Nat}(hk:k<4){made:List Row}(hm:yc k made)(hml:made.length<=6400){ts:List Time}{t:Time}{i n:Int}(hin:inb i (aa .time ts))(hrd:rd .time ts i=t) :
  pJ a kind all (k:Int) (na k a) made ts n i/\oJ a kind all (k:Int) (na k a) made ts n i=.n (Ue kind k (na k a) made t):=by
 obtain⟨hl,hrow⟩:=Bb hr;have ho:=Ph (k:=(k:Int)) hrow;have hol:=em (k:Int) a;obtain⟨p1,p2⟩:=mN (na k a) t (by omega);obtain⟨m1,m2⟩:=mN made t (by omega);have hpl:=ho.presLen t;have hml2:=hm.presLen t;have hpk:=ho.pres t;obtain⟨g1,g2⟩:=TZ (s:=xd (na k a) t) (by omega) (V1 _) (λx hx=>by rw[(hpk x hx).1];omega) hkind;rw[VZ hk λx hx=>(hpk x hx).1]at g2;generalize hU:xd made t=U at m2 hml2;generalize hG:Wa kind k (xd (na k a) t)=D at g2;have hDl:D.length<=101:=by rw[← hG];have:=dN kind k (xd (na k a) t);omega
 have k11:ia (λs:LI×Int=>ca (Ik a kind all (k:Int) (na k a) made t D ts n i U (aa .item U) s.1 s.2)) (λs=>tp a kind all (k:Int) (na k a) made t D ts n i U (aa .item U) s.1 s.2) (D,0) (.x (D++U.map Jb)):=by
  refine ia.fold U (λi b=>(b,(i:Int))) (λl=>D++l.map Jb) (by simp) (λl x r hx=>?_) ?_
  ·have hlen:U.length=l.length+(r.length+1):=by rw[hx];simp
   have hrd:rd .item U (l.length:Int)=x:=by rw[hx];exact Za
   have hin:inb (l.length:Int) (aa .item U):=by rw[hx];exact Ta (t:=.item)
   have hlss:cmp .lss (l.length:Int) (aa .item U)=true:=by rw[hx];exact fb
   have hlim:∀y,lim (aa .item (D++l.map Jb)) (aa .item [y]):=λy=>Wb (t:=.item) (show (D++l.map Jb).length<1099511627776 by rw[List.length_append,List.length_map];omega);simp only[tp,Ik,rp,Tr.val,Tr.ob,fa,hlss,hrd,Ua (l:=l) (by omega)];exact⟨by simp[hin];exact hlim _,by simp[ca,Jb]⟩
  ·have hend:cmp .lss (U.length:Int) (aa .item U)=false:=gb (t:=.item);simp only[tp,Ik,rp,Tr.val,Tr.ob,fa,hend];exact⟨by simp,rfl⟩
 have a11:BU a kind all (k:Int) (na k a) made t D ts n i U (aa .item U)=.x (D++U.map Jb):=k11.v;have b11:CU a kind all (k:Int) (na k a) made t D ts n i U (aa .item U):=k11.t;have hdue:Oh kind k (na k a) made t=gathI (D++U.map Jb):=by unfold Oh;rw[hU,hG]
 obtain⟨d1,d2⟩:=zD (kind:=kind) (t:=t) ho hm;rw[hdue]at d1 d2;obtain⟨q1,q2⟩:=G0 (D++U.map Jb) (by rw[List.length_append,List.length_map];omega);generalize hE:gathI (D++U.map Jb)=E at q2 d1 d2 hdue
 have k12:ia (λs:LR×Int=>ca (Jk a kind all (k:Int) (na k a) made t ts n i E (aa .item E) s.1 s.2)) (λs=>xp a kind all (k:Int) (na k a) made t ts n i E (aa .item E) s.1 s.2) (made,0) (.x (made++E.map (rowT t))):=by
  refine ia.fold E (λi b=>(b,(i:Int))) (λl=>made++l.map (rowT t)) (by simp) (λl x r hx=>?_) ?_
  ·have hlen:E.length=l.length+(r.length+1):=by rw[hx];simp
   have hrd:rd .item E (l.length:Int)=x:=by rw[hx];exact Za
   have hin:inb (l.length:Int) (aa .item E):=by rw[hx];exact Ta (t:=.item)
   have hlss:cmp .lss (l.length:Int) (aa .item E)=true:=by rw[hx];exact fb
   have hlim:∀y,lim (aa .row (made++l.map (rowT t))) (aa .row [y]):=λy=>Wb (t:=.row) (show (made++l.map (rowT t)).length<1099511627776 by rw[List.length_append,List.length_map];omega);simp only[xp,Jk,vp,Tr.val,Tr.ob,fa,hlss,hrd,Ua (l:=l) (by omega)];exact⟨by simp[hin];exact hlim _,by simp[ca,rowT]⟩
  ·have hend:cmp .lss (E.length:Int) (aa .item E)=false:=gb (t:=.item);simp only[xp,Jk,vp,Tr.val,Tr.ob,fa,hend];exact⟨by simp,rfl⟩
 have a12:FU a kind all (k:Int) (na k a) made t ts n i E (aa .item E)=.x (made++E.map (rowT t)):=k12.v;have b12:GU a kind all (k:Int) (na k a) made t ts n i E (aa .item E):=k12.t;simp only[pJ,oJ,Oz,Mz,EU,DU,Lz,Kz,Nz,lpS,Tr.val,Tr.ob,fa,hrd,p2,m2,g2,a11,q2,a12];refine⟨by simp[hin,p1,m1,g1,b11,q1,q2,b12],?_⟩;unfold Ue;rw[hdue]
theorem O0:aA a kind/\Zz a kind=Ve (ab (Ce kind a)):=by
 obtain⟨hl,hrow⟩:=Bb hr
 have k5:∀ (all:List Row) (k:Int),ia (λs:LR×Int=>ca (Hk a kind all k (aa .row a) s.1 s.2)) (λs=>qp a kind all k (aa .row a) s.1 s.2) ([],0) (.x (na k a)):=λall k=>by
  refine ia.fold a (λi b=>(b,(i:Int))) (λl=>na k l) rfl (λl x r hx=>?_) ?_
  ·have hlen:a.length=l.length+(r.length+1):=by rw[hx];simp
   have hrd:rd .row a (l.length:Int)=x:=by rw[hx];exact Za
   have hin:inb (l.length:Int) (aa .row a):=by rw[hx];exact Ta (t:=.row)
   have hlss:cmp .lss (l.length:Int) (aa .row a)=true:=by rw[hx];exact fb
   have hol:=em k l;have hlim:∀y,lim (aa .row (na k l)) (aa .row [y]):=λy=>Wb (t:=.row) (show (na k l).length<1099511627776 by omega);simp only[qp,Hk,np,Gz,wU,vU,Ez,Tr.val,Tr.ob,fa,hlss,hrd,Ua (l:=l) (by omega),Db];rw[RN];by_cases h:x.Key=k
   .exact⟨by simp[hin,h,hlim],by simp[ca,h]⟩
   .exact⟨by simp[hin,h],by simp[ca,h]⟩
  ·have hend:cmp .lss (a.length:Int) (aa .row a)=false:=gb (t:=.row);simp only[qp,Hk,np,Tr.val,Tr.ob,hend];exact⟨by simp,rfl⟩
 have a5:∀all k,xU a kind all k (aa .row a)=.x (na k a):=λall k=>(k5 all k).v;have b5:∀all k,yU a kind all k (aa .row a):=λall k=>(k5 all k).t
 have k8:∀ (all:List Row) (k:Nat),k<4->ia (λs:LR×Int=>ca (Kk a kind all (k:Int) (na k a) (Xa a k) (aa .time (Xa a k)) s.1 s.2))
   (λs=>zp a kind all (k:Int) (na k a) (Xa a k) (aa .time (Xa a k)) s.1 s.2) ([],0) (.x (Ab kind k (na k a) (Xa a k))):=λall k hk=>by
  obtain⟨hts,htl⟩:=Zl (a:=a) (k:=(k:Int));generalize hT:Xa a (k:Int)=ts at hts htl;refine ia.fold ts (λi b=>(b,(i:Int))) (λl=>Ab kind k (na k a) l) rfl (λl t r hx=>?_) ?_
  ·have hlen:ts.length=l.length+(r.length+1):=by rw[hx];simp
   have hrd:rd .time ts (l.length:Int)=t:=by rw[hx];exact Za
   have hin:inb (l.length:Int) (aa .time ts):=by rw[hx];exact Ta (t:=.time)
   have hlss:cmp .lss (l.length:Int) (aa .time ts)=true:=by rw[hx];exact fb
   obtain⟨m1,m2⟩:=Yl (kind:=kind) (Ph (k:=(k:Int)) hrow) l λt ht=>hts t (by rw[hx];simp[ht]);obtain⟨s1,s2⟩:=H0 hr hkind all hk m1 (by omega) (n:=aa .time ts) hin hrd;simp only[zp,Kk,yp,Pz,Tr.val,Tr.ob,hlss,Ua (l:=l) (by omega),s2];rw[eN];exact⟨by simp[s1],rfl⟩
  ·have hend:cmp .lss (ts.length:Int) (aa .time ts)=false:=gb (t:=.time);simp only[zp,Kk,yp,Tr.val,Tr.ob,hend];exact⟨by simp,rfl⟩
 have hmade:∀k:Nat,(Ab kind k (na k a) (Xa a k)).length<=6400:=λk=>by
  obtain⟨hts,htl⟩:=Zl (a:=a) (k:=(k:Int));have:=(Yl (kind:=kind) (Ph (k:=(k:Int)) hrow) _ hts).2;omega
 have hlen:∀i:Nat,((List.range i).flatMap λk:Nat=>Ab kind k (na k a) (Xa a k)).length<=6400*i:=λi=>by
  induction i with
  |zero=>simp
  |succ i ih=>
   rw[List.range_succ,List.flatMap_append,List.length_append,List.flatMap_singleton];have:=hmade i;omega
 have k2:ia (λs:LR×Int=>ca (Lk a kind s.1 s.2)) (λs=>Bp a kind s.1 s.2) ([],0) (.x (Ce kind a)):=by
  refine CD (λi=>(List.range i).flatMap λk:Nat=>Ab kind k (na k a) (Xa a k)) (λi hi=>?_) ?_
  ·have hlss:cmp .lss (i:Int) 4=true:=by rw[fc];simp;omega
   have hadd:ar .add .i64 (i:Int) 1=((i+1:Nat):Int):=by rw[nc (by omega)];omega
   have hl4:=hlen i;have hmi:=hmade i;have hlim:lim (aa .row ((List.range i).flatMap λk:Nat=>Ab kind k (na k a) (Xa a k))) (aa .row (Ab kind i (na i a) (Xa a i))):=qr (t:=.row) (by omega);have hp:XJ a (i:Int):=show a.length<=1000000 by omega
   have k:=k8 ((List.range i).flatMap λk:Nat=>Ab kind k (na k a) (Xa a k)) i hi;generalize hall:((List.range i).flatMap λk:Nat=>Ab kind k (na k a) (Xa a k))=all at k hlim;have a8:IU a kind all (i:Int) (na i a) (Xa a i) (aa .time (Xa a i))=.x (Ab kind i (na i a) (Xa a i)):=k.v;have b8:JU a kind all (i:Int) (na i a) (Xa a i) (aa .time (Xa a i)):=k.t
   have e3:sJ a kind all (i:Int)/\rJ a kind all (i:Int)=.n (all++Ab kind i (na i a) (Xa a i)):=by
    simp only[sJ,rJ,Tz,Jz,AU,zU,Iz,Hz,Sz,MU,LU,Rz,Qz,lpS,Tr.val,Tr.ob,fa,a5,a8];exact⟨by simp[b5,a8,b8,hp,hlim],trivial⟩
   simp only[Bp,Lk,Ap,Uz,Tr.val,Tr.ob,hlss,hadd,e3.2];rw[List.range_succ,List.flatMap_append,List.flatMap_singleton,hall];exact⟨by simp[e3.1],rfl⟩
  ·have hend:cmp .lss ((4:Nat):Int) 4=false:=rfl;simp only[Bp,Lk,Ap,Tr.val,Tr.ob,hend];exact⟨by simp,rfl⟩
 have a2:NU a kind=.x (Ce kind a):=k2.v;have b2:PU a kind:=k2.t;obtain⟨s1,s2⟩:=AD (kind:=kind) hrow;obtain⟨q1,q2⟩:=cm (xs:=Ce kind a) (by omega) λx hx=>(s1 x hx).1;simp only[aA,Zz,vJ,uJ,Yz,Xz,RU,QU,Wz,Vz,lpS,Tr.val,Tr.ob,fa,a2,q2,ocR];exact⟨by simp[b2,q1],by unfold Ve;split<;>rfl⟩
theorem P0{k:Nat}(_hk:k<4){made:List Row}(hm:yc k made)(hml:made.length<=6400){ts:List Time}{t:Time}(ht:Ea t=true){i:Int}(hin:inb i (aa .time ts))(hrd:rd .time ts i=t) :
  RG (k:Int) kind (na k a) made ts i/\QG (k:Int) kind (na k a) made ts i=.n (Ue kind k (na k a) made t):=by
 obtain⟨hl,hrow⟩:=Bb hr;have ho:=Ph (k:=(k:Int)) hrow;have hol:=em (k:Int) a;obtain⟨p1,p2⟩:=mZ (na k a) t (by omega);rw[if_pos ⟨B0 hr k,ht⟩]at p2;have hpl:=ho.presLen t;have hpk:=ho.pres t;obtain⟨g1,g2⟩:=WZ (s:=xd (na k a) t) (by omega) (key:=(k:Int)) hkind;rw[HN λx hx=>(hpk x hx).1]at g2;generalize hG:Wa kind k (xd (na k a) t)=D at g2;have hDl:D.length<=101:=by rw[← hG];have:=dN kind k (xd (na k a) t);omega
 have hil:∀l:List Row,(Va l t).length<=l.length:=λl=>by unfold Va;rw[List.length_map];exact List.length_filter_le _ _
 have k8:ia (λs:LI×Int=>ca (Qj (k:Int) kind (na k a) made ts i t D s.1 s.2)) (λs=>Rn (k:Int) kind (na k a) made ts i t D s.1 s.2) (D,0) (.x (D++(Va made t).map Jb)):=by
  refine ia.fold made (λi b=>(b,(i:Int))) (λl=>D++(Va l t).map Jb) (by simp[Va]) (λl x r hx=>?_) ?_
  ·have hlen:made.length=l.length+(r.length+1):=by rw[hx];simp
   have hrd:rd .row made (l.length:Int)=x:=by rw[hx];exact Za
   have hin:inb (l.length:Int) (aa .row made):=by rw[hx];exact Ta (t:=.row)
   have hlss:cmp .lss (l.length:Int) (aa .row made)=true:=by rw[hx];exact fb
   have hxo:=hm x (by rw[hx];simp);have hl1:=hil l;have hlim:∀y,lim (aa .item (D++(Va l t).map Jb)) (aa .item [y]):=λy=>Wb (t:=.item) (show (D++(Va l t).map Jb).length<1099511627776 by rw[List.length_append,List.length_map];omega);simp only[Rn,Qj,Qn,nw,IR,HR,mw,Tr.val,Tr.ob,fa,hlss,hrd,Ua (l:=l) (by omega),jN,hxo.2.2.2.2,ht,Bool.true_and];rw[lD];have e1:Va [x] t=if Bf x.At t=true then [rIt x] else []:=by rw[X1,Y1,List.append_nil]
   rw[e1];cases hb:Bf x.At t with
   |true=>exact⟨by simp[hin,ur];exact hlim _,by simp[ca,Jb,rIt,hxo.1]⟩
   |false=>exact⟨by simp[hin,ur],by simp[ca]⟩
  ·have hend:cmp .lss (made.length:Int) (aa .row made)=false:=gb (t:=.row);simp only[Rn,Qj,Qn,Tr.val,Tr.ob,hend];exact⟨by simp,rfl⟩
 have a8:JR (k:Int) kind (na k a) made ts i t D=.x (D++(Va made t).map Jb):=k8.v;have b8:MR (k:Int) kind (na k a) made ts i t D:=k8.t;have hdue:Oh kind k (na k a) made t=gathI (D++(Va made t).map Jb):=by rw[hZ hm,hG]
 obtain⟨d1,d2⟩:=zD (kind:=kind) (t:=t) ho hm;rw[hdue]at d1 d2;have him:=hil made
 obtain⟨q1,q2⟩:=UM (D++(Va made t).map Jb) (by rw[List.length_append,List.length_map];omega) (λx hx=>by
  rcases List.mem_append.1 hx with hx|hx
  ·rw[← hG]at hx;rw[(cN (λy hy=>⟨(hpk y hy).2.1,(hpk y hy).2.2.1⟩) hx).2.2.2];unfold InR;omega
  ·obtain⟨y,_,rfl⟩:=List.mem_map.1 hx;exact XM y)
 generalize hE:gathI (D++(Va made t).map Jb)=E at q2 d1 d2 hdue
 have k10:ia (λs:LR×Int=>ca (Rj (k:Int) kind (na k a) made ts i t E s.1 s.2)) (λs=>Tn (k:Int) kind (na k a) made ts i t E s.1 s.2) (made,0) (.x (made++E.map (rowT t))):=by
  refine ia.fold E (λi b=>(b,(i:Int))) (λl=>made++l.map (rowT t)) (by simp) (λl x r hx=>?_) ?_
  ·have hlen:E.length=l.length+(r.length+1):=by rw[hx];simp
   have hrd:rd .item E (l.length:Int)=x:=by rw[hx];exact Za
   have hin:inb (l.length:Int) (aa .item E):=by rw[hx];exact Ta (t:=.item)
   have hlss:cmp .lss (l.length:Int) (aa .item E)=true:=by rw[hx];exact fb
   have hxk:=(d1 x (by rw[hx];simp)).1;have hlim:∀y,lim (aa .row (made++l.map (rowT t))) (aa .row [y]):=λy=>Wb (t:=.row) (show (made++l.map (rowT t)).length<1099511627776 by rw[List.length_append,List.length_map];omega);simp only[Tn,Rj,Sn,Tr.val,Tr.ob,fa,hlss,hrd,Ua (l:=l) (by omega)];exact⟨by simp[hin];exact hlim _,by simp[ca,rowT,hxk]⟩
  ·have hend:cmp .lss (E.length:Int) (aa .item E)=false:=gb (t:=.item);simp only[Tn,Rj,Sn,Tr.val,Tr.ob,fa,hend];exact⟨by simp,rfl⟩
 have a10:QR (k:Int) kind (na k a) made ts i t E=.x (made++E.map (rowT t)):=k10.v;have b10:RR (k:Int) kind (na k a) made ts i t E:=k10.t;simp only[RG,QG,uw,sw,PR,NR,qw,pw,tw,lpS,Tr.val,Tr.ob,fa,hrd,p2,g2,a8,q2,a10];refine⟨by simp[hin,p1,g1,b8,q1,q2,b10],?_⟩;unfold Ue;rw[hdue]
theorem T0{k:Nat}(hk:k<4):Bw a (k:Int) kind/\Aw a (k:Int) kind=Ab kind k (na k a) (Xa a k):=by
 obtain⟨hl,hrow⟩:=Bb hr
 have k2:ia (λs:LR×Int=>ca (Pj a (k:Int) kind s.1 s.2)) (λs=>Pn a (k:Int) kind s.1 s.2) ([],0) (.x (na k a)):=by
  refine ia.fold a (λi b=>(b,(i:Int))) (λl=>na k l) rfl (λl x r hx=>?_) ?_
  ·have hlen:a.length=l.length+(r.length+1):=by rw[hx];simp
   have hrd:rd .row a (l.length:Int)=x:=by rw[hx];exact Za
   have hin:inb (l.length:Int) (aa .row a):=by rw[hx];exact Ta (t:=.row)
   have hlss:cmp .lss (l.length:Int) (aa .row a)=true:=by rw[hx];exact fb
   have hol:=em (k:Int) l;have hlim:∀y,lim (aa .row (na k l)) (aa .row [y]):=λy=>Wb (t:=.row) (show (na k l).length<1099511627776 by omega);simp only[Pn,Pj,On,iw,CR,BR,gw,Tr.val,Tr.ob,fa,hlss,hrd,Ua (l:=l) (by omega),Db];rw[RN];by_cases h:x.Key=k
   .exact⟨by simp[hin,h,hlim],by simp[ca,h]⟩
   .exact⟨by simp[hin,h],by simp[ca,h]⟩
  ·have hend:cmp .lss (a.length:Int) (aa .row a)=false:=gb (t:=.row);simp only[Pn,Pj,On,Tr.val,Tr.ob,hend];exact⟨by simp,rfl⟩
 have a2:DR a (k:Int) kind=.x (na k a):=k2.v;have b2:ER a (k:Int) kind:=k2.t;obtain⟨f1,f2⟩:=j0 hr (k:Int);obtain⟨hts,htl⟩:=Zl (a:=a) (k:=(k:Int));generalize hT:Xa a (k:Int)=ts at hts htl f2
 have k5:ia (λs:LR×Int=>ca (Sj (k:Int) kind (na k a) ts s.1 s.2)) (λs=>Vn (k:Int) kind (na k a) ts s.1 s.2) ([],0) (.x (Ab kind k (na k a) ts)):=by
  refine ia.fold ts (λi b=>(b,(i:Int))) (λl=>Ab kind k (na k a) l) rfl (λl t r hx=>?_) ?_
  ·have hlen:ts.length=l.length+(r.length+1):=by rw[hx];simp
   have hrd:rd .time ts (l.length:Int)=t:=by rw[hx];exact Za
   have hin:inb (l.length:Int) (aa .time ts):=by rw[hx];exact Ta (t:=.time)
   have hlss:cmp .lss (l.length:Int) (aa .time ts)=true:=by rw[hx];exact fb
   obtain⟨m1,m2⟩:=Yl (kind:=kind) (Ph (k:=(k:Int)) hrow) l λt ht=>hts t (by rw[hx];simp[ht]);obtain⟨s1,s2⟩:=P0 hr hkind hk m1 (by omega) (hts t (by rw[hx];simp)) hin hrd;simp only[Vn,Sj,Un,vw,Tr.val,Tr.ob,hlss,Ua (l:=l) (by omega),s2];rw[eN];exact⟨by simp[s1],rfl⟩
  ·have hend:cmp .lss (ts.length:Int) (aa .time ts)=false:=gb (t:=.time);simp only[Vn,Sj,Un,Tr.val,Tr.ob,hend];exact⟨by simp,rfl⟩
 have a5:TR (k:Int) kind (na k a) ts=.x (Ab kind k (na k a) ts):=k5.v;have b5:UR (k:Int) kind (na k a) ts:=k5.t;simp only[Bw,Aw,VG,UG,zw,lw,GR,FR,kw,jw,yw,XR,WR,xw,ww,lpS,Tr.val,Tr.ob,fa,a2,f2,a5,ocR];exact⟨by simp[b2,f1,b5],trivial⟩
theorem U0:Iw a kind/\Hw a kind=ab (Ce kind a):=by
 obtain⟨hl,hrow⟩:=Bb hr
 have hmade:∀k:Nat,(Ab kind k (na k a) (Xa a k)).length<=6400:=λk=>by
  obtain⟨hts,htl⟩:=Zl (a:=a) (k:=(k:Int));have:=(Yl (kind:=kind) (Ph (k:=(k:Int)) hrow) _ hts).2;omega
 have hlen:∀i:Nat,((List.range i).flatMap λk:Nat=>Ab kind k (na k a) (Xa a k)).length<=6400*i:=λi=>by
  induction i with
  |zero=>simp
  |succ i ih=>
   rw[List.range_succ,List.flatMap_append,List.length_append,List.flatMap_singleton];have:=hmade i;omega
 have k2:ia (λs:LR×Int=>ca (Tj a kind s.1 s.2)) (λs=>Yn a kind s.1 s.2) ([],0) (.x (Ce kind a)):=by
  refine CD (λi=>(List.range i).flatMap λk:Nat=>Ab kind k (na k a) (Xa a k)) (λi hi=>?_) ?_
  ·have hlss:cmp .lss (i:Int) 4=true:=by rw[fc];simp;omega
   have hadd:ar .add .i64 (i:Int) 1=((i+1:Nat):Int):=by rw[nc (by omega)];omega
   have hl4:=hlen i;have hmi:=hmade i;have hlim:lim (aa .row ((List.range i).flatMap λk:Nat=>Ab kind k (na k a) (Xa a k))) (aa .row (Ab kind i (na i a) (Xa a i))):=qr (t:=.row) (by omega);obtain⟨e1,e2⟩:=T0 hr hkind hi;simp only[Yn,Tj,Xn,Tr.val,Tr.ob,fa,hlss,hadd,e2];rw[List.range_succ,List.flatMap_append,List.flatMap_singleton];exact⟨by simp[e1,hlim],rfl⟩
  ·have hend:cmp .lss ((4:Nat):Int) 4=false:=rfl;simp only[Yn,Tj,Xn,Tr.val,Tr.ob,hend];exact⟨by simp,rfl⟩
 have a2:YR a kind=.x (Ce kind a):=k2.v;have b2:ZR a kind:=k2.t;obtain⟨s1,s2⟩:=AD (kind:=kind) hrow;obtain⟨q1,q2⟩:=Mh (Ce kind a) (by omega) λx hx=>(s1 x hx).1;simp only[Iw,Hw,aH,ZG,Gw,Fw,bS,aS,Ew,Dw,lpS,Tr.val,Tr.ob,fa,a2,q2,ocR];exact⟨by simp[b2,q1],trivial⟩
end
end Go.Proofs.YthfkpijcajdnhaaGreat

namespace Go.Proofs.YthfkpijcajdnhaaGreat
open Go
theorem dg(p:Plan):Plan.mk p.Kind p.Num p.Kids=p:=by cases p;rfl
def kd(k:Int):Int×Int×Int:=if k=1 then (0,0,1) else if k=2 then (1,1,7) else if k=3\/k=5 then (2,0,0) else if k=4 then (1,0,0) else if k=6 then (1,1,3) else (-1,0,0)
theorem Cr(k:Int):k=1\/k=2\/k=3\/k=4\/k=5\/k=6\/(k≠1/\k≠2/\k≠3/\k≠4/\k≠5/\k≠6):=by omega
theorem aO(k:Int):nx k/\Zg k=((kd k).1,(kd k).2.1,(kd k).2.2,()):=by
 simp only[nx,Zg,qH,pH,lx,jx,uS,tS,fx,dx,rS,qS,cx,Tr.val,Tr.ob,Db];rcases Cr k with rfl|rfl|rfl|rfl|rfl|rfl|⟨h1,h2,h3,h4,h5,h6⟩
 .exact⟨by simp,rfl⟩
 .exact⟨by simp,rfl⟩
 .exact⟨by simp,rfl⟩
 .exact⟨by simp,rfl⟩
 .exact⟨by simp,rfl⟩
 .exact⟨by simp,rfl⟩
 .simp[h1,h2,h3,h4,h5,h6,kd,ocR]
theorem bO(k:Int):Ut k/\di k=((kd k).1,(kd k).2.1,(kd k).2.2,()):=by
 simp only[Ut,di,qF,pF,Tt,St,wP,vP,Rt,Qt,uP,tP,Pt,Tr.val,Tr.ob,Db];rcases Cr k with rfl|rfl|rfl|rfl|rfl|rfl|⟨h1,h2,h3,h4,h5,h6⟩
 .exact⟨by simp,rfl⟩
 .exact⟨by simp,rfl⟩
 .exact⟨by simp,rfl⟩
 .exact⟨by simp,rfl⟩
 .exact⟨by simp,rfl⟩
 .exact⟨by simp,rfl⟩
 .simp[h1,h2,h3,h4,h5,h6,kd,ocR]
def Md(p:Plan):Bool:=decide ((p.Kids.length:Int)=(kd p.Kind).1/\(kd p.Kind).2.1<=p.Num/\p.Num<=(kd p.Kind).2.2)
def okM:Nat->Plan->Bool
 |0,_=>false
 |d+1,p=>Md p&&p.Kids.all (okM d)
theorem H1(k:Int):(kd k).1<=2:=by
 unfold kd;repeat' split
 all_goals simp
theorem ED{p:Plan}(h:Md p=true):p.Kids.length<=2:=by
 simp only[Md,decide_eq_true_eq]at h;have:=H1 p.Kind;omega
theorem I1:∀ (d n:Nat),d<n->d<=1000->∀p:Plan,(Kc n).2 p d/\(Kc n).1 p d=okM d p:=by
 intro d
 induction d with
 |zero=>
  intro n hn _ p;obtain⟨m,rfl⟩ : ∃m,n=m+1:=⟨n - 1,by omega⟩;obtain⟨k1,k2⟩:=aO p.Kind;have hl:cmp .lss ((0:Nat):Int) 1=true:=rfl;simp only[Kc,ak,Zj,Yj,Tr.val,Tr.ob,fa,hl,cond_true,ocR];exact⟨by simp[k1],rfl⟩
 |succ d ih=>
  intro n hn hd p;obtain⟨m,rfl⟩ : ∃m,n=m+1:=⟨n - 1,by omega⟩;obtain⟨k1,k2⟩:=aO p.Kind;generalize hD:((d+1:Nat):Int)=D;have hl:cmp .lss D 1=false:=by rw[fc];simp;omega
  have hsub:ar .sub .i64 D 1=(d:Int):=by rw[Ng (by omega)];omega
  have hc:cond (cond (cond (cond (cmp .lss D 1) true (cmp .lss (Zg p.Kind).1 0)) true (cmp .neq (aa .plan p.Kids) (Zg p.Kind).1)) true (cmp .lss p.Num (Zg p.Kind).2.1)) true (cmp .gtr p.Num (Zg p.Kind).2.2.1)=!Md p:=by
   rw[hl,k2];simp only[fc,Ae,Yc,Md,aa];rw[Bool.eq_iff_iff];simp;omega
  by_cases hh:Md p=true
  ·have hlen:=ED hh
   have k:ia (λs:Int=>ca (Xj (Kc m).1 (Kc m).2 D p.Kids (aa .plan p.Kids) s)) (λs=>uo (Kc m).1 (Kc m).2 D p.Kids (aa .plan p.Kids) s) 0 (if Sb (λ_ x=>!okM d x) none p.Kids=true then .x () else .r false):=by
    refine ia.scan p.Kids _ (λl x r hx=>?_) ?_
    ·have hrd:rd .plan p.Kids (l.length:Int)=x:=by rw[hx];exact Za
     have hin:inb (l.length:Int) (aa .plan p.Kids):=by rw[hx];exact Ta (t:=.plan)
     have hlss:cmp .lss (l.length:Int) (aa .plan p.Kids)=true:=by rw[hx];exact fb
     have hlen2:p.Kids.length=l.length+(r.length+1):=by rw[hx];simp
     obtain⟨i1,i2⟩:=ih m (by omega) (by omega) x;simp only[uo,Xj,ro,Tr.val,Tr.ob,fa,hlss,hrd,dg,hsub,i2,Ua (l:=l) (by omega)];refine⟨by simp[hin,i1],?_⟩;cases okM d x<;>rfl
    ·have hend:cmp .lss (p.Kids.length:Int) (aa .plan p.Kids)=false:=gb (t:=.plan);simp only[uo,Xj,ro,Tr.val,Tr.ob,fa,hend];exact⟨by simp,rfl⟩
   have a2:vS (Kc m).1 (Kc m).2 D p.Kids (aa .plan p.Kids)=_:=k.v;have b2:wS (Kc m).1 (Kc m).2 D p.Kids (aa .plan p.Kids):=k.t;rw[cg]at a2;simp only[Kc,ak,Zj,Yj,vx,yS,xS,ux,tx,lpS,Tr.val,Tr.ob,fa,hc,hh,Bool.not_true,a2,okM];refine⟨by simp[k1,b2],?_⟩;cases p.Kids.all (okM d)<;>rfl
  ·have hh:Md p=false:=by simpa using hh
   simp only[Kc,ak,Zj,Yj,Tr.val,Tr.ob,fa,hc,hh,Bool.not_false,ocR,okM,Bool.false_and];exact⟨by simp[k1],trivial⟩
theorem J1:∀ (d n:Nat),d<n->d<=1000->∀p:Plan,(Jc n).2 p d/\(Jc n).1 p d=okM d p:=by
 intro d
 induction d with
 |zero=>
  intro n hn _ p;obtain⟨m,rfl⟩ : ∃m,n=m+1:=⟨n - 1,by omega⟩;obtain⟨k1,k2⟩:=bO p.Kind;have hl:cmp .lss ((0:Nat):Int) 1=true:=rfl;simp only[Jc,sj,rj,qj,Tr.val,Tr.ob,fa,hl,cond_true,ocR];exact⟨by simp[k1],rfl⟩
 |succ d ih=>
  intro n hn hd p;obtain⟨m,rfl⟩ : ∃m,n=m+1:=⟨n - 1,by omega⟩;obtain⟨k1,k2⟩:=bO p.Kind;generalize hD:((d+1:Nat):Int)=D;have hl:cmp .lss D 1=false:=by rw[fc];simp;omega
  have hsub:ar .sub .i64 D 1=(d:Int):=by rw[Ng (by omega)];omega
  have hin6:∀a b c,ig a b c/\Nd a b c=decide (b<=a/\a<=c):=λa b c=>by
   refine⟨trivial,?_⟩;show cond (cmp .geq a b) (cmp .leq a c) false=_;rw[Oi,Re,Bool.eq_iff_iff];simp
  have hc:cond (cond (cmp .lss D 1) true (cmp .neq (aa .plan p.Kids) (di p.Kind).1)) true (!(Nd p.Num (di p.Kind).2.1 (di p.Kind).2.2.1))=!Md p:=by
   rw[hl,k2,(hin6 _ _ _).2];simp only[Ae,Md,aa];rw[Bool.eq_iff_iff];simp
  by_cases hh:Md p=true
  ·have hlen:=ED hh
   have k:ia (λs:Int=>ca (pj (Jc m).1 (Jc m).2 D p.Kind p.Num p.Kids s)) (λs=>Mm (Jc m).1 (Jc m).2 D p.Kind p.Num p.Kids s) 0 (if Sb (λ_ x=>!okM d x) none p.Kids=true then .x () else .r false):=by
    refine ia.scan p.Kids _ (λl x r hx=>?_) ?_
    ·have hrd:rd .plan p.Kids (l.length:Int)=x:=by rw[hx];exact Za
     have hin:inb (l.length:Int) (aa .plan p.Kids):=by rw[hx];exact Ta (t:=.plan)
     have hlss:cmp .lss (l.length:Int) (aa .plan p.Kids)=true:=by rw[hx];exact fb
     have hlen2:p.Kids.length=l.length+(r.length+1):=by rw[hx];simp
     obtain⟨i1,i2⟩:=ih m (by omega) (by omega) x;simp only[Mm,pj,Lm,Tr.val,Tr.ob,fa,hlss,hrd,dg,hsub,i2,Ua (l:=l) (by omega)];refine⟨by simp[hin,i1],?_⟩;cases okM d x<;>rfl
    ·have hend:cmp .lss (p.Kids.length:Int) (aa .plan p.Kids)=false:=gb (t:=.plan);simp only[Mm,pj,Lm,Tr.val,Tr.ob,fa,hend];exact⟨by simp,rfl⟩
   have a2:xP (Jc m).1 (Jc m).2 D p.Kind p.Num p.Kids=_:=k.v;have b2:yP (Jc m).1 (Jc m).2 D p.Kind p.Num p.Kids:=k.t;rw[cg]at a2;simp only[Jc,sj,rj,qj,Zt,AP,zP,Yt,Xt,lpS,Tr.val,Tr.ob,fa,hc,hh,Bool.not_true,a2,okM];refine⟨by simp[k1,b2,(hin6 _ _ _).1],?_⟩;cases p.Kids.all (okM d)<;>rfl
  ·have hh:Md p=false:=by simpa using hh
   simp only[Jc,sj,rj,qj,Tr.val,Tr.ob,fa,hc,hh,Bool.not_false,ocR,okM,Bool.false_and];exact⟨by simp[k1,(hin6 _ _ _).1],trivial⟩
theorem cO{d:Nat}{p:Plan}(h:okM (d+1) p=true):p.Kids.length<=2/\∀x∈p.Kids,okM d x=true:=by
 simp only[okM,Bool.and_eq_true,List.all_eq_true]at h;exact⟨ED h.1,h.2⟩
theorem L1(p:Plan):Ax p/\zx p=okM 4 p:=by
 obtain⟨h1,h2⟩:=I1 4 Pc (by decide) (by decide) p;simp only[Ax,zx,vH,uH,yx,Tr.val,Tr.ob,fa,dg,ocR];exact⟨⟨⟨h1,trivial⟩,trivial⟩,h2⟩
theorem R1(p:Plan):fu p/\eu p=okM 4 p:=by
 obtain⟨h1,h2⟩:=J1 4 Pc (by decide) (by decide) p;simp only[fu,eu,vF,uF,au,Tr.val,Tr.ob,fa,dg,ocR];exact⟨⟨⟨h1,trivial⟩,trivial⟩,h2⟩
end Go.Proofs.YthfkpijcajdnhaaGreat

namespace Go.Proofs.YthfkpijcajdnhaaGreat
open Go Tg
def zc:Option (List Row)->List Row×Bool×Unit
 |some x=>(x,true,())
 |none=>([],false,())
def Df(o:Option (List (List Row))):Oc Empty (List Row×Bool×Unit) (List (List Row)) Empty Empty:=match o with
 |some ks=>.x ks
 |none=>.r ([],false,())
theorem rd0(ks:List (List Row)):rd .lrow ks 0=ks.getD 0 []:=rfl
theorem rd1(ks:List (List Row)):rd .lrow ks 1=ks.getD 1 []:=rfl
theorem V0(x:List Row):Ve x=zc (if Qa x=true then some x else none):=by
 unfold Ve;split<;>rfl
theorem Vi{ks:List (List Row)}(h:∀x∈ks,Qa x=true)(n:Nat):Qa (ks.getD n [])=true:=by
 rw[List.getD_eq_getElem?_getD];cases hx:ks[n]? with
 |none=>rfl
 |some x=>exact h x (List.mem_of_getElem? hx)
theorem SN(num:Int)(ks ins:List (List Row)):opR 1 num ks ins=ins.getD num.toNat []:=rfl
theorem UN(num:Int)(ks ins:List (List Row)):opR 2 num ks ins=ab (xc num (ks.getD 0 [])):=rfl
theorem VN(num:Int)(ks ins:List (List Row)):opR 3 num ks ins=ab (ks.getD 0 []++ks.getD 1 []):=rfl
theorem WN(num:Int)(ks ins:List (List Row)):opR 4 num ks ins=ab (ib (ks.getD 0 [])):=rfl
theorem XN(num:Int)(ks ins:List (List Row)):opR 5 num ks ins=ab (dc (ks.getD 0 []) (ks.getD 1 [])):=rfl
theorem YN(num:Int)(ks ins:List (List Row)):opR 6 num ks ins=ab (Ce num (ks.getD 0 [])):=rfl
theorem Cd{ks:List (List Row)}{i:Int}(h0:0<=i)(h:i<ks.length):inb i (aa .lrow ks):=by unfold inb aa;omega
theorem X0{ins:List (List Row)}(hlen:ins.length=2)(hins:∀a∈ins,Qa a=true):∀ (d n:Nat),d<=n->∀p:Plan,okM d p=true->(Vc n).2 p ins/\(Vc n).1 p ins=zc (Ob d ins p):=by
 intro d
 induction d with
 |zero=>intro n _ p h;cases h
 |succ d ih=>
  intro n hn p hp;obtain⟨m,rfl⟩ : ∃m,n=m+1:=⟨n - 1,by omega⟩;obtain⟨hkl,hk⟩:=cO hp
  have k:∃q,ia (λs:List LR×Int=>ca (Mk (Vc m).1 (Vc m).2 ins p.Kind p.Num p.Kids (aa .plan p.Kids) s.1 s.2)) (λs=>Fp (Vc m).1 (Vc m).2 ins p.Kind p.Num p.Kids (aa .plan p.Kids) s.1 s.2) ([],0) q/\q=Df (Nb (Ob d ins) p.Kids):=by
   refine ia.list p.Kids (λi b=>(b,(i:Int))) (λl b=>Nb (Ob d ins) l=some b) (b0:=[]) rfl rfl (λl x r b hx hI=>?_) (λb hI=>?_)
   ·have hrd:rd .plan p.Kids (l.length:Int)=x:=by rw[hx];exact Za
    have hin:inb (l.length:Int) (aa .plan p.Kids):=by rw[hx];exact Ta (t:=.plan)
    have hlss:cmp .lss (l.length:Int) (aa .plan p.Kids)=true:=by rw[hx];exact fb
    have hlen2:p.Kids.length=l.length+(r.length+1):=by rw[hx];simp
    have hbl:=Xl hI;obtain⟨i1,i2⟩:=ih m (by omega) x (hk x (by rw[hx];simp));have hlim:∀y,lim (aa .lrow b) (aa .lrow [y]):=λy=>Wb (t:=.lrow) (show b.length<1099511627776 by omega);have hall:=Wl (Ob d ins) l (x::r);have hall1:=Wl (Ob d ins) l [x];simp only[Fp,Mk,Ep,Tr.val,Tr.ob,fa,hlss,hrd,dg,i2,Ua (l:=l) (by omega)];rw[hI]at hall hall1;cases hf:Ob d ins x with
    |none=>
     simp only[Nb,hf]at hall;exact⟨by simp[-List.getD_eq_getElem?_getD,hin,i1,zc],.inr ⟨_,by simp[ca,zc];rfl,by rw[hx,hall];rfl⟩⟩
    |some y=>
     simp only[Nb,hf]at hall1;exact⟨by simp[-List.getD_eq_getElem?_getD,hin,i1,zc,hlim],.inl ⟨b++[y],by simp[ca,zc],hall1⟩⟩
   ·have hend:cmp .lss (p.Kids.length:Int) (aa .plan p.Kids)=false:=gb (t:=.plan);simp only[Fp,Mk,Ep,Tr.val,Tr.ob,fa,hend];exact⟨by simp,_,rfl,by rw[hI];rfl⟩
  obtain⟨q,kq,rfl⟩:=k;have a2:SU (Vc m).1 (Vc m).2 ins p.Kind p.Num p.Kids (aa .plan p.Kids)=Df (Nb (Ob d ins) p.Kids):=kq.v;have b2:UU (Vc m).1 (Vc m).2 ins p.Kind p.Num p.Kids (aa .plan p.Kids):=kq.t;have hroot:Md p=true:=by simp only[okM,Bool.and_eq_true]at hp;exact hp.1
  simp only[Md,decide_eq_true_eq]at hroot;obtain⟨r1,r2,r3⟩:=hroot;simp only[Vc,kA,jA,iA,gA,WU,VU,fA,eA,lpS,Tr.val,Tr.ob,fa,a2,Db,Ob];cases hA:Nb (Ob d ins) p.Kids with
  |none=>exact⟨by simp[Df,b2],by simp[Df,ocR,zc]⟩
  |some ks=>
   have hkb:∀x∈ks,Qa x=true:=λx hx=>by
    obtain⟨q,_,hq⟩:=vD hA x hx;exact wD hq
   have hkn:=Xl hA;have h0:=Vi hkb 0;have h1:=Vi hkb 1;have hr0:=bg h0;have hr1:=bg h1;have hl0:=(Bb hr0).1;have hl1:=(Bb hr1).1;have hi0:∀x∈ks.getD 0 [],InR x.Diff:=λx hx=>Zf ((Bb hr0).2 x hx);have hi1:∀x∈ks.getD 1 [],InR x.Diff:=λx hx=>Zf ((Bb hr1).2 x hx);obtain⟨K,M,kids⟩:=p;simp only at r1 r2 r3 b2 a2 hA hkn⊢;simp only[Df,rd0,rd1,← V0];rcases Cr K with rfl|rfl|rfl|rfl|rfl|rfl|⟨g1,g2,g3,g4,g5,g6⟩
   ·simp only[kd]at r1 r2 r3;have hM:0<=M/\M<=1:=by simpa using And.intro r2 r3
    have hrd:rd .lrow ins M=ins.getD M.toNat []:=rfl;have hb:=Vi hins M.toNat;have hlM:=(Bb (bg hb)).1;obtain⟨c1,c2⟩:=FZ (a:=ins.getD M.toNat []) (by omega);have hin:=Cd (ks:=ins) hM.1 (by omega);rw[SN];refine⟨by simp[-List.getD_eq_getElem?_getD,b2,hin,hrd,c1],?_⟩;simp only[decide_true,hrd,c2,ocR];unfold Ve;rw[if_pos hb]
   ·have hn1:ks.length=1:=by simp[kd]at r1;omega
    have hin:=Cd (ks:=ks) (i:=0) (by omega) (by omega);simp only[kd]at r2 r3;have hM:1<=M/\M<=7:=by simpa using And.intro r2 r3
    obtain⟨c1,c2⟩:=xZ hr0 hM;rw[UN];refine⟨by simp[-List.getD_eq_getElem?_getD,b2,hin,c1],?_⟩;simp[-List.getD_eq_getElem?_getD,c2,ocR]
   ·have hn1:ks.length=2:=by simp[kd]at r1;omega
    have hin:=Cd (ks:=ks) (i:=0) (by omega) (by omega);have hin1:=Cd (ks:=ks) (i:=1) (by omega) (by omega);obtain⟨c1,c2⟩:=EZ (a:=ks.getD 0 []) (b:=ks.getD 1 []) (by omega) (by omega);obtain⟨e1,e2⟩:=cm (xs:=ks.getD 0 []++ks.getD 1 []) (by rw[List.length_append];omega) (λx hx=>(List.mem_append.1 hx).elim (hi0 x) (hi1 x));rw[VN];refine⟨by simp[-List.getD_eq_getElem?_getD,b2,hin,hin1,c1,c2,e1],?_⟩;simp only[c2,e2,ocR];unfold Ve;cases Qa _<;>rfl
   ·have hn1:ks.length=1:=by simp[kd]at r1;omega
    have hin:=Cd (ks:=ks) (i:=0) (by omega) (by omega);obtain⟨c1,c2⟩:=GZ (a:=ks.getD 0 []) (by omega);have hnl:(ib (ks.getD 0 [])).length=(ks.getD 0 []).length:=by simp[ib]
    obtain⟨e1,e2⟩:=cm (xs:=ib (ks.getD 0 [])) (by omega) (dO _);rw[WN];refine⟨by simp[-List.getD_eq_getElem?_getD,b2,hin,c1,c2,e1],?_⟩;simp only[c2,e2,ocR];unfold Ve;cases Qa _<;>rfl
   ·have hn1:ks.length=2:=by simp[kd]at r1;omega
    have hin:=Cd (ks:=ks) (i:=0) (by omega) (by omega);have hin1:=Cd (ks:=ks) (i:=1) (by omega) (by omega);obtain⟨c1,c2⟩:=CZ hr0 hr1;rw[XN];refine⟨by simp[-List.getD_eq_getElem?_getD,b2,hin,hin1,c1],?_⟩;simp[-List.getD_eq_getElem?_getD,c2,ocR]
   ·have hn1:ks.length=1:=by simp[kd]at r1;omega
    have hin:=Cd (ks:=ks) (i:=0) (by omega) (by omega);simp only[kd]at r2 r3;have hM:1<=M/\M<=3:=by simpa using And.intro r2 r3
    obtain⟨c1,c2⟩:=O0 hr0 hM;rw[YN];refine⟨by simp[-List.getD_eq_getElem?_getD,b2,hin,c1],?_⟩;simp[-List.getD_eq_getElem?_getD,c2,ocR]
   ·exfalso
    simp[kd,g1,g2,g3,g4,g5,g6]at r1
theorem Y0{ins:List (List Row)}(hlen:ins.length=2)(hins:∀a∈ins,Qa a=true):∀ (d n:Nat),d<=n->∀p:Plan,okM d p=true->(oc n).2 p ins/\∃o,(oc n).1 p ins=(o,(Ob d ins p).isSome,())/\∀x,Ob d ins p=some x->o=x:=by
 intro d
 induction d with
 |zero=>intro n _ p h;cases h
 |succ d ih=>
  intro n hn p hp;obtain⟨m,rfl⟩ : ∃m,n=m+1:=⟨n - 1,by omega⟩;obtain⟨hkl,hk⟩:=cO hp
  have k:∃q,ia (λs:List LR×Int=>ca (Vj (oc m).1 (oc m).2 ins p.Kind p.Num p.Kids s.1 s.2)) (λs=>eo (oc m).1 (oc m).2 ins p.Kind p.Num p.Kids s.1 s.2) ([],0) q/\q=Df (Nb (Ob d ins) p.Kids):=by
   refine ia.list p.Kids (λi b=>(b,(i:Int))) (λl b=>Nb (Ob d ins) l=some b) (b0:=[]) rfl rfl (λl x r b hx hI=>?_) (λb hI=>?_)
   ·have hrd:rd .plan p.Kids (l.length:Int)=x:=by rw[hx];exact Za
    have hin:inb (l.length:Int) (aa .plan p.Kids):=by rw[hx];exact Ta (t:=.plan)
    have hlss:cmp .lss (l.length:Int) (aa .plan p.Kids)=true:=by rw[hx];exact fb
    have hlen2:p.Kids.length=l.length+(r.length+1):=by rw[hx];simp
    have hbl:=Xl hI;obtain⟨i1,o,i2,i3⟩:=ih m (by omega) x (hk x (by rw[hx];simp));have hlim:∀y,lim (aa .lrow b) (aa .lrow [y]):=λy=>Wb (t:=.lrow) (show b.length<1099511627776 by omega);have hall:=Wl (Ob d ins) l (x::r);have hall1:=Wl (Ob d ins) l [x];simp only[eo,Vj,ao,Tr.val,Tr.ob,fa,hlss,hrd,dg,i2,Ua (l:=l) (by omega)];rw[hI]at hall hall1;cases hf:Ob d ins x with
    |none=>
     simp only[Nb,hf]at hall;exact⟨by simp[-List.getD_eq_getElem?_getD,hin,i1],.inr ⟨_,by simp[ca];rfl,by rw[hx,hall];rfl⟩⟩
    |some y=>
     simp only[Nb,hf]at hall1;rw[i3 y hf];exact⟨by simp[-List.getD_eq_getElem?_getD,hin,i1,hlim],.inl ⟨b++[y],by simp[ca],hall1⟩⟩
   ·have hend:cmp .lss (p.Kids.length:Int) (aa .plan p.Kids)=false:=gb (t:=.plan);simp only[eo,Vj,ao,Tr.val,Tr.ob,fa,hend];exact⟨by simp,_,rfl,by rw[hI];rfl⟩
  obtain⟨q,kq,rfl⟩:=k;have a2:dS (oc m).1 (oc m).2 ins p.Kind p.Num p.Kids=Df (Nb (Ob d ins) p.Kids):=kq.v;have b2:eS (oc m).1 (oc m).2 ins p.Kind p.Num p.Kids:=kq.t;have hroot:Md p=true:=by simp only[okM,Bool.and_eq_true]at hp;exact hp.1
  simp only[Md,decide_eq_true_eq]at hroot;obtain⟨r1,r2,r3⟩:=hroot;simp only[oc,Uw,Tw,Sw,Mw,iS,fS,Lw,Kw,lpS,Tr.val,Tr.ob,fa,a2,Ob];cases hA:Nb (Ob d ins) p.Kids with
  |none=>exact⟨by simp[Df,b2],[],by simp[Df,ocR],λx hx=>by cases hx⟩
  |some ks=>
   have hkb:∀x∈ks,Qa x=true:=λx hx=>by
    obtain⟨q,_,hq⟩:=vD hA x hx;exact wD hq
   have hkn:=Xl hA;have h0:=Vi hkb 0;have h1:=Vi hkb 1;have hr0:=bg h0;have hr1:=bg h1;have hl0:=(Bb hr0).1;have hl1:=(Bb hr1).1;have hi0:∀x∈ks.getD 0 [],InR x.Diff:=λx hx=>Zf ((Bb hr0).2 x hx);have hi1:∀x∈ks.getD 1 [],InR x.Diff:=λx hx=>Zf ((Bb hr1).2 x hx);obtain⟨K,M,kids⟩:=p;simp only at r1 r2 r3 b2 a2 hA hkn⊢
   have key:(eH (oc m).1 (oc m).2 ins K M kids ks/\dH (oc m).1 (oc m).2 ins K M kids ks=.n (opR K M ks ins))/\(opR K M ks ins).length<1000000000:=by
    simp only[eH,dH,Pw,Ow,kS,jS,Nw,Tr.val,Tr.ob,fa,Db,rd0,rd1,List.nil_append];rcases Cr K with rfl|rfl|rfl|rfl|rfl|rfl|⟨g1,g2,g3,g4,g5,g6⟩
    ·simp only[kd]at r1 r2 r3;have hM:0<=M/\M<=1:=by simpa using And.intro r2 r3
     have hrd:rd .lrow ins M=ins.getD M.toNat []:=rfl;have hb:=Vi hins M.toNat;have hlM:=(Bb (bg hb)).1;have hin:=Cd (ks:=ins) hM.1 (by omega);have hlim:lim (aa .row []) (aa .row (ins.getD M.toNat [])):=by simp only[lim,aa,List.length_nil];omega
     rw[SN];exact⟨⟨by simp only[hrd];simp[-List.getD_eq_getElem?_getD,hin];exact hlim,by simp[-List.getD_eq_getElem?_getD,hrd]⟩,by omega⟩
    ·have hn1:ks.length=1:=by simp[kd]at r1;omega
     have hin:=Cd (ks:=ks) (i:=0) (by omega) (by omega);simp only[kd]at r2 r3;have hM:1<=M/\M<=7:=by simpa using And.intro r2 r3
     obtain⟨c1,c2⟩:=yZ hr0 hM;have hgl:=Ql (GD (h:=M) hi0);have hel:=Ti M (ks.getD 0 []);rw[UN];exact⟨⟨by simp only[];simp[-List.getD_eq_getElem?_getD,hin,c1],by simp[-List.getD_eq_getElem?_getD,c2]⟩,by omega⟩
    ·have hn1:ks.length=2:=by simp[kd]at r1;omega
     have hin:=Cd (ks:=ks) (i:=0) (by omega) (by omega);have hin1:=Cd (ks:=ks) (i:=1) (by omega) (by omega);have hap:∀x∈ks.getD 0 []++ks.getD 1 [],InR x.Diff:=λx hx=>(List.mem_append.1 hx).elim (hi0 x) (hi1 x);obtain⟨e1,e2⟩:=Mh (ks.getD 0 []++ks.getD 1 []) (by rw[List.length_append];omega) hap;have hgl:=Ql hap;rw[List.length_append]at hgl;have hlim:lim (aa .row []) (aa .row (ks.getD 0 [])):=by simp only[lim,aa,List.length_nil];omega
     have hlim2:lim (aa .row (ks.getD 0 [])) (aa .row (ks.getD 1 [])):=qr (t:=.row) (by omega);rw[VN];exact⟨⟨by simp[-List.getD_eq_getElem?_getD,hin,hin1,hlim,hlim2,e1],by simp[-List.getD_eq_getElem?_getD,e2]⟩,by omega⟩
    ·have hn1:ks.length=1:=by simp[kd]at r1;omega
     have hin:=Cd (ks:=ks) (i:=0) (by omega) (by omega);obtain⟨c1,c2⟩:=LZ h0;have hnl:(ib (ks.getD 0 [])).length=(ks.getD 0 []).length:=by simp[ib]
     rw[WN,AN (CN h0)];exact⟨⟨by simp[-List.getD_eq_getElem?_getD,hin,c1],by simp[-List.getD_eq_getElem?_getD,c2]⟩,by omega⟩
    ·have hn1:ks.length=2:=by simp[kd]at r1;omega
     have hin:=Cd (ks:=ks) (i:=0) (by omega) (by omega);have hin1:=Cd (ks:=ks) (i:=1) (by omega) (by omega);obtain⟨c1,c2⟩:=DZ hr0 hr1;have hgl:=Ql λx hx=>(Dr (Bb hr0).2 (Bb hr1).2 x hx).1;have hjl:=dm hl0 hl1;rw[XN];exact⟨⟨by simp[-List.getD_eq_getElem?_getD,hin,hin1,c1],by simp[-List.getD_eq_getElem?_getD,c2]⟩,by omega⟩
    ·have hn1:ks.length=1:=by simp[kd]at r1;omega
     have hin:=Cd (ks:=ks) (i:=0) (by omega) (by omega);simp only[kd]at r2 r3;have hM:1<=M/\M<=3:=by simpa using And.intro r2 r3
     obtain⟨c1,c2⟩:=U0 hr0 hM;obtain⟨s1,s2⟩:=AD (kind:=M) (Bb hr0).2;have hgl:=Ql λx hx=>(s1 x hx).1;rw[YN];exact⟨⟨by simp[-List.getD_eq_getElem?_getD,hin,c1],by simp[-List.getD_eq_getElem?_getD,c2]⟩,by omega⟩
    ·exfalso
     simp[kd,g1,g2,g3,g4,g5,g6]at r1
   obtain⟨⟨c1,c2⟩,c3⟩:=key;obtain⟨f1,f2⟩:=yr (opR K M ks ins) c3;simp only[Df,Qw,c2,f2];refine⟨by simp[b2,c1,c2,f1],opR K M ks ins,?_,?_⟩
   .cases hb:Qa (opR K M ks ins)<;>simp[ocR]
   ·intro x hx;split at hx
    .simpa using hx
    .cases hx
def We(p:Plan)(ins:List (List Row)):Option (List Row):=if okM 4 p=true/\ins.length=2/\ins.all Qa=true then Ob 4 ins p else none
theorem Z0(p:Plan)(ins:List (List Row))(hl:ins.length<1000000)(hl2:∀a∈ins,a.length<1000000000):Kp p ins/\Jp p ins=zc (We p ins):=by
 obtain⟨p1,p2⟩:=L1 p
 have k:ia (λs:Int=>ca (Nk ins p.Kind p.Num p.Kids (aa .lrow ins) s)) (λs=>Ip ins p.Kind p.Num p.Kids (aa .lrow ins) s) 0 (if Sb (λ_ x=>!Qa x) none ins=true then .x () else .r ([],false,())):=by
  refine ia.scan ins _ (λl x r hx=>?_) ?_
  ·have hlen:ins.length=l.length+(r.length+1):=by rw[hx];simp
   have hrd:rd .lrow ins (l.length:Int)=x:=by rw[hx];exact Za
   have hin:inb (l.length:Int) (aa .lrow ins):=by rw[hx];exact Ta (t:=.lrow)
   have hlss:cmp .lss (l.length:Int) (aa .lrow ins)=true:=by rw[hx];exact fb
   obtain⟨b1,b2⟩:=vr x (hl2 x (by rw[hx];simp));simp only[Ip,Nk,Hp,Tr.val,Tr.ob,fa,hlss,hrd,b2,Ua (l:=l) (by omega)];refine⟨by simp[hin,b1],?_⟩;cases Qa x<;>rfl
  ·have hend:cmp .lss (ins.length:Int) (aa .lrow ins)=false:=gb (t:=.lrow);simp only[Ip,Nk,Hp,Tr.val,Tr.ob,fa,hend];exact⟨by simp,rfl⟩
 have a2:YU ins p.Kind p.Num p.Kids (aa .lrow ins)=_:=k.v;have b2:ZU ins p.Kind p.Num p.Kids (aa .lrow ins):=k.t;rw[cg]at a2;simp only[Kp,Jp,GJ,FJ,pA,oA,bV,aV,nA,mA,lpS,Tr.val,Tr.ob,fa,dg,p2,Ae,a2];unfold We;have hne:decide (aa .lrow ins=2)=decide (ins.length=2):=decide_eq_decide.2 (by unfold aa;omega);rw[hne];cases h1:okM 4 p with
 |false=>exact⟨by simp[p1],by simp[ocR,zc]⟩
 |true=>
  by_cases h2:ins.length=2
  ·cases h3:ins.all Qa with
   |false=>exact⟨by simp[p1,h2,b2],by simp[ocR,zc,h2]⟩
   |true=>
    have hins:∀a∈ins,Qa a=true:=List.all_eq_true.1 h3;obtain⟨f1,f2⟩:=X0 h2 hins 4 Pc (by decide) p h1;have f1:BJ p ins:=f1;have f2:AJ p ins=zc (Ob 4 ins p):=f2;exact⟨by simp[p1,h2,b2,f1],by simp[ocR,h2,f2]⟩
  .exact⟨by simp[p1,h2],by simp[ocR,zc,h2]⟩
theorem C1(p:Plan)(ins:List (List Row))(hl:ins.length<1000000)(hl2:∀a∈ins,a.length<1000000000):po p ins/\mo p ins=zc (We p ins):=by
 obtain⟨p1,p2⟩:=R1 p
 have k:ia (λs:Int=>ca (Wj ins p.Kind p.Num p.Kids s)) (λs=>ko ins p.Kind p.Num p.Kids s) 0 (if Sb (λ_ x=>!Qa x) none ins=true then .x () else .r ([],false,())):=by
  refine ia.scan ins _ (λl x r hx=>?_) ?_
  ·have hlen:ins.length=l.length+(r.length+1):=by rw[hx];simp
   have hrd:rd .lrow ins (l.length:Int)=x:=by rw[hx];exact Za
   have hin:inb (l.length:Int) (aa .lrow ins):=by rw[hx];exact Ta (t:=.lrow)
   have hlss:cmp .lss (l.length:Int) (aa .lrow ins)=true:=by rw[hx];exact fb
   obtain⟨b1,b2⟩:=yr x (hl2 x (by rw[hx];simp));simp only[ko,Wj,jo,Tr.val,Tr.ob,fa,hlss,hrd,b2,Ua (l:=l) (by omega)];refine⟨by simp[hin,b1],?_⟩;cases Qa x<;>rfl
  ·have hend:cmp .lss (ins.length:Int) (aa .lrow ins)=false:=gb (t:=.lrow);simp only[ko,Wj,jo,Tr.val,Tr.ob,fa,hend];exact⟨by simp,rfl⟩
 have a2:mS ins p.Kind p.Num p.Kids=_:=k.v;have b2:nS ins p.Kind p.Num p.Kids:=k.t;rw[cg]at a2;simp only[po,mo,lH,kH,Zw,Yw,pS,oS,Xw,Ww,lpS,Tr.val,Tr.ob,fa,dg,p2,Ae,a2];unfold We;have hne:decide (aa .lrow ins=2)=decide (ins.length=2):=decide_eq_decide.2 (by unfold aa;omega);rw[hne];cases h1:okM 4 p with
 |false=>exact⟨by simp[p1],by simp[ocR,zc]⟩
 |true=>
  by_cases h2:ins.length=2
  ·cases h3:ins.all Qa with
   |false=>exact⟨by simp[p1,h2,b2],by simp[ocR,zc,h2]⟩
   |true=>
    have hins:∀a∈ins,Qa a=true:=List.all_eq_true.1 h3;obtain⟨f1,o,f2,f3⟩:=Y0 h2 hins 4 Pc (by decide) p h1;have f1:gH p ins:=f1;have f2:fH p ins=(o,(Ob 4 ins p).isSome,()):=f2;cases hF:Ob 4 ins p with
    |none=>
     rw[hF]at f2;exact⟨by simp[p1,h2,b2,f1,f2],by simp[ocR,h2,f2,zc]⟩
    |some x=>
     rw[hF]at f2;rw[f3 x hF]at f2;exact⟨by simp[p1,h2,b2,f1,f2],by simp[ocR,h2,f2,zc]⟩
  .exact⟨by simp[p1,h2],by simp[ocR,zc,h2]⟩
end Go.Proofs.YthfkpijcajdnhaaGreat

namespace Go.Proofs.YthfkpijcajdnhaaGreat
open Go
def Bd:Nat->Int
 |0=>2
 |d+1=>2*Bd d+4
theorem qN:∀d,2<=Bd d
 |0=>Int.le_refl _
 |d+1=>by have:=qN d;simp only[Bd];omega
theorem pZ{b:List Int}(hb:Be b):∀ (d n:Nat),d<n->d<=4->∀p:Int,0<=p/\p+Bd d<=500000 ->
  (md n).2 (b,p) d/\p<=((md n).1 (b,p) d).2/\((md n).1 (b,p) d).2<=p+Bd d:=by
 intro d
 induction d with
 |zero=>
  intro n hn _ p hp;obtain⟨m,rfl⟩ : ∃m,n=m+1:=⟨n - 1,by omega⟩;have hB:Bd 0=2:=rfl;obtain⟨x1,x2,_,_⟩:=bc hb (p:=p) (n:=2) (by omega) (by omega);have hl:cmp .lss ((0:Nat):Int) 2=true:=rfl;simp only[md,jm,im,gm,Tr.val,Tr.ob,fa,hl,cond_true,Bool.not_true,Bool.false_and,cond_false,ocR,x2];exact⟨by simp[x1],by omega,by omega⟩
 |succ d ih=>
  intro n hn hd p hp;obtain⟨m,rfl⟩ : ∃m,n=m+1:=⟨n - 1,by omega⟩;have hBp:=qN d;have hB:Bd (d+1)=2*Bd d+4:=rfl;generalize hD:((d+1:Nat):Int)=D;have hsub:ar .sub .i64 D 1=(d:Int):=by rw[Ng (by omega)];omega
  obtain⟨x1,x2,_,_⟩:=bc hb (p:=p) (n:=6) (by omega) (by omega)
  have hP:p<=cond ((!(cmp .lss D 2))&&true) (ua (b,p) 6).2 p/\cond ((!(cmp .lss D 2))&&true) (ua (b,p) 6).2 p<=p+1:=by
   rw[x2];cases cmp .lss D 2<;>simp<;>omega
  simp only[md,jm,im,gm,Tr.val,Tr.ob,fa,hsub];generalize cond ((!(cmp .lss D 2))&&true) (ua (b,p) 6).2 p=P at hP⊢;obtain⟨y1,y2,_,_⟩:=bc hb (p:=P) (n:=2) (by omega) (by omega);obtain⟨z1,z2,_,_⟩:=bc hb (p:=P) (n:=6) (by omega) (by omega);obtain⟨u1,u2,_,_⟩:=bc hb (p:=P+1) (n:=7) (by omega) (by omega);obtain⟨w1,w2,_,_⟩:=bc hb (p:=P+1) (n:=3) (by omega) (by omega)
  have R:∀q,P+1<=q->q<=P+2+Bd d->(md m).2 (b,q) d/\q<=((md m).1 (b,q) d).2/\((md m).1 (b,q) d).2<=q+Bd d:=λq h1 h2=>ih m (by omega) (by omega) q (by omega)
  obtain⟨r1,r2,r3⟩:=R (P+1) (by omega) (by omega);obtain⟨s1,s2,s3⟩:=R (P+1+1) (by omega) (by omega);obtain⟨t1,t2,t3⟩:=R ((md m).1 (b,P+1) d).2 (by omega) (by omega);simp only[z2,u2,w2,y2];cases cond (cmp .lss D 2) true (cmp .eql (ua (b,p) 6).1 0) with
  |true=>exact⟨by simp[x1,y1],by simp only[ocR];omega,by simp only[ocR];omega⟩
  |false=>
   cases cmp .eql (ua (b,P) 6).1 0 with
   |true=>exact⟨by simp[x1,z1,u1,s1],by simp only[ocR];omega,by simp only[ocR];omega⟩
   |false=>
    cases cmp .eql (ua (b,P) 6).1 1 with
    |true=>exact⟨by simp[x1,z1,r1,t1],by simp only[ocR];omega,by simp only[ocR];omega⟩
    |false=>
     cases cmp .eql (ua (b,P) 6).1 2 with
     |true=>exact⟨by simp[x1,z1,r1],by simp only[ocR];omega,by simp only[ocR];omega⟩
     |false=>
      cases cmp .eql (ua (b,P) 6).1 3 with
      |true=>exact⟨by simp[x1,z1,r1,t1],by simp only[ocR];omega,by simp only[ocR];omega⟩
      |false=>exact⟨by simp[x1,z1,w1,s1],by simp only[ocR];omega,by simp only[ocR];omega⟩
theorem qZ{b:List Int}(hb:Be b):lm (b,0)/\0<=(Xe (b,0)).2/\(Xe (b,0)).2<=100:=by
 obtain⟨a1,a2,a3⟩:=pZ hb 4 Pc (by decide) (by decide) 0 (by decide);have hB:Bd 4=92:=rfl;have a1:UD (b,0) 4:=a1;have a2:0<=(km (b,0) 4).2:=a2;have a3:(km (b,0) 4).2<=0+Bd 4:=a3;generalize hq:km (b,0) 4=q at a2 a3;obtain⟨x1,x2,_,_⟩:=bc hb (p:=q.2) (n:=24) (by omega) (by omega);obtain⟨y1,y2,_,_⟩:=bc hb (p:=q.2+1) (n:=9) (by omega) (by omega)
 have k:∀x y z,XD b q.2 x y z/\((∃r u v,Lr b q.2 x y z=.n (r,u,v)/\0<=r/\r<=100)\/∃P r,Lr b q.2 x y z=.r (P,r)/\0<=r/\r<=100):=λx y z=>by
  simp only[XD,Lr,Kr,Tr.val,Tr.ob,fa,x2,y2];refine⟨by simp[x1,y1],?_⟩;cases cmp .eql (ua (b,q.2) 24).1 0 with
  |true=>exact .inl ⟨_,_,_,rfl,by omega,by omega⟩
  |false=>
   cases cmp .eql (ua (b,q.2) 24).1 1 with
   |true=>exact .inl ⟨_,_,_,rfl,by omega,by omega⟩
   |false=>
    cases cmp .eql (ua (b,q.2) 24).1 2 with
    |true=>exact .inr ⟨_,_,rfl,by omega,by omega⟩
    |false=>
     cases cmp .eql (ua (b,q.2) 24).1 3 with
     |true=>exact .inr ⟨_,_,rfl,by omega,by omega⟩
     |false=>exact .inl ⟨_,_,_,rfl,by omega,by omega⟩
 obtain⟨k1,k2⟩:=k q.1.Kind q.1.Num q.1.Kids;simp only[lm,Xe,ZD,YD,Nr,Mr,Tr.val,Tr.ob,fa,hq];rcases k2 with⟨r,u,v,e,h1,h2⟩|⟨P,r,e,h1,h2⟩
 .exact⟨by simp[a1,k1,e],by simp only[e,ocR];omega,by simp only[e,ocR];omega⟩
 .exact⟨by simp[a1,k1,e],by simp only[e,ocR];omega,by simp only[e,ocR];omega⟩
theorem rZ{xs:List Row}(hl:xs.length<=100)(hd:∀x∈xs,-3<=x.Diff/\x.Diff<=3):Ct xs/\(Bt xs).length<=xs.length:=by
 obtain⟨r1,r2⟩:=bm xs (by omega);have hi:∀x∈xs,InR x.Diff:=λx hx=>by have:=hd x hx;unfold InR;omega
 obtain⟨s1,s2⟩:=Mh xs (by omega) hi;have hl2:=rD hi;obtain⟨b1,b2⟩:=yr (ab xs) (by omega)
 have hfp:ai (ab xs):=by
  simp only[ai,wt,lj,Tr.ob,fa];simp[b1]
 have hfv:Zh (ab xs)=if Qa (ab xs)=true then ab xs else []:=by
  simp only[Zh,vt,lj,Tr.val,b2];cases Qa (ab xs)<;>rfl
 simp only[Ct,Bt,WE,VE,zt,Tr.val,Tr.ob,fa,r2,s2,hfv];refine⟨by simp[r1,s1,hfp],?_⟩;cases Ib xs with
 |false=>exact Nat.zero_le _
 |true=>
  show (if Qa (ab xs)=true then ab xs else []).length<=_;split
  .exact hl2
  .exact Nat.zero_le _
theorem rN{b:List Int}(hb:Be b){p m:Int}(hp:0<=p/\p<=500000)(hm:0<=m/\m<=8) :
  bi (b,p) m/\p<=(Ic (b,p) m).2/\(Ic (b,p) m).2<=p+1+9*m/\(Ic (b,p) m).1.length<=8:=by
 obtain⟨a1,a2,a3,a4,a5⟩:=VM hb hp (show 0<=m/\m<=100 by omega);obtain⟨c1,c2⟩:=rZ (xs:=(Ff (b,p) m).1) (by omega) a5;simp only[bi,Ic,ZE,YE,Dt,Tr.val,Tr.ob,fa,ocR];exact⟨by simp[a1,c1],a2,a3,by omega⟩
theorem sZ{b:List Int}(hb:Be b){p:Int}(hp:0<=p/\p<=700000){xs:List Row}(hl:xs.length<=100) :
  Lt (b,p) xs/\p<=(mj (b,p) xs).2/\(mj (b,p) xs).2<=p+10/\∃x:Row,(mj (b,p) xs).1=xs++[x]/\((-3<=x.Diff/\x.Diff<=3)\/x.Diff=100000\/x.Diff=-100000):=by
 obtain⟨a1,a2,a3,a4⟩:=OM hb (p:=p) (by omega);generalize hR:Ye (b,p)=R at a2 a3 a4;obtain⟨c1,c2,c3,c4⟩:=bc hb (p:=R.2) (n:=5) (by omega) (by omega);obtain⟨d1,d2,d3,d4⟩:=bc hb (p:=R.2+1) (n:=2) (by omega) (by omega);have hin:∀u v:Int,inb (ua (b,R.2+1) 2).1 (aa .int [u,v]):=λu v=>⟨d3,d4⟩
 have key:eF b R.2 xs R.1/\∃q k v s t d,dF b R.2 xs R.1=.n (q,k,v,s,t,d)/\R.2<=q/\q<=R.2+3/\((-3<=d/\d<=3)\/d=100000\/d=-100000):=by
  simp only[eF,dF,Ft,Tr.val,Tr.ob,fa,c2,Db];generalize (ua (b,R.2) 5).1=i at c3 c4;have hi:i=0\/i=1\/i=2\/i=3\/i=4:=by omega
  rcases hi with rfl|rfl|rfl|rfl|rfl
  .exact⟨by simp[c1,d1,hin],_,_,_,_,_,_,rfl,by omega,by omega,.inl ⟨a3,a4⟩⟩
  .exact⟨by simp[c1,d1,hin],_,_,_,_,_,_,rfl,by omega,by omega,.inl ⟨a3,a4⟩⟩
  .exact⟨by simp[c1],_,_,_,_,_,_,rfl,by omega,by omega,.inl ⟨a3,a4⟩⟩
  ·refine⟨by simp[c1,d1,hin],_,_,_,_,_,_,rfl,by omega,by omega,?_⟩;generalize (ua (b,R.2+1) 2).1=j at d3 d4;have hj:j=0\/j=1:=by omega
   rcases hj with rfl|rfl
   .exact .inr (.inr rfl)
   .exact .inr (.inl rfl)
  .exact⟨by simp[c1],_,_,_,_,_,_,rfl,by omega,by omega,.inl ⟨a3,a4⟩⟩
 obtain⟨k1,q,k,v,s,t,d,k2,k3,k4,k5⟩:=key;have l1:lim (aa .row []) (aa .row xs):=qr (t:=.row) (o:=[]) (u:=xs) (by simp;omega);have l2:∀y,lim (aa .row xs) (aa .row [y]):=λy=>Wb (t:=.row) (show xs.length<1099511627776 by omega);simp only[Lt,mj,gF,fF,Kt,Gt,Jt,rP,qP,It,Tr.val,Tr.ob,fa,hR,k2,List.nil_append,ocR];exact⟨by simp[a1,k1,l1,l2],by omega,by omega,_,rfl,k5⟩
structure Few(a:List Row):Prop where
 len:a.length<=20
 big:∀x∈a,-100000<=x.Diff/\x.Diff<=100000
theorem tZ{b:List Int}(hb:Be b){p:Int}(hp:0<=p/\p<=400000) :
  ci (b,p)/\p<=(Dd (b,p)).2/\(Dd (b,p)).2<=p+200/\Few (Dd (b,p)).1:=by
 obtain⟨a1,a2,a3,a4,a5⟩:=VM hb (p:=p) (m:=10) (by omega) (by omega);generalize hR:Ff (b,p) 10=R at a2 a3 a4 a5;obtain⟨c1,c2,c3,c4⟩:=bc hb (p:=R.2) (n:=14) (by omega) (by omega);obtain⟨d1,d2,d3,x,d4,d5⟩:=sZ hb (p:=R.2+1) (by omega) (xs:=R.1) (by omega);simp only[ci,Dd,kF,jF,Mt,Tr.val,Tr.ob,fa,hR,c2];cases hc:cmp .eql (ua (b,R.2) 14).1 0 with
 |true=>
  simp only[ocR,d4];refine⟨by simp[a1,c1,d1],by omega,by omega,⟨by simp;omega,λy hy=>?_⟩⟩;rcases List.mem_append.1 hy with h|h
  .have:=a5 y h;omega
  .simp at h;subst h;omega
 |false=>
  simp only[ocR];exact⟨by simp[a1,c1],by omega,by omega,⟨by omega,λy hy=>by have:=a5 y hy;omega⟩⟩
theorem uZ{c:List Int}(hc:∀x∈c,0<=x/\x<=255):nj c/\∃p ins,Wg c=(p,ins,())/\ins.length<=2/\∀a∈ins,a.length<=20:=by
 obtain⟨o1,b,o2,hb⟩:=TY hc;obtain⟨a1,a2,a3⟩:=qZ hb;simp only[nj,Wg,o2];generalize Xe (b,0)=P at a2 a3;obtain⟨x1,x2,x3,x4⟩:=rN hb (p:=P.2) (m:=5) (by omega) (by omega);generalize Ic (b,P.2) 5=X at x2 x3 x4;obtain⟨y1,y2,y3,y4⟩:=rN hb (p:=X.2) (m:=5) (by omega) (by omega);generalize Ic (b,X.2) 5=Y at y2 y3 y4;obtain⟨e1,e2,_,_⟩:=bc hb (p:=Y.2) (n:=30) (by omega) (by omega);obtain⟨f1,f2,_,_⟩:=bc hb (p:=Y.2+1) (n:=30) (by omega) (by omega);obtain⟨g1,g2,g3,g4⟩:=tZ hb (p:=Y.2+1+1) (by omega);simp only[e2,f2];generalize (Dd (b,Y.2+1+1)).1=Z at g4;have g5:=g4.len;refine⟨⟨o1,a1,x1,y1,e1,f1,λ_=>g1⟩,_,_,rfl,?_,?_⟩
 .cases cmp .eql (ua (b,Y.2) 30).1 0<;>cases cmp .eql (ua (b,Y.2+1) 30).1 0<;>simp
 .cases cmp .eql (ua (b,Y.2) 30).1 0<;>cases cmp .eql (ua (b,Y.2+1) 30).1 0<;>simp<;>omega
end Go.Proofs.YthfkpijcajdnhaaGreat

namespace Go.Proofs.YthfkpijcajdnhaaGreat
open Go
structure D1(c:List Int)(p:Plan)(ins:List (List Row)):Prop where
 d1:nj c
 d2:Wg c=(p,ins,())
 len:ins.length<=2
 each:∀a∈ins,a.length<=20
 s1:po p ins
 s2:mo p ins=zc (We p ins)
 i1:Kp p ins
 i2:Jp p ins=zc (We p ins)
theorem F1{c:List Int}(hc:∀x∈c,0<=x/\x<=255):∃p ins,D1 c p ins:=by
 obtain⟨d1,p,ins,d2,hl,he⟩:=uZ hc;have h2:∀a∈ins,a.length<1000000000:=λa ha=>by have:=he a ha;omega
 obtain⟨s1,s2⟩:=C1 p ins (by omega) h2;obtain⟨i1,i2⟩:=Z0 p ins (by omega) h2;exact⟨p,ins,d1,d2,hl,he,s1,s2,i1,i2⟩
structure ZN(p:Plan)(ins:List (List Row))(x:List Row):Prop where
 ok:okM 4 p=true
 len:ins.length=2
 every:∀a∈ins,Qa a=true
 flow:Ob 4 ins p=some x
 batch:Qa x=true
 short:x.length<=400
theorem G1{p:Plan}{ins:List (List Row)}{x:List Row}(h:We p ins=some x):ZN p ins x:=by
 unfold We at h;split at h
 ·rename_i h1;have hb:=wD h;exact⟨h1.1,h1.2.1,List.all_eq_true.1 h1.2.2,h,hb,(Bb (bg hb)).1⟩
 .cases h
theorem ZN.of{p:Plan}{ins:List (List Row)}{x:List Row}(h1:okM 4 p=true)(h2:ins.length=2)(h3:∀a∈ins,Qa a=true)(h4:Ob 4 ins p=some x):We p ins=some x:=by
 unfold We;rw[if_pos ⟨h1,h2,List.all_eq_true.2 h3⟩,h4]
theorem eah(c:List Int)(hc:∀x∈c,0<=x/\x<=255):wA c/\vA c=true:=by
 by_cases hbig:cmp .gtr (aa .byte c) 1048576=true
 ·simp only[wA,vA,uA,tA,hbig,ocR,Sp,Tr.val,Tr.ob,fa];exact⟨by simp,trivial⟩
 ·have hbig:cmp .gtr (aa .byte c) 1048576=false:=by simpa using hbig
  obtain⟨p,ins,h⟩:=F1 hc;simp only[wA,vA,uA,tA,Sp,Tr.val,Tr.ob,fa,hbig,h.d2,dg,h.s2,h.i2];cases hF:We p ins with
  |none=>
   have l1:=oN [] [] (by simp);have l2:=pN [] (by simp);obtain⟨b1,b2⟩:=vr [] (by simp);have e:cmp .eql (aa .row []) 0=true:=rfl;have e2:Qa []=true:=rfl;simp only[zc,l2,b2,e,e2,ocR];exact⟨by simp[h.d1,h.s1,h.i1,l1,b1],by simp⟩
  |some x=>
   have f:=G1 hF;have hs:=f.short;have l1:=oN x x (by omega);have l2:=pN x (by omega);obtain⟨b1,b2⟩:=vr x (by omega);simp only[zc,l2,b2,f.batch,ocR];exact⟨by simp[h.d1,h.s1,h.i1,l1,b1],by simp⟩
end Go.Proofs.YthfkpijcajdnhaaGreat

namespace Go.Proofs.YthfkpijcajdnhaaGreat
open Go Tg
def allT(n:Nat):List Time:=(List.range n).flatMap λa:Nat=>(List.range 8).map λb:Nat=>(⟨(a:Int),(b:Int)⟩ : Time)
end Go.Proofs.YthfkpijcajdnhaaGreat

namespace Go.Proofs.YthfkpijcajdnhaaGreat
open Go
theorem xa:ac Tryz.prog tt:=xl (by kernel_rfl)
theorem ya : Tryz.prog.follows .mixedOrders=true:=by kernel_rfl
theorem maf:Con Tryz.prog 35 PD:=G2 (.nil xa ya)
theorem eh:Con Tryz.prog 38 Ef:=R2 (.nil xa ya)
theorem rV:∀n,Con Tryz.prog 61 (Jr (md n).1 (md n).2)
 |0=>Fl (fn:=Tryz.f61) (c:=Jd Tryz.f61) (by kernel_rfl) (by kernel_rfl) (by kernel_rfl) λ_ h=>h
 |n+1=>Y2 (.cons eh (.cons (rV n) (.nil xa ya)))
theorem naf:Con Tryz.prog 61 lO:=(rV Pc)
theorem oaf:Con Tryz.prog 36 aE:=D3 (.cons naf (.cons eh (.nil xa ya)))
theorem paf:Con Tryz.prog 80 dE:=J3 (.cons eh (.nil xa ya))
theorem sV:Con Tryz.prog 91 Vr:=U3 (.cons eh (.cons paf (.nil xa ya)))
theorem tV:Con Tryz.prog 63 ws:=B4 (.cons eh (.cons sV (.nil xa ya)))
theorem QJ:Con Tryz.prog 53 sm:=H4 (.nil xa ya)
theorem xA:Con Tryz.prog 24 Yi:=R4 (.cons QJ (.nil xa ya))
theorem qaf:Con Tryz.prog 52 rE:=Y4 (.cons QJ (.cons xA (.nil xa ya)))
theorem Up:Con Tryz.prog 23 Th:=A5 (.cons qaf (.nil xa ya))
theorem uV:Con Tryz.prog 66 Ls:=H5 (.nil xa ya)
theorem raf:Con Tryz.prog 94 IE:=Y5 (.cons uV (.nil xa ya))
theorem ri:Con Tryz.prog 68 mg:=A6 (.cons raf (.nil xa ya))
theorem RJ:Con Tryz.prog 41 Jm:=H6 (.cons Up (.cons uV (.nil xa ya)))
theorem vV:Con Tryz.prog 90 xt:=P6 (.cons RJ (.nil xa ya))
theorem saf:Con Tryz.prog 62 XE:=V6 (.cons Up (.cons ri (.cons vV (.nil xa ya))))
theorem taf:Con Tryz.prog 37 aF:=d7 (.cons tV (.cons saf (.nil xa ya)))
theorem uaf:Con Tryz.prog 64 iF:=m7 (.cons sV (.cons eh (.nil xa ya)))
theorem vaf:Con Tryz.prog 39 lF:=B7 (.cons tV (.cons eh (.cons uaf (.nil xa ya))))
theorem waf:Con Tryz.prog 12 Nt:=Dp.con (.cons maf (.cons oaf (.cons taf (.cons eh (.cons vaf (.nil xa ya))))))
theorem xaf:Con Tryz.prog 92 rF:=L7 (.nil xa ya)
theorem wV:∀n,Con Tryz.prog 65 (Vt (Jc n).1 (Jc n).2)
 |0=>Fl (fn:=Tryz.f65) (c:=Jd Tryz.f65) (by kernel_rfl) (by kernel_rfl) (by kernel_rfl) λ_ h=>h
 |n+1=>U7 (.cons xaf (.cons QJ (.cons (wV n) (.nil xa ya))))
theorem yaf:Con Tryz.prog 65 FP:=(wV Pc)
theorem zaf:Con Tryz.prog 40 wF:=c8 (.cons yaf (.nil xa ya))
theorem Aaf:Con Tryz.prog 93 zF:=m8 (.nil xa ya)
theorem Baf:Con Tryz.prog 67 DF:=D8 (.cons Aaf (.cons ri (.nil xa ya)))
theorem Caf:Con Tryz.prog 69 IF:=L8 (.cons Up (.cons ri (.cons vV (.nil xa ya))))
theorem Daf:Con Tryz.prog 95 QF:=R8 (.nil xa ya)
theorem xV:Con Tryz.prog 96 Eu:=Y8 (.cons xA (.nil xa ya))
theorem Eaf:Con Tryz.prog 70 YF:=n9 (.cons Daf (.cons xV (.cons ri (.nil xa ya))))
theorem Faf:Con Tryz.prog 123 eG:=E9 (.nil xa ya)
theorem Gaf:Con Tryz.prog 111 oG:=daa (.cons Up (.cons Faf (.cons xV (.nil xa ya))))
theorem yV:Con Tryz.prog 89 Dv:=iaa (.cons xA (.nil xa ya))
theorem zV:Con Tryz.prog 114 Lv:=raa (.cons ri (.nil xa ya))
theorem Haf:Con Tryz.prog 113 zG:=yaa (.cons Up (.cons xA (.cons yV (.cons zV (.nil xa ya)))))
theorem Iaf:Con Tryz.prog 124 DG:=Daa (.nil xa ya)
theorem Jaf:Con Tryz.prog 112 IG:=Laa (.cons Iaf (.nil xa ya))
theorem Kaf:Con Tryz.prog 97 WG:=cab (.cons Gaf (.cons Haf (.cons Jaf (.cons yV (.cons zV (.nil xa ya))))))
theorem Laf:Con Tryz.prog 71 bH:=jab (.cons Kaf (.cons ri (.nil xa ya)))
theorem BV:∀n,Con Tryz.prog 42 (Jw (oc n).1 (oc n).2)
 |0=>Fl (fn:=Tryz.f42) (c:=Jd Tryz.f42) (by kernel_rfl) (by kernel_rfl) (by kernel_rfl) λ_ h=>h
 |n+1=>rab (.cons (BV n) (.cons Baf (.cons ri (.cons Caf (.cons Eaf (.cons Laf (.cons RJ (.nil xa ya))))))))
theorem Maf:Con Tryz.prog 42 lS:=(BV Pc)
theorem Naf:Con Tryz.prog 13 mH:=xab (.cons zaf (.cons RJ (.cons Maf (.nil xa ya))))
theorem Oaf:Con Tryz.prog 77 rH:=Cab (.nil xa ya)
theorem CV:∀n,Con Tryz.prog 46 (qx (Kc n).1 (Kc n).2)
 |0=>Fl (fn:=Tryz.f46) (c:=Jd Tryz.f46) (by kernel_rfl) (by kernel_rfl) (by kernel_rfl) λ_ h=>h
 |n+1=>Iab (.cons Oaf (.cons (CV n) (.nil xa ya)))
theorem Paf:Con Tryz.prog 46 BS:=(CV Pc)
theorem Qaf:Con Tryz.prog 17 wH:=Nab (.cons Paf (.nil xa ya))
theorem Raf:Con Tryz.prog 76 BH:=Sab (.nil xa ya)
theorem Saf:Con Tryz.prog 44 EH:=Xab (.cons Raf (.nil xa ya))
theorem DV:Con Tryz.prog 49 vo:=QS (.nil xa ya)
theorem Taf:Con Tryz.prog 45 Bo:=VS (.cons DV (.nil xa ya))
theorem SJ:Con Tryz.prog 16 Do:=mac (.cons Saf (.cons Taf (.nil xa ya)))
theorem Uaf:Con Tryz.prog 72 UH:=rac (.nil xa ya)
theorem Vaf:Con Tryz.prog 98 XH:=wac (.nil xa ya)
theorem yA:Con Tryz.prog 47 qk:=Bac (.cons con_impl_consolidated (.cons SJ (.nil xa ya)))
theorem Waf:Con Tryz.prog 73 fI:=Iac (.cons Vaf (.cons yA (.nil xa ya)))
theorem Xaf:Con Tryz.prog 54 lI:=Nac (.nil xa ya)
theorem Yaf:Con Tryz.prog 48 qI:=Tac (.nil xa ya)
theorem Zaf:Con Tryz.prog 99 uI:=Yac (.nil xa ya)
theorem aag:Con Tryz.prog 25 Lo:=uT (.cons DV (.nil xa ya))
theorem bag:Con Tryz.prog 74 BI:=oad (.cons Zaf (.cons aag (.cons yA (.nil xa ya))))
theorem cag:Con Tryz.prog 55 GI:=tad (.nil xa ya)
theorem dag:Con Tryz.prog 50 PI:=Aad (.cons cag (.cons CM (.nil xa ya)))
theorem eag:Con Tryz.prog 105 WI:=Lad (.nil xa ya)
theorem EV:Con Tryz.prog 106 oz:=Sad (.nil xa ya)
theorem fag:Con Tryz.prog 107 gJ:=Zad (.cons EV (.nil xa ya))
theorem gag:Con Tryz.prog 85 kJ:=eae (.cons eag (.cons EV (.cons fag (.nil xa ya))))
theorem iag:Con Tryz.prog 75 xJ:=zae (.cons Xag (.cons dag (.cons gag (.cons CM (.cons yA (.nil xa ya))))))
theorem FV:∀n,Con Tryz.prog 43 (bA (Vc n).1 (Vc n).2)
 |0=>Fl (fn:=Tryz.f43) (c:=Jd Tryz.f43) (by kernel_rfl) (by kernel_rfl) (by kernel_rfl) λ_ h=>h
 |n+1=>Fae (.cons (FV n) (.cons Uaf (.cons Waf (.cons Xaf (.cons yA (.cons Yaf (.cons bag (.cons iag (.nil xa ya)))))))))
theorem jag:Con Tryz.prog 43 XU:=(FV Pc)
theorem kag:Con Tryz.prog 14 HJ:=Lae (.cons Qaf (.cons SJ (.cons jag (.nil xa ya))))
theorem lag:Con Tryz.prog 15 NJ:=Rae (.nil xa ya)
theorem fah:Con Tryz.prog 3 iV:=Uae (.cons waf (.cons Naf (.cons kag (.cons lag (.cons SJ (.nil xa ya))))))
end Go.Proofs.YthfkpijcajdnhaaGreat
