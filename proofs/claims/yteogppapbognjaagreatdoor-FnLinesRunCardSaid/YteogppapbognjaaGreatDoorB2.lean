/-
  Rows, batches, and what they come to at a time: what the program's functions and the reference's compute. What operators make of changes sums up, at each time, to what they make of the sums. Batches mapped, filtered and joined: the program's functions and the reference's. No statement is proved here.
-/
import Derived.Test.YteogppapbognjaaGreatDoorB1
namespace Go.Proofs.YteogppapbognjaaGreatDoor
open Go
open Go.Proofs.YteogppapbognjaaGreatDoor.Tr renaming val→aal,ob→aam
open _root_.List renaming getD_eq_getElem?_getD→aan,length_append→aao,length_cons→aap,mem_append→aas,length_filter_le→aav,length_replicate→aaw,range→aax,length_nil→aay,length_singleton→aaz,length_map→aaA,getElem?_eq_getElem→aaD,all_eq_true→aaF,cons_append→aaI,flatMap_append→aaJ,foldl_append→aaK,mem_cons→aaL,mem_filter→aaM,nil_append→aaN,mem_map→aaP,filter_append→aaR,replicate→aaT,append_nil→aaU,flatMap_singleton→aaV,take_succ_eq_append_getElem→aaW,length→aaY,map_append→aba,flatMap_cons→abc,filter_sublist→abd,range_succ→abf,foldl_cons→abg,map_cons→abh,getElem_mem→abj,length_drop→abk,take_of_length_le→abn,append_assoc→abo,drop_length→abr,take_length→abt,getElem?_eq_some_iff→abu,pairwise_cons→abv,take_add_one→aby,filter_eq_nil_iff→abz,mem_flatMap→abB,any_eq_true→abC,map_map→abD,map_nil→abE,pairwise_map→abJ,set→abL,length_take→abM,map_congr_left→abV,getElem_of_mem→abW,map_id→aca
open _root_.Bool renaming and_eq_true→aaq,eq_iff_iff→aat,not_true→aaO,true_and→abl,not_false→abp,not_eq_true'→abx,false_and→abG,not_eq_true→abN,false_eq_true→abX
open _root_.ByteArray renaming empty→aar
open Go.Proofs.Tryz renaming prog→aau
open Go renaming wpOps_cons→aaB
open Go.Proofs.YteogppapbognjaaGreatDoor.MS renaming regC→aaC
open Go.Lib renaming decDigits→aaE,indexByte→abA,itoa→abO,trimPrefix→abR
open _root_.Int renaming toNat_natCast→aaG,le_refl→aaZ,toNat→abi,tmod_eq_emod_of_nonneg→abI,pow_succ→abZ
open Go.Exit renaming inBlock→aaH
open Go.IntKind renaming wrap→aaQ
open _root_.Nat renaming le_refl→aaS,zero_le→aaX,le_trans→abq,mul_le_mul→abP,eq_zero_or_pos→abY
open _root_.List.cons renaming injEq→abb
open _root_.UInt8 renaming ofNat→abe,toNat_inj→abm
open Go.IntWalk renaming i64_in→abw
open Go.Proofs.YteogppapbognjaaGreatDoor.Plan renaming mk→abF
open _root_.And renaming intro→abH
open Go.Proofs.YteogppapbognjaaGreatDoor.Sess renaming mk→abK
open _root_.List.Pairwise renaming sublist→abQ
open Go.Proofs.YteogppapbognjaaGreatDoor renaming inb→abS
open _root_.Prod.mk renaming injEq→abT
open _root_.Option renaming map_id→abU
open _root_.Option.some renaming inj→acb
set_option maxRecDepth 100000
theorem Bg{α:Type}(ok:α->Bool):∀(xs:List α) (y:Option α),Kb (λ_ x=>!ok x) y xs=xs.all ok
 |[],_=>rfl
 |x::r,y=>by simp only[Kb,List.all_cons,Bg ok r (some x),Bool.not_not]
theorem la.scan{ρ α:Type}[Inhabited ρ]{step:Int->Lp Int ρ}{ob:Int->Prop}(xs:List α)(bad:Option α->α->Bool){no yes:ρ}
  (hstep:∀l x r,xs=l++x::r->ob (l.length:Int)/\step (l.length:Int)=(if bad l.getLast? x=true then .out no else .go (((l.length+1:Nat)):Int))) (hend:ob (xs.length:Int)/\step (xs.length:Int)=.out yes) :
  la step ob 0 (if Kb bad none xs=true then yes else no):=by
 obtain⟨q,h1,h2⟩:=la.list (step:=step) (ob:=ob) (Q:=λq=>q=if Kb bad none xs=true then yes else no) xs (λi (_:Unit)=>(i:Int)) (λl _=>Kb bad none xs=Kb bad l.getLast? (xs.drop l.length)) (b0:=()) rfl rfl
  (λl x r _ hx hI=>by
    obtain⟨a1,a2⟩:=hstep l x r hx;have hh:xs.drop l.length=x::r:=by rw[hx];simp
    have hi:xs.drop (l++[x]).length=r:=by rw[hx];simp
    rw[hh]at hI;simp only[Kb]at hI;refine⟨a1,?_⟩;cases hb:bad l.getLast? x with
    |true=>
     rw[hb]at hI a2;exact .inr ⟨no,a2,by rw[hI];rfl⟩
    |false=>
     rw[hb]at hI a2;exact .inl ⟨(),a2,by rw[hi,hI];simp⟩)
  (λ_ hI=>by
    rw[abr]at hI;exact⟨hend.1,yes,hend.2,by rw[hI];rfl⟩)
 rw[h2]at h1;exact h1
theorem Bo(t:Time):Eg t=xa t:=by
 show(cond (cond (cond (cmp .geq t.A 0) (cmp .leq t.A 7) false) (cmp .geq t.B 0) false) (cmp .leq t.B 7) false)=_;rw[vg,de,vg,de,aat];simp[xa];omega
theorem Nt(t:Time):Qh t:=trivial
theorem Ni(t:Time):re t=xa t:=by
 show(cond (je t.A 0 7) (je t.B 0 7) false)=_;rw[Hl,Hl,aat];simp[xa];omega
theorem dS(s t:Time):Ov s t=vd s t:=by
 show(cond (cmp .leq s.A t.A) (cmp .leq s.B t.B) false)=_;rw[de,de];unfold vd;cases decide (s.A<=t.A)<;>rfl
theorem sF(s t:Time):Pv s t:=trivial
theorem tF(s t:Time):wm s t=(xa s&&xa t&&vd s t):=by
 show(cond (cond (cond (re s) (re t) false) (cmp .leq s.A t.A) false) (cmp .leq s.B t.B) false)=_;rw[Ni,Ni,de,de];unfold vd;cases xa s<;>cases xa t<;>cases decide (s.A<=t.A)<;>rfl
theorem v7(x:Row):XJ x=Mb x:=by
 show(cond (cond (cond (je x.Key 0 3) (je x.Val 0 99) false) (re x.At) false) (je x.Diff (-99999) 99999) false)=_;rw[Ni,Hl,Hl,Hl,aat];simp[Mb,xa];omega
theorem eS(xs:List Row)(hl:xs.length<1000000000):jp xs/\ip xs=Nb xs:=by
 have k2:ua (λs:Int=>lv xs (ba .row xs) s) 0 (if Kb (λ_ x=>!Mb x) none xs=true then .x () else .r false):=by
  refine la.scan xs _ (λl x r hx=>?_) ?_
  .obtain⟨hlen,hk,hi,hj⟩:=La (t:=.row) hx
   have e1:(cond (cond (cond (cond (cond (cond (cmp .lss x.Key 0) true (cmp .geq x.Key 4)) true (cmp .lss x.Val 0)) true (cmp .geq x.Val 100)) true (!(Eg x.At))) true (cmp .lss x.Diff (-99999))) true (cmp .gtr x.Diff 99999))=!Mb x:=by
    rw[Bo];simp only[Ra,vg,Lb];rw[aat];simp[Mb,xa];omega
   simp only[lv,aal,aam,ga,hj,hk,Ea (l:=l) (by omega),e1];refine⟨by simp[hi,Nt],?_⟩;cases Mb x<;>rfl
  .have hh:cmp .lss (xs.length:Int) (ba .row xs)=false:=Ha (t:=.row);simp only[lv,aal,aam,ga,hh];exact⟨by simp,rfl⟩
 have a2:(nv xs (ba .row xs)).o=_:=k2.v;have b2:(nv xs (ba .row xs)).ob:=k2.t;rw[Bg]at a2;simp only[jp,ip,lH,kH,VT,pcT,aal,aam,Nb,a2];refine⟨by simp[b2],?_⟩;cases xs.all Mb with
 |false=>rfl
 |true=>
  show cmp .leq (xs.length:Int) 400=_;rw[de,abl,aat];simp;omega
theorem Ot(xs:List Row)(hl:xs.length<1000000000):Ak xs/\Zi xs=Nb xs:=by
 have k2:ua (λs:Int=>ly xs s) 0 (if Kb (λ_ x=>!Mb x) none xs=true then .x () else .r false):=by
  refine la.scan xs _ (λl x r hx=>?_) ?_
  .obtain⟨hlen,hk,hi,hj⟩:=La (t:=.row) hx;simp only[ly,aal,aam,ga,hj,hk,Ea (l:=l) (by omega),v7];refine⟨by simp[hi,g7],?_⟩;cases Mb x<;>rfl
  .have hh:cmp .lss (xs.length:Int) (ba .row xs)=false:=Ha (t:=.row);simp only[ly,aal,aam,ga,hh];exact⟨by simp,rfl⟩
 have a2:(my xs).o=_:=k2.v;have b2:(my xs).ob:=k2.t;rw[Bg]at a2
 have hg:cmp .gtr (ba .row xs) 400=!decide (xs.length<=400):=by
  show cmp .gtr (xs.length:Int) 400=_;rw[Lb,aat];simp;omega
 simp only[Ak,Zi,bK,aK,cV,pcT,aal,aam,Nb,a2,hg];refine⟨by simp[b2],?_⟩;cases decide (xs.length<=400)<;>cases xs.all Mb<;>rfl
theorem z7(x y:Row):jv x y/\iv x y=ltK (rK x) (rK y):=by
 have ha:dH x.At y.At=(cond (cmp .lss x.At.A y.At.A) true (cond (cmp .eql x.At.A y.At.A) (cmp .lss x.At.B y.At.B) false)):=rfl;have hp:eH x.At y.At:=trivial;simp only[jv,iv,gH,aal,aam,ga,ha,rK,ltK,jf,Ra,mb];refine⟨by simp[hp],?_⟩;by_cases h1:x.Key=y.Key
 .by_cases h2:x.Val=y.Val
  .simp only[h1,h2,decide_true,aaO,ocR];rw[aat];simp
  .simp only[h1,h2,decide_true,decide_false,aaO,abp,ocR];simp
 .simp only[h1,decide_false,abp,ocR];simp
theorem Pt{α:Type}{l:List α}{x:α}{r xs:List α}(hx:xs=l++x::r)(hl:xs.length<1000000000):(l=[]/\l.getLast? = none)\/∃l' y,l=l'++[y]/\l.getLast? = some y/\ar .sub .i64 (l.length:Int) 1=(l'.length:Int)/\xs=l'++y::(x::r)/\cmp .gtr (l.length:Int) 0=true:=by
 have hlen:xs.length=l.length+(r.length+1):=by rw[hx];simp
 rcases last_cases l with h|⟨l',y,h,h2⟩
 .exact .inl h
 .refine .inr ⟨l',y,h,h2,?_,?_,?_⟩
  .rw[fh (by omega),h];simp
  .rw[hx,h];simp
  .rw[Lb,h];simp
theorem uF(xs:List Row)(hl:xs.length<1000000000):Xl xs/\Wl xs=Oa xs:=by
 obtain⟨r1,r2⟩:=eS xs hl
 have k2:ua (λs:Int=>qp xs (ba .row xs) s) 0 (if Kb Be none xs=true then .x () else .r false):=by
  refine la.scan xs _ (λl x r hx=>?_) ?_
  .obtain⟨hlen,hm,hi,hk⟩:=La (t:=.row) hx;rcases Pt hx hl with⟨h1,h2⟩|⟨l',y,h1,h2,h3,h4,h5⟩
   .have hg:cmp .gtr (l.length:Int) 0=false:=by rw[h1];rfl
    simp only[qp,aal,aam,ga,hk,hm,Ea (l:=l) (by omega),hg,h2,Be,mb];refine⟨by simp[hi],?_⟩;cases decide (x.Diff=0)<;>rfl
   .have hy:rd .row xs (l'.length:Int)=y:=by rw[h4];exact Ki
    have hj:inb (l'.length:Int) (ba .row xs):=by rw[h4];exact Li (t:=.row)
    obtain⟨q1,q2⟩:=z7 y x;simp only[qp,aal,aam,ga,hk,hm,Ea (l:=l) (by omega),h2,h3,hy,h5,Be,mb,q2];refine⟨by simp[hi,hj,q1],?_⟩;cases decide (x.Diff=0)<;>cases ltK (rK y) (rK x)<;>rfl
  .have hh:cmp .lss (xs.length:Int) (ba .row xs)=false:=Ha (t:=.row);simp only[qp,aal,aam,ga,hh];exact⟨by simp,rfl⟩
 have a2:(ov xs (ba .row xs)).o=_:=k2.v;have b2:(ov xs (ba .row xs)).ob:=k2.t;simp only[Xl,Wl,nH,mH,XT,pcT,aal,aam,ga,Oa,a2,r2];refine⟨by simp[b2,r1],?_⟩;cases Kb Be none xs<;>rfl
theorem Co(xs:List Row)(hl:xs.length<1000000000):aj xs/\Zh xs=Oa xs:=by
 obtain⟨r1,r2⟩:=Ot xs hl
 have k2:ua (λs:Int=>mq xs s) 0 (if Kb Be none xs=true then .x () else .r false):=by
  refine la.scan xs _ (λl x r hx=>?_) ?_
  .obtain⟨hlen,hm,hi,hk⟩:=La (t:=.row) hx;rcases Pt hx hl with⟨h1,h2⟩|⟨l',y,h1,h2,h3,h4,h5⟩
   .have hg:cmp .gtr (l.length:Int) 0=false:=by rw[h1];rfl
    simp only[mq,aal,aam,ga,hk,hm,Ea (l:=l) (by omega),hg,h2,Be,mb];refine⟨by simp[hi],?_⟩;cases decide (x.Diff=0)<;>rfl
   .have hy:rd .row xs (l'.length:Int)=y:=by rw[h4];exact Ki
    have hj:inb (l'.length:Int) (ba .row xs):=by rw[h4];exact Li (t:=.row)
    obtain⟨q1,q2⟩:=CR y x
    have q3:cmp .geq (Ck y x) 0=!ltK (rK y) (rK x):=by
     rw[q2,vg];cases ltK (rK y) (rK x)<;>cases ltK (rK x) (rK y)<;>rfl
    simp only[mq,aal,aam,ga,hk,hm,Ea (l:=l) (by omega),h2,h3,hy,h5,Be,mb,q3];refine⟨by simp[hi,hj,q1],?_⟩;cases decide (x.Diff=0)<;>cases ltK (rK y) (rK x)<;>rfl
  .have hh:cmp .lss (xs.length:Int) (ba .row xs)=false:=Ha (t:=.row);simp only[mq,aal,aam,ga,hh];exact⟨by simp,rfl⟩
 have a2:(ry xs).o=_:=k2.v;have b2:(ry xs).ob:=k2.t;simp only[aj,Zh,iK,gK,eV,pcT,aal,aam,ga,Oa,a2,r2];refine⟨by simp[b2,r1],?_⟩;cases Kb Be none xs<;>cases Nb xs<;>rfl
theorem vF(xs:List Row)(t:Time)(hl:xs.length<1000000000):am xs t/\Zl xs t=qc xs t:=by
 have hn:∀l:List Row,(Za l t).length<=l.length:=λl=>by unfold Za;rw[aaA];exact aav _ _
 have k2:ua (λs:LI×Int=>Rv t xs (ba .row xs) s.1 s.2) ([],0) (.x (Za xs t)):=by
  refine la.fold xs (λi b=>(b,(i:Int))) (λl=>Za l t) rfl (λl x r hx=>?_) ?_
  .obtain⟨hlen,ho,hi,hm⟩:=La (t:=.row) hx;have hj:=hn l;have hk:∀y,lim (ba .item (Za l t)) (ba .item [y]):=λy=>Jb (t:=.item) (show(Za l t).length<1099511627776 by omega);simp only[Rv,PH,iU,pcT,aal,aam,ga,hm,ho,Ea (l:=l) (by omega),dS];rw[bF];cases hb:vd x.At t with
   |true=>exact⟨by simp[hi,hk,sF],by simp[na,Za,hb,rIt]⟩
   |false=>exact⟨by simp[hi,hk,sF],by simp[na,Za,hb]⟩
  .have hh:cmp .lss (xs.length:Int) (ba .row xs)=false:=Ha (t:=.row);simp only[Rv,aal,aam,hh];exact⟨by simp,rfl⟩
 have a2:(Sv t xs (ba .row xs)).o=.x (Za xs t):=k2.v;have b2:(Sv t xs (ba .row xs)).ob:=k2.t
 have hg:eo (Za xs t):=by
  have:=hn xs;show lim _ 1;simp only[lim,ba];omega
 simp only[am,Zl,RH,QH,jU,pcT,aal,aam,ga,a2,ocR];exact⟨by simp[b2,hg],rfl⟩
theorem A7{xs:List Row}(h:∀x∈xs,InR x.Diff)(t:Time):∀x∈Za xs t,InR x.Count:=λx hx=>by
 obtain⟨r,hr,rfl⟩:=aaP.1 hx;exact h r ((aaM.1 hr).1)
theorem fS(xs:List Row)(t:Time)(hl:xs.length<10000000):yq xs t/\xq xs t=if Nb xs=true/\xa t=true then qc xs t else []:=by
 obtain⟨r1,r2⟩:=Ot xs (by omega);simp only[yq,xq,tL,rL,HV,pcT,aal,aam,ga,r2,Ni];by_cases h:Nb xs=true/\xa t=true
 .obtain⟨h1,h2⟩:=h;obtain⟨m1,m2⟩:=gb h1;have hn:∀l:List Row,(Za l t).length<=l.length:=λl=>by unfold Za;rw[aaA];exact aav _ _
  have k2:ua (λs:LI×Int=>xz xs t s.1 s.2) ([],0) (.x (Za xs t)):=by
   refine la.fold xs (λi b=>(b,(i:Int))) (λl=>Za l t) rfl (λl x r hx=>?_) ?_
   .obtain⟨hlen,ho,hi,hm⟩:=La (t:=.row) hx;have hj:=hn l;have hk:∀y,lim (ba .item (Za l t)) (ba .item [y]):=λy=>Jb (t:=.item) (show(Za l t).length<1099511627776 by omega);have hp:=Ag (m2 x (by rw[hx];simp));simp only[xz,qL,GV,pcT,aal,aam,ga,hm,ho,Ea (l:=l) (by omega),tF,hp,h2,abl];rw[bF];cases hb:vd x.At t with
    |true=>exact⟨by simp[hi,hk,vo],by simp[na,Za,hb,rIt]⟩
    |false=>exact⟨by simp[hi,hk,vo],by simp[na,Za,hb]⟩
   .have hh:cmp .lss (xs.length:Int) (ba .row xs)=false:=Ha (t:=.row);simp only[xz,aal,aam,hh];exact⟨by simp,rfl⟩
  have a2:(yz xs t).o=.x (Za xs t):=k2.v;have b2:(yz xs t).ob:=k2.t;obtain⟨p1,p2⟩:=HR (Za xs t) (by have:=hn xs;omega) (A7 (λx hx=>Jf (m2 x hx)) t);simp only[h1,h2,a2,p2];refine⟨by simp[r1,Lh,b2,p1],?_⟩;rw[if_pos ⟨trivial,trivial⟩];rfl
 .rw[if_neg h]
  have hc:(cond (!Nb xs) true (!xa t))=true:=by
   cases h1:Nb xs<;>cases h2:xa t<;>simp[h1,h2]at h⊢
  simp only[hc];exact⟨by simp[r1,Lh],rfl⟩
theorem B7(xs:List Row):Rw.gathI xs=Pa xs:=by
 have e:Rw.chI xs=(chR xs).map λq=>(q.1++[0],q.2):=by
  unfold Rw.chI chR;rw[abD];rfl
 have hm:=xR (n:=4) (m:=5) (f:=λk=>k++[0]) (λa b h=>List.append_cancel_right h) (λk hk=>by simp[hk]) (λa b ha hb=>iF a b (by rw[ha,hb])) (ro xs);unfold Rw.gathI Pa;rw[e,hm,abD];refine abV λp hp=>?_;obtain⟨x,_,hx⟩:=B6 hp;obtain⟨k,d⟩:=p;have hx:k=rK x:=hx;subst hx;rfl
theorem G7(xs:List Row)(hl:xs.length<1000000000):rO xs/\qO xs=Pa xs:=by
 refine⟨?_,B7 xs⟩;show lim _ 1;simp only[lim,ba];omega
theorem wF:∀(xs:List Row) (y:Option Row),xs.Pairwise yg->(∀x∈xs,x.Diff≠0)->(∀z,y=some z->∀x∈xs,yg z x)->Kb Be y xs=true
 |[],_,_,_,_=>rfl
 |x::r,y,hp,hd,hy=>by
  have hp':=abv.1 hp
  have h1:Be y x=false:=by
   have hx:=hd x (by simp);cases y with
   |none=>simp[Be,hx]
   |some z=>
    have:ltK (rK z) (rK x)=true:=hy z rfl x (by simp);simp[Be,hx,this]
  simp only[Kb,h1,abp,abl];exact wF r (some x) hp'.2 (λz hz=>hd z (by simp[hz])) λz hz w hw=>by cases hz;exact hp'.1 w hw
theorem H7{x y:Row}(h1:x.Key=y.Key)(h2:x.Val=y.Val)(h3:x.At.A=y.At.A)(h4:x.At.B=y.At.B)(h5:x.Diff=y.Diff):x=y:=by
 obtain⟨a,b,⟨c,d⟩,e⟩:=x;obtain⟨a',b',⟨c',d'⟩,e'⟩:=y;simp at h1 h2 h3 h4 h5;subst h1 h2 h3 h4 h5;rfl
section
open Go Tg
theorem FF{n:Nat}:∀ {m:MP},Asc m->Tb n m->∀p∈m,sumT m p.1=p.2
 |[],_,_,p,hp=>by cases hp
 |q::r,ha,hk,p,hp=>by
  have ha':=abv.1 ha
  have hi:∀ {k:List Int} (l:MP),(∀s∈l,s.1≠k)->sumT l k=0:=by
   intro k l
   induction l with
   |nil=>intro _;rfl
   |cons s l ih=>
    intro h;simp only[sumT];rw[if_neg (h s (by simp)),ih λs hs=>h s (by simp[hs])];rfl
  have hh:∀s∈r,s.1≠q.1:=λs hs e=>by
   have:=ha'.1 s hs;rw[e,rg]at this;cases this
  simp only[sumT];rcases aaL.1 hp with rfl|hp
  .rw[if_pos rfl,hi r hh,Int.add_zero]
  .rw[if_neg (λe=>hh p hp e.symm),FF ha'.2 (λs hs=>hk s (by simp[hs])) p hp,Int.zero_add]
theorem Y8{n:Nat}{m:MP}(ha:Asc m)(hk:Tb n m)(h0:∀p∈m,p.2≠0/\InR p.2):Xc m=m:=Kt (Mj hk) ha λp=>by
  rw[Gf];constructor
  .rintro⟨h1,h2⟩;obtain⟨q,hq,e⟩:=jo (h1▸h2);have h3:=FF ha hk q hq;rw[e]at h3;obtain⟨g1,g2⟩:=qo m p.1;have:p.2=q.2:=by rw[h1,g1.eq g2 (h3▸(h0 q hq).2),h3]
   have:q=p:=Prod.ext e this.symm;exact this▸hq
  .intro hp;obtain⟨g1,g2⟩:=qo m p.1;have h3:=FF ha hk p hp;exact⟨by rw[g1.eq g2 (h3▸(h0 p hp).2),h3],(h0 p hp).1⟩
def Canon(s:List Item):Prop:=(s.Pairwise λx y=>ltK (kI x) (kI y)=true)/\∀x∈s,x.Count≠0/\InR x.Count
theorem bT{s:List Item}{x:Item}(hx:x∈gathI s):x.Count≠0:=by
 have:(kI x,x.Count)∈chI (gathI s):=aaP.2 ⟨x,hx,rfl⟩;rw[ko]at this;exact(Gf.1 this).2
theorem cT(s:List Item):Canon (gathI s):=⟨oF s,λ_ hx=>⟨bT hx,dF hx⟩⟩
theorem Canon.neg{s:List Item}(h:Canon s)(hm:∀x∈s,x.Count≠-9223372036854775808):Canon (s.map Yb):=by
 refine⟨?_,λx hx=>?_⟩
 .rw[abJ];exact h.1
 .obtain⟨y,hy,rfl⟩:=aaP.1 hx;have h1:=h.2 y hy;have h2:=hm y hy;have h3:aaQ .i64 (0 - y.Count)=0 - y.Count:=cF (by unfold InR at *;omega);show aaQ .i64 (0 - y.Count)≠0/\InR (aaQ .i64 (0 - y.Count));rw[h3];unfold InR at *;omega
theorem Z8(x:Row)(l:List Row)(t:Time):Za (x::l) t=(if vd x.At t=true then [rIt x] else [])++Za l t:=by
 unfold Za;rw[List.filter_cons];split<;>simp
theorem b9(t:Time):Za [] t=[]:=rfl
theorem c9{xs:List Row}(h:∀x∈xs,InR x.Diff)(t:Time):∀x∈Za xs t,InR x.Count:=λx hx=>by
 obtain⟨r,hr,rfl⟩:=aaP.1 hx;exact h r ((aaM.1 hr).1)
theorem GF{h:Int}{a:List Row}(ha:∀x∈a,InR x.Diff):∀x∈ed h a,InR x.Diff:=λx hx=>by
 obtain⟨y,hy,hx⟩:=abB.1 hx;unfold Mh at hx;split at hx
 .simp at hx;subst hx;exact ha y hy
 .cases hx
theorem HF(a:List Row):∀x∈fb a,InR x.Diff:=λx hx=>by
 obtain⟨y,_,rfl⟩:=aaP.1 hx;exact po _
theorem Vt{a b:List Row}(ha:∀x∈a,Mb x=true)(hb:∀x∈b,Mb x=true):∀x∈Ic a b,InR x.Diff/\xa x.At=true:=λx hx=>by
 obtain⟨y,hy,hx⟩:=abB.1 hx;obtain⟨z,hz,hx⟩:=abB.1 hx;unfold Mc at hx;split at hx
 .simp at hx;subst hx;have h1:=ha y hy;have h2:=hb z hz;simp only[Mb,decide_eq_true_eq]at h1 h2;refine⟨?_,?_⟩
  .show InR (y.Diff*z.Diff)
   have e1:y.Diff*z.Diff<=99999*99999/\-(99999*99999)<=y.Diff*z.Diff:=by
    have hh:(y.Diff.natAbs:Int)<=99999:=by omega
    have hi:(z.Diff.natAbs:Int)<=99999:=by omega
    have hm:((y.Diff*z.Diff).natAbs:Int)<=99999*99999:=by
     rw[Int.natAbs_mul,Int.natCast_mul];exact Int.mul_le_mul hh hi (by omega) (by omega)
    omega
   unfold InR;omega
  .show xa (Cb y.At z.At)=true;simp only[xa,Cb,Kk,decide_eq_true_eq];refine⟨?_,?_,?_,?_⟩<;>split<;>omega
 .cases hx
theorem Zf{a b:Int}(h:0<=a):ar .rem .i64 a b=a % b:=by rw[Xj,abI h]
theorem I7{k v h:Int}(hk:0<=k/\k<=3)(hv:0<=v/\v<=99)(hh:1<=h/\h<=7):uv k v h/\sv k v h=((Gc h k v).1,(Gc h k v).2.1,(Gc h k v).2.2,()):=by
 simp only[uv,sv,pH,aal,aam,ga,mb,Ra];have hc:h=1\/h=2\/h=3\/h=4\/h=5\/h=6\/h=7:=by omega
 rcases hc with rfl|rfl|rfl|rfl|rfl|rfl|rfl
 .refine⟨by simp,?_⟩;simp[ocR,Gc,Zf hv.1];rw[fh (by omega),ub (by omega)]
 .refine⟨by simp,?_⟩;simp[ocR,Gc];rw[ub (by omega),Zf (by omega)]
 .refine⟨by simp,?_⟩;simp[ocR,Gc,Zf hv.1]
 .exact⟨by simp,by simp[ocR,Gc]⟩
 .refine⟨by simp,?_⟩;simp[ocR,Gc,Zf hv.1]
 .refine⟨by simp,?_⟩;simp[ocR,Gc,Zf hk.1]
 .exact⟨by simp,by simp[ocR,Gc]⟩
theorem J7{k v h:Int}(hk:0<=k/\k<=3)(hv:0<=v/\v<=99)(hh:1<=h/\h<=7):uy k v h/\sy k v h=((Gc h k v).1,(Gc h k v).2.1,(Gc h k v).2.2,()):=by
 simp only[uy,sy,jK,aal,aam,ga,mb,Ra];have hc:h=1\/h=2\/h=3\/h=4\/h=5\/h=6\/h=7:=by omega
 rcases hc with rfl|rfl|rfl|rfl|rfl|rfl|rfl
 .refine⟨by simp,?_⟩;simp[ocR,Gc,Zf hv.1];rw[fo (by omega),wg (by omega),ub (by omega)];omega
 .refine⟨by simp,?_⟩;simp[ocR,Gc];rw[ub (by omega),Zf (by omega)]
 .refine⟨by simp,?_⟩;simp[ocR,Gc,Zf hv.1]
 .exact⟨by simp,by simp[ocR,Gc]⟩
 .refine⟨by simp,?_⟩;simp[ocR,Gc,Zf hv.1]
 .refine⟨by simp,?_⟩;simp[ocR,Gc,Zf hk.1]
 .exact⟨by simp,by simp[ocR,Gc]⟩
theorem bk{x:Row}(h:Mb x=true):(0<=x.Key/\x.Key<=3)/\0<=x.Val/\x.Val<=99:=by
 simp only[Mb,decide_eq_true_eq]at h;omega
theorem iS(h:Int)(l:List Row)(x:Row):ed h (l++[x])=ed h l++Mh h x:=by unfold ed;rw[aaJ];simp
theorem Jl(h:Int):∀l:List Row,(ed h l).length<=l.length
 |[]=>aaS _
 |x::l=>by
  have:=Jl h l;unfold ed at *;rw[abc,aao,aap];have:(Mh h x).length<=1:=by unfold Mh;split<;>simp
  omega
theorem Kl{xs:List Row}(hl:xs.length<100000000)(hi:∀x∈xs,InR x.Diff):Rh xs/\Me xs=if Oa (Pa xs)=true then(Pa xs,true,()) else([],false,()):=by
 obtain⟨c1,c2⟩:=G7 xs (by omega);have h1:=El hi;obtain⟨b1,b2⟩:=uF (Pa xs) (by omega);simp only[Rh,Me,rH,aal,aam,ga,c2,b2];cases Oa (Pa xs)<;>simp[c1,b1,ocR]
def Cg(xs:List Row):List Row×Bool×Unit:=if Oa xs=true then(xs,true,()) else([],false,())
theorem L7{a:List Row}(hr:Nb a=true){h:Int}(hh:1<=h/\h<=7):Cv a h/\Av a h=Cg (Pa (ed h a)):=by
 obtain⟨hl,hm⟩:=gb hr
 have k:ua (λs:LR×Int=>xv h a (ba .row a) s.1 s.2) ([],0) (.x (ed h a)):=by
  refine la.fold a (λi b=>(b,(i:Int))) (λl=>ed h l) rfl (λl x r hx=>?_) ?_
  .obtain⟨hlen,hs,hj,hq⟩:=La (t:=.row) hx;have hk:=bk (hm x (by rw[hx];simp));obtain⟨e1,e2⟩:=I7 hk.1 hk.2 hh;have hn:=Jl h l;have hp:∀y,lim (ba .row (ed h l)) (ba .row [y]):=λy=>Jb (t:=.row) (show(ed h l).length<1099511627776 by omega);simp only[xv,sH,YT,pcT,aal,aam,ga,hq,hs,Ea (l:=l) (by omega),e2];rw[iS];cases hb:(Gc h x.Key x.Val).2.2 with
   |true=>exact⟨by simp[hj,hp,e1],by simp[na,Mh,hb]⟩
   |false=>exact⟨by simp[hj,hp,e1],by simp[na,Mh,hb]⟩
  .have hi:cmp .lss (a.length:Int) (ba .row a)=false:=Ha (t:=.row);simp only[xv,aal,aam,hi];exact⟨by simp,rfl⟩
 have a2:(yv h a (ba .row a)).o=.x (ed h a):=k.v;have b2:(yv h a (ba .row a)).ob:=k.t;have ho:=Jl h a;obtain⟨q1,q2⟩:=Kl (xs:=ed h a) (by omega) (GF λx hx=>Jf (hm x hx));simp only[Cv,Av,uH,tH,ZT,pcT,aal,aam,ga,a2,q2,ocR];exact⟨by simp[b2,q1],by unfold Cg;split<;>rfl⟩
theorem O7{a:List Row}(hr:Nb a=true){h:Int}(hh:1<=h/\h<=7):Ly a h/\Ky a h=Pa (ed h a):=by
 obtain⟨hl,hm⟩:=gb hr
 have k:ua (λs:LR×Int=>Iy a h s.1 s.2) ([],0) (.x (ed h a)):=by
  refine la.fold a (λi b=>(b,(i:Int))) (λl=>ed h l) rfl (λl x r hx=>?_) ?_
  .obtain⟨hlen,hs,hj,hq⟩:=La (t:=.row) hx;have hk:=bk (hm x (by rw[hx];simp));obtain⟨e1,e2⟩:=J7 hk.1 hk.2 hh;have hn:=Jl h l;have hp:∀y,lim (ba .row (ed h l)) (ba .row [y]):=λy=>Jb (t:=.row) (show(ed h l).length<1099511627776 by omega);simp only[Iy,wK,mV,pcT,aal,aam,ga,hq,hs,Ea (l:=l) (by omega),e2];rw[iS];cases hb:(Gc h x.Key x.Val).2.2 with
   |true=>exact⟨by simp[hj,hp,e1],by simp[na,Mh,hb]⟩
   |false=>exact⟨by simp[hj,hp,e1],by simp[na,Mh,hb]⟩
  .have hi:cmp .lss (a.length:Int) (ba .row a)=false:=Ha (t:=.row);simp only[Iy,aal,aam,hi];exact⟨by simp,rfl⟩
 have a2:(Jy a h).o=.x (ed h a):=k.v;have b2:(Jy a h).ob:=k.t;have ho:=Jl h a;obtain⟨q1,q2⟩:=Mi (ed h a) (by omega) (GF λx hx=>Jf (hm x hx));simp only[Ly,Ky,yK,xK,nV,pcT,aal,aam,ga,a2,q2,ocR];exact⟨by simp[b2,q1],trivial⟩
theorem xF{s t:Time}(hs:xa s=true)(ht:xa t=true):zp s t/\yp s t=Cb s t:=by
 simp only[zp,yp,GH,aal,aam,ga,Bo,hs,ht,ocR];exact⟨by simp[Nt],rfl⟩
theorem jS{s t:Time}(hs:xa s=true)(ht:xa t=true):qq s t/\pq s t=Cb s t:=by
 simp only[qq,pq,LK,aal,aam,ga,Ni,hs,ht,ocR];exact⟨by simp[Lh],rfl⟩
theorem P7{x y:Int}(hx:0<=x/\x<=99)(hy:0<=y/\y<=99):DH x y/\CH x y=wo x y:=by
 refine⟨⟨⟨by decide,trivial⟩,trivial⟩,?_⟩;show ar .rem .i64 (ar .add .i64 (ar .mul .i64 10 x) y) 100=_;rw[wg (by omega),ub (by omega),Zf (by omega)];rfl
theorem Q7{x y:Int}(hx:0<=x/\x<=99)(hy:0<=y/\y<=99):IK x y/\GK x y=wo x y:=by
 refine⟨⟨⟨by decide,trivial⟩,trivial⟩,?_⟩;show ar .rem .i64 (ar .add .i64 (ar .mul .i64 x 10) y) 100=_;rw[wg (by omega),ub (by omega),Zf (by omega)];unfold wo;rw[Int.mul_comm]
theorem kS{x y:Row}(hx:Mb x=true)(hy:Mb y=true):ar .mul .i64 x.Diff y.Diff=x.Diff*y.Diff:=by
 have h:=Vt (a:=[⟨0,x.Val,x.At,x.Diff⟩]) (b:=[⟨0,y.Val,y.At,y.Diff⟩]) (by simp[Mb] at *;omega) (by simp[Mb] at *;omega) ⟨0,wo x.Val y.Val,Cb x.At y.At,x.Diff*y.Diff⟩ (by simp[Ic,Mc]);exact wg h.1
theorem Qt(x:Row):∀b:List Row,(b.flatMap (Mc x)).length<=b.length
 |[]=>aaS _
 |y::b=>by
  have:=Qt x b;rw[abc,aao,aap];have:(Mc x y).length<=1:=by unfold Mc;split<;>simp
  omega
theorem lS(b:List Row):∀a:List Row,(Ic a b).length<=a.length*b.length
 |[]=>by simp[Ic]
 |x::a=>by
  have h1:=lS b a;have h2:=Qt x b;unfold Ic at *;rw[abc,aao,aap,Nat.add_mul,Nat.one_mul];omega
theorem mS(a b:List Row)(x:Row):Ic (a++[x]) b=Ic a b++b.flatMap (Mc x):=by unfold Ic;rw[aaJ];simp
theorem nS(x:Row)(b:List Row)(y:Row):(b++[y]).flatMap (Mc x)=b.flatMap (Mc x)++Mc x y:=by rw[aaJ];simp
end
section
namespace Tg
open Go
theorem Ji{a b:Int}(h1 : -1000000000000<=a/\a<=1000000000000)(h2 : -1000000000000<=b/\b<=1000000000000):ar .add .i64 a b=a+b:=ub (by omega)
theorem ttF:dc aau tt:=Cn (by kernel_rfl)
theorem foF : aau.follows .mixedOrders=true:=by kernel_rfl
theorem g0:Good aau tt []:=.nil ttF foF
theorem UX:Con aau 96 tk:=QT (.nil ttF foF)
theorem Jah:Con aau 115 np:=WT (.cons UX (.nil ttF foF))
theorem g1:Good aau tt [(115,np)]:=.cons Jah (.nil ttF foF)
theorem Kah:Con aau 151 Ap:=cU (.cons UX (.nil ttF foF))
theorem g2:Good aau tt [(151,Ap)]:=.cons Kah (.nil ttF foF)
noncomputable def C7:Code:=pg Tryz.f179
abbrev LT(x:List Time):AV:=.v (.acc true) (.lst .time x)
abbrev N7(r:Nat):NP:=⟨27,none,[(0,.map (some r))]⟩
noncomputable def o8(i:Nat):Oper:=opN (opsOf (nav C7 [1,1,0,1,0,0,1,0,0,1,0,0,1,0,0,0])) i
theorem op8:(o8 0).op=.move (.tmp 0)/\(o8 0).dst=some 15/\(o8 0).guard=none/\(o8 4).op=.lookup 185 (.tmp 15) (.tmp 18) false/\(o8 4).dst=some 19/\(o8 4).guard=none /\
  (o8 1).guard=none/\(o8 2).guard=none/\(o8 3).guard=none/\(o8 1).dst=some 16/\(o8 2).dst=some 17/\(o8 3).dst=some 18:=(by and_intros<;>kernel_rfl)
theorem at8:aax (opsOf (nav C7 [1,1,0,1,0,0,1,0,0,1,0,0,1,0,0,0])).size=[0,1,2,3,4]/\∀i,i<5->(opsOf (nav C7 [1,1,0,1,0,0,1,0,0,1,0,0,1,0,0,0]))[i]? = some (o8 i):=by
 refine⟨by kernel_rfl,λi hi=>?_⟩;rcases (show i=0\/i=1\/i=2\/i=3\/i=4 by omega) with rfl|rfl|rfl|rfl|rfl<;>kernel_rfl
noncomputable def Lah:TypeInfo:=(aau.info? 65).get (by kernel_rfl)
noncomputable def sv4:TypeInfo:=(aau.info? 4).get (by kernel_rfl)
noncomputable def fsT:Array Field:=match aau.underlying 65 with
 |some (.struct fs)=>fs
 |_=>#[]
def Ge(S:Aa)(i:Int)(n:Nat):List Time:=((aax n).filter λb:Nat=>decide ([i,(b:Int)]∈S)).map λb:Nat=>(⟨i,(b:Int)⟩ : Time)
def Jg(S:Aa):Nat->List Time
 |0=>[]
 |n+1=>Jg S n++Ge S n 8
def bc(S:Aa):List Time:=Jg S 8
theorem VX(S:Aa)(i:Int)(n:Nat):(Ge S i n).length<=n:=by
 unfold Ge;rw[aaA];exact abq (aav _ _) (by simp)
theorem EN(S:Aa):∀n,(Jg S n).length<=8*n
 |0=>by simp[Jg]
 |n+1=>by
  have h1:=EN S n;have h2:=VX S n 8;simp only[Jg,aao];omega
theorem WX(S:Aa)(i:Int)(n:Nat):Ge S i (n+1)=Ge S i n++(if [i,(n:Int)]∈S then [(⟨i,(n:Int)⟩ : Time)] else []):=by
 unfold Ge;rw[abf,aaR,aba]
 congr 1
 by_cases h : [i,(n:Int)]∈S<;>simp[h]
theorem sty:PX aau 185 65 4 2:=by
 refine⟨by kernel_rfl,⟨fsT,by kernel_rfl⟩,ttF.eq _ ⟨.struct [(0,1),(1,1)],2,[.int .i64 0,.int .i64 0],some .time,true⟩ (by kernel_rfl) rfl,
  JD (fs:=fsT) (i:=Lah) (by kernel_rfl) (by kernel_rfl) (by kernel_rfl) (by kernel_rfl),λw=>?_⟩
 have hi : aau.info? 4=some sv4:=by kernel_rfl
 have hz:sv4.zero=some (.bool false):=by kernel_rfl
 simp[zeroValue,typeInfo,hi,hz]
def E7(l:List Time)(i j:Int):Env:=[(3,LT l),(4,.v .fr (.int .i64 i)),(5,.v .fr (.int .i64 j))]
def E7'(l:List Time)(i:Int):Env:=[(3,LT l),(4,.v .fr (.int .i64 i))]
theorem Mah{Q:Exit->Act->World->Prop}{B:Nat}{W0:World}{F0:Fz}{r:Nat}{S:Aa}(hS:Cc 2 S)(hW:W0.heap[r]? = some (Va S)){l:List Time}{i j:Int}{a:Act}{w:World}(hs:MS (N7 r) B [] W0 F0 [] (E7 l i j) a w)
  (hQ:∀a w,MS (N7 r) B [] W0 F0 [] [(3,LT l),(4,.v .fr (.int .i64 i)),(5,.v .fr (.int .i64 j)),(19,.v .fr (.bool (decide ([i,j]∈S))))] a w->Q .normal a w):(nav C7 [1,1,0,1,0,0,1,0,0,1,0,0,1,0,0,0]).wp aau Q a w:=by
 obtain⟨p0,d0,q0,p4,d4,q4,q1,q2,q3,d1,d2,d3⟩:=op8;refine Kc (by kernel_rfl) at8.1 ?_;rw[aaB];refine va (at8.2 0 (by omega)) q0 ?_;refine Xa (cf p0) ?_;rw[d0,aaB,hs.k (s:=0) (v:=.map (some r)) (by simp)];have h1:=hs.val (d:=15) (by kernel_rfl) (v:=.map (some r)) (av:=.dead) rfl (λ_ _=>trivial);refine va (at8.2 1 (by omega)) q1 ?_;refine h1.stepF g0 (ops:=opsOf (nav C7 [1,1,0,1,0,0,1,0,0,1,0,0,1,0,0,0])) (e':=(16,.v .fr (.int .i64 i))::(15,.dead)::E7 l i j) (ps:=[]) q1 (by kernel_rfl) trivial (λd h=>by rw[d1]at h;cases h;kernel_rfl) (λa2 w2 h2=>?_);rw[aaB];refine va (at8.2 2 (by omega)) q2 ?_;refine h2.stepF g0 (ops:=opsOf (nav C7 [1,1,0,1,0,0,1,0,0,1,0,0,1,0,0,0])) (e':=(17,.v .fr (.int .i64 j))::(16,.v .fr (.int .i64 i))::(15,.dead)::E7 l i j) (ps:=[]) q2 (by kernel_rfl) trivial (λd h=>by rw[d2]at h;cases h;kernel_rfl) (λa3 w3 h3=>?_);rw[aaB];refine va (at8.2 3 (by omega)) q3 ?_;refine h3.stepF g0 (ops:=opsOf (nav C7 [1,1,0,1,0,0,1,0,0,1,0,0,1,0,0,0])) (e':=(18,.agg true [.int .i64 i,.int .i64 j])::(17,.v .fr (.int .i64 j))::(16,.v .fr (.int .i64 i))::(15,.dead)::E7 l i j) (ps:=[]) q3 (by kernel_rfl) trivial (λd h=>by rw[d3]at h;cases h;kernel_rfl) (λa4 w4 h4=>?_);rw[aaB];refine va (at8.2 4 (by omega)) q4 ?_;have hm:w4.heap[r]? = some (Va S):=h4.kept.obj _ _ hW rfl
 have hh:a4.tmps.getD 18 undef=Na [i,j]:=by
  obtain⟨F,ow,hx⟩:=h4.sim.rep;obtain⟨vs,h1,h2⟩:=hx.sr 18;have h1:a4.tmps.getD 18 undef=.agg vs.toArray:=h1;rw[h1];cases h2 with
  |cons c1 h2=>cases h2 with
   |cons c2 h2=>cases h2;cases c1;cases c2;rfl
 refine Xa (jt p4 (by rw[h4.k (s:=15) (v:=.map (some r)) (by simp),hh];exact QX sty hm hS rfl)) ?_;rw[d4];have h5:=h4.val (d:=19) (by kernel_rfl) (v:=.bool (decide ([i,j]∈S))) (av:=.v .fr (.bool (decide ([i,j]∈S)))) rfl (λ_ _=>.bool _);refine xc _ (hQ _ _ ?_);exact(h5.weak (wa.cast (pat:=[(3,.same),(4,.same),(5,.same),(19,.same)]))).forget rfl rfl (λp hp=>by simp at hp⊢;simp[hp]) (λp hp=>hp)
theorem Nah{Q:Exit->Act->World->Prop}{B:Nat}{W0:World}{F0:Fz}{r:Nat}{S:Aa}(hS:Cc 2 S)(hW:W0.heap[r]? = some (Va S)){l:List Time}(hl:l.length<=100){i:Int}{a:Act}{w:World}(hs:MS (N7 r) B [] W0 F0 [] (E7 l i 0) a w)
  (hQ:∀a w,MS (N7 r) B [] W0 F0 [] (E7' (l++Ge S i 8) i) a w->Q .normal a w):(nav C7 [1,1,0,1,0,0,1,0,0,1]).wp aau Q a w:=by
 refine Vf (c1:=nav C7 [1,1,0,1,0,0,1,0,0,1,0]) (id:=2) (by kernel_rfl) ?_;rw[show nav C7 [1,1,0,1,0,0,1,0,0,1,0]=.loop (nav C7 [1,1,0,1,0,0,1,0,0,1,0,0]) by kernel_rfl];refine Ef (σ:=Nat) (λj a w=>j<=8/\MS (N7 r) B [] W0 F0 [] (E7 (l++Ge S i j) i j) a w) (λj=>8 - j) ?_ 0 ⟨by omega,by simpa [Ge] using hs⟩;rintro j a w ⟨hj,hs⟩;refine wpS ?_;refine wpS ?_;refine aaC g0 (keep:=[3,4,5,12]) (e':=[(3,LT (l++Ge S i j)),(4,.v .fr (.int .i64 i)),(5,.v .fr (.int .i64 j)),(12,.v .fr (.bool (cmp .leq j 7)))]) (ps:=[]) (by kernel_rfl) trivial hs (λa w hs=>?_);show(nav C7 [1,1,0,1,0,0,1,0,0,1,0,0,0,1]).wp _ _ a w;refine wpC (o:=.tmp 12) (hs.bool (k:=.fr) rfl) (λht=>Ed (by kernel_rfl) ?_) (λhf=>Wf (i:=2) (by kernel_rfl) ?_)
 .have hk:j<=7:=by
   have:=of_decide_eq_true (show decide ((j:Int)<=7)=true from ht);omega
  have hh:∀ {a:Act}{w:World},MS (N7 r) B [] W0 F0 [] (E7 (l++Ge S i (j+1)) i j) a w->(nav C7 [1,1,0,1,0,0,1,0,0,1,0,0,1,1]).wp aau (λe a' w'=>Exit.then (λa' w'=>∃s',8 - s'<8 - j/\(s'<=8/\MS (N7 r) B [] W0 F0 [] (E7 (l++Ge S i s') i s') a' w')) (aaH 2 Q) e a' w') a w:=λhs=>by
   refine aaC g0 (keep:=[3,4,5]) (e':=E7 (l++Ge S i (j+1)) i (ar .add .i64 j 1)) (ps:=[]) (by kernel_rfl) trivial hs (λa w hs=>?_);refine⟨j+1,by omega,by omega,?_⟩;rw[Ji (by omega) (by omega)]at hs;exact hs
  show(nav C7 [1,1,0,1,0,0,1,0,0,1,0,0,1]).wp _ _ a w;refine wpS ?_;refine wpB (id:=3) ?_;refine wpS ?_;refine Mah hS hW (hs.weak (wa.cast (e':=E7 (l++Ge S i j) i j) (pat:=[(3,.same),(4,.same),(5,.same)]))) (λa w hs=>?_);show(nav C7 [1,1,0,1,0,0,1,0,0,1,0,0,1,0,0,1]).wp _ _ a w;refine wpC (o:=.tmp 19) (hs.bool (k:=.fr) rfl) (λht=>?_) (λhf=>Ed (by kernel_rfl) ?_)
  .have hm : [i,(j:Int)]∈S:=of_decide_eq_true ht;have hlen:=VX S i j;refine aaC g0 (keep:=[3,4,5]) (e':=E7 (l++Ge S i j++[⟨i,j⟩]) i j) (ps:=[lim (ba .time (l++Ge S i j)) (ba .time [(⟨i,j⟩ : Time)])]) (by kernel_rfl) ⟨by simp[lim,ba];omega,trivial⟩ hs (λa w hs=>?_);refine hh ?_;rw[WX,if_pos hm,<-abo];exact hs
  .have hm:¬ [i,(j:Int)]∈S:=of_decide_eq_false hf;refine hh ?_;rw[WX,if_neg hm,aaU];exact hs.weak (wa.cast (pat:=[(3,.same),(4,.same),(5,.same)]))
 .have hi:j=8:=by
   have:=of_decide_eq_false (show decide ((j:Int)<=7)=false from hf);omega
  subst hi;show aaH 2 Q (.exit 2) a w;simp only[aaH,if_true];exact hQ a w (hs.weak (wa.cast (pat:=[(3,.same),(4,.same)])))
theorem Oah{Q:Exit->Act->World->Prop}{B:Nat}{W0:World}{F0:Fz}{r:Nat}{S:Aa}(hS:Cc 2 S)(hW:W0.heap[r]? = some (Va S)){a:Act}{w:World}(hs:MS (N7 r) B [] W0 F0 [] (E7' [] 0) a w)
  (hQ:∀a w,MS (N7 r) B [] W0 F0 [] [(3,LT (bc S))] a w->Q .normal a w):(nav C7 [1,1,0,1]).wp aau Q a w:=by
 refine Vf (c1:=nav C7 [1,1,0,1,0]) (id:=0) (by kernel_rfl) ?_;rw[show nav C7 [1,1,0,1,0]=.loop (nav C7 [1,1,0,1,0,0]) by kernel_rfl];refine Ef (σ:=Nat) (λi a w=>i<=8/\MS (N7 r) B [] W0 F0 [] (E7' (Jg S i) i) a w) (λi=>8 - i) ?_ 0 ⟨by omega,hs⟩;rintro i a w ⟨hi,hs⟩;refine wpS ?_;refine wpS ?_;refine aaC g0 (keep:=[3,4,8]) (e':=[(3,LT (Jg S i)),(4,.v .fr (.int .i64 i)),(8,.v .fr (.bool (cmp .leq i 7)))]) (ps:=[]) (by kernel_rfl) trivial hs (λa w hs=>?_);show(nav C7 [1,1,0,1,0,0,0,1]).wp _ _ a w;refine wpC (o:=.tmp 8) (hs.bool (k:=.fr) rfl) (λht=>Ed (by kernel_rfl) ?_) (λhf=>Wf (i:=0) (by kernel_rfl) ?_)
 .have hj:i<=7:=by
   have:=of_decide_eq_true (show decide ((i:Int)<=7)=true from ht);omega
  have hlen:=EN S i;show(nav C7 [1,1,0,1,0,0,1]).wp _ _ a w;refine wpS ?_;refine wpB (id:=1) ?_;refine wpS ?_;refine aaC g0 (keep:=[3,4,5]) (e':=E7 (Jg S i) i 0) (ps:=[]) (by kernel_rfl) trivial hs (λa w hs=>?_);refine Nah hS hW (by omega) hs (λa w hs=>?_);show(nav C7 [1,1,0,1,0,0,1,1]).wp _ _ a w;refine aaC g0 (keep:=[3,4]) (e':=E7' (Jg S (i+1)) (ar .add .i64 i 1)) (ps:=[]) (by kernel_rfl) trivial hs (λa w hs=>?_);refine⟨i+1,by omega,by omega,?_⟩;rw[Ji (by omega) (by omega)]at hs;exact hs
 .have hh:i=8:=by
   have:=of_decide_eq_false (show decide ((i:Int)<=7)=false from hf);omega
  subst hh;show aaH 0 Q (.exit 0) a w;simp only[aaH,if_true];exact hQ a w (hs.weak (wa.cast (pat:=[(3,.same)])))
theorem tim{w0:World}{r:Nat}{S:Aa}(hS:Cc 2 S)(hr:w0.heap[r]? = some (Va S)){F:Fz}(hF:Live F w0):Calls aau 179 #[.map (some r)] w0 (λe w'=>∃v F',e=.returned v/\RC F' w0.heap.size w' (.lst .time (bc S)) v/\Ua F w0 F' w'/\Live F' w'):=by
 refine calls_of_wp (fn:=Tryz.f179) (c:=C7) (by kernel_rfl) (by kernel_rfl) ?_;have hn:(Tryz.f179).ntmps=27:=by kernel_rfl
 rw[hn]
 have hj:Sim (N7 r) w0.heap.size [] w0 F [] { tmps:=#[.map (some r)]++Array.replicate (27 - (#[Value.map (some r)]).size) undef,defers:=[] } w0:=by
  refine⟨rfl,⟨by simp,(λs h=>by cases h),λp hp=>?_⟩,aaS _,(λb o h=>⟨hF.lt h,by simp⟩),Kept.refl _ _ _,F,λ_ _=>none,⟨⟨λ_ _ h=>h,λg cs hg=>⟨λhm=>hm.elim (λh=>by have:=hF.lt ((hF.tab g cs hg).1 0 hg.pos);omega) (λh=>by simp at h),(hF.tab g cs hg).1⟩⟩,λ_ _ h=>.inl h,hF,λs i s' i' b h=>(by cases h),λs i b h=>(by cases h),λs=>trivial⟩⟩;have hp:p=(0,.map (some r)):=by simpa using hp
  subst hp;show(#[Value.map (some r)]++Array.replicate 26 undef).getD 0 undef=.map (some r);rw[Array.getD_eq_getD_getElem?,Array.getElem?_append_left (by simp)];simp
 have hh:=MS.of hj rfl;refine dh (c1:=nav C7 [0]) (c2:=nav C7 [1]) (by kernel_rfl) ?_;refine aaC g0 (keep:=[]) (e':=[]) (ps:=[]) (by kernel_rfl) trivial hh (λa w hs=>?_);show(nav C7 [1]).wp _ _ a w;refine wpS ?_;refine aaC g0 (keep:=[3]) (e':=[(3,LT [])]) (ps:=[]) (by kernel_rfl) trivial hs (λa w hs=>?_);show(nav C7 [1,1]).wp _ _ a w;refine wpS ?_;refine wpS ?_;refine aaC g0 (keep:=[3,4]) (e':=E7' [] 0) (ps:=[]) (by kernel_rfl) trivial hs (λa w hs=>?_);refine Oah hS hr hs (λa w hs=>?_);show(nav C7 [1,1,1]).wp _ _ a w;refine wpS ?_;refine aaC g0 (keep:=[2]) (e':=[(2,LT (bc S))]) (ps:=[]) (by kernel_rfl) trivial hs (λa w hs=>?_);refine Ih (by kernel_rfl) ?_;have ht:=hs.to;obtain⟨F',ow,hx⟩:=ht.rep;have h2:RC F' w0.heap.size w (.lst .time (bc S)) (a.tmps.getD 2 undef):=(show Ca F' (lof w0.heap.size true) w (ow 2 none) (.lst .time (bc S)) (a.tmps.getD 2 undef) from hx.sr 2).1
 have hi:=Vs (P:=aau) (w:=w) (tmps:=a.tmps) (fn:=Tryz.f179) (rs:=[.tmp 2]) (by kernel_rfl) (vs:=[a.tmps.getD 2 undef]) rfl (λj rv v h h'=>by
  cases j with
  |zero=>simp only[List.getElem?_cons_zero,Option.some.injEq]at h h';subst h;subst h';rfl
  |succ j=>simp at h)
 exact⟨ht.defers,_,hi,_,F',rfl,h2,⟨ht.kept.os,ht.kept.tape,ht.kept.output,ht.kept.size,λk hk=>ht.kept.block k hk (by simp),hx.sub.out,λb o h=>(hx.new b o h).imp_right λh=>h.elim id (λh=>by simp at h)⟩,hx.live⟩
noncomputable def C8:Code:=pg Tryz.f152
abbrev N8(r:Nat):NP:=⟨61,none,[(5,.map (some r))]⟩
noncomputable def q3(i:Nat):Oper:=opN (opsOf (nav C8 [1,1,0])) i
noncomputable def q13(i:Nat):Oper:=opN (opsOf (nav C8 [1,1,1,1,0,1,0,0,1,0,1,0])) i
noncomputable def q26(i:Nat):Oper:=opN (opsOf (nav C8 [1,1,1,1,1,0])) i
theorem ops3:(q3 0).op=.makeMap 185 none/\(q3 0).dst=some 18/\(q3 0).guard=none/\(q3 1).op=.assign (.tmp 18)/\(q3 1).dst=some 5/\(q3 1).guard=none /\
  aax (opsOf (nav C8 [1,1,0])).size=[0,1]/\(opsOf (nav C8 [1,1,0]))[0]? = some (q3 0)/\(opsOf (nav C8 [1,1,0]))[1]? = some (q3 1):=(by and_intros<;>kernel_rfl)
theorem Pah:(q13 0).op=.move (.tmp 5)/\(q13 0).dst=some 34/\(q13 0).guard=none/\(q13 1).op=.call ⟨.value (.func 179),#[.tmp 34],#[185]⟩/\(q13 1).dst=some 35/\(q13 1).guard=none/\(q13 2).dst=some 9/\(q13 2).guard=none /\
  aax (opsOf (nav C8 [1,1,1,1,0,1,0,0,1,0,1,0])).size=[0,1,2]/\(opsOf (nav C8 [1,1,1,1,0,1,0,0,1,0,1,0]))[0]? = some (q13 0)/\(opsOf (nav C8 [1,1,1,1,0,1,0,0,1,0,1,0]))[1]? = some (q13 1)/\(opsOf (nav C8 [1,1,1,1,0,1,0,0,1,0,1,0]))[2]? = some (q13 2):=(by and_intros<;>kernel_rfl)
theorem Qah:(q26 0).op=.move (.tmp 5)/\(q26 0).dst=some 59/\(q26 0).guard=none/\(q26 1).op=.call ⟨.value (.func 179),#[.tmp 59],#[185]⟩/\(q26 1).dst=some 60/\(q26 1).guard=none/\(q26 2).dst=some 4/\(q26 2).guard=none /\
  aax (opsOf (nav C8 [1,1,1,1,1,0])).size=[0,1,2]/\(opsOf (nav C8 [1,1,1,1,1,0]))[0]? = some (q26 0)/\(opsOf (nav C8 [1,1,1,1,1,0]))[1]? = some (q26 1)/\(opsOf (nav C8 [1,1,1,1,1,0]))[2]? = some (q26 2):=(by and_intros<;>kernel_rfl)
def Qe(k:Int):List Row->Aa->Aa
 |[],S=>S
 |x::r,S=>Qe k r (if x.Key=k then ue S (tK x.At) else S)
def XX(x:Row):AV:=.box [(.fr,.int .i64 x.Key),(.fr,.int .i64 x.Val),(.fr,.int .i64 x.At.A),(.fr,.int .i64 x.At.B),(.fr,.int .i64 x.Diff)]
def EA(xs:List Row)(k i:Int):Env:=[(1,.v .fr (.int .i64 k)),(19,.v .sh (.lst .row xs)),(20,.v .fr (.int .i64 (ba .row xs))),(21,.v .fr (.int .i64 i))]
def EB(xs:List Row)(k i:Int)(x:Row):Env:=[(1,.v .fr (.int .i64 k)),(7,XX x),(19,.v .sh (.lst .row xs)),(20,.v .fr (.int .i64 (ba .row xs))),(21,.v .fr (.int .i64 i))]
theorem Rah{n:Nat}{S:Aa}(h:Cc n S){ks:List Int}(hk:ks.length=n):Cc n (ue S ks):=by
 unfold ue;split
 .exact h
 .intro p hp;rcases aas.1 hp with hp|hp
  .exact h p hp
  .simp at hp;subst hp;exact hk
noncomputable def r8(i:Nat):Oper:=opN (opsOf (nav C8 [1,1,1,0,1,0,0,1,1,0,0,1,1,0])) i
theorem Sah:(r8 0).op=.move (.tmp 5)/\(r8 0).dst=some 29/\(r8 0).guard=none/\(r8 1).dst=some 30/\(r8 1).guard=none/\(r8 2).dst=some 31/\(r8 2).guard=none /\
  (r8 3).op=.mapUpdate 185 (.tmp 29) (.tmp 31) (.const (.bool true))/\(r8 3).dst=none/\(r8 3).guard=none/\aax (opsOf (nav C8 [1,1,1,0,1,0,0,1,1,0,0,1,1,0])).size=[0,1,2,3]:=(by and_intros<;>kernel_rfl)
theorem yB:∀i,i<4->(opsOf (nav C8 [1,1,1,0,1,0,0,1,1,0,0,1,1,0]))[i]? = some (r8 i):=by
 intro i hi;rcases (show i=0\/i=1\/i=2\/i=3 by omega) with rfl|rfl|rfl|rfl<;>kernel_rfl
theorem Tah{Q:Exit->Act->World->Prop}{B:Nat}{W0:World}{F0:Fz}{r:Nat}{S:Aa}(hS:Cc 2 S){xs:List Row}{k i:Int}{x:Row}{a:Act}{w:World}(hs:MS (N8 r) B [] W0 F0 [(r,Va S)] (EB xs k i x) a w)
  (hQ:∀a w,MS (N8 r) B [] W0 F0 [(r,Va (ue S (tK x.At)))] (EA xs k i) a w->Q .normal a w):(nav C8 [1,1,1,0,1,0,0,1,1,0,0,1,1,0]).wp aau Q a w:=by
 obtain⟨p0,d0,q0,d1,q1,d2,q2,p3,d3,q3,hsz⟩:=Sah;refine Kc (by kernel_rfl) hsz ?_;rw[aaB];refine va (yB 0 (by omega)) q0 ?_;refine Xa (cf p0) ?_;rw[d0,aaB,hs.k (s:=5) (v:=.map (some r)) (by simp)];have h1:=hs.val (d:=29) (by kernel_rfl) (v:=.map (some r)) (av:=.dead) rfl (λ_ _=>trivial);refine va (yB 1 (by omega)) q1 ?_;refine h1.stepF g0 (ops:=opsOf (nav C8 [1,1,1,0,1,0,0,1,1,0,0,1,1,0])) (e':=(30,.baddr 7 2)::(29,.dead)::EB xs k i x) (ps:=[]) q1 (by kernel_rfl) trivial (λd h=>by rw[d1]at h;cases h;kernel_rfl) (λa2 w2 h2=>?_);rw[aaB];refine va (yB 2 (by omega)) q2 ?_;refine h2.stepF g0 (ops:=opsOf (nav C8 [1,1,1,0,1,0,0,1,1,0,0,1,1,0])) (e':=(31,.agg true [.int .i64 x.At.A,.int .i64 x.At.B])::(30,.baddr 7 2)::(29,.dead)::EB xs k i x) (ps:=[]) q2 (by kernel_rfl) trivial (λd h=>by rw[d2]at h;cases h;kernel_rfl) (λa3 w3 h3=>?_);rw[aaB];refine va (yB 3 (by omega)) q3 ?_;have hm:w3.heap[r]? = some (Va S):=h3.o (by simp)
 have hh:a3.tmps.getD 31 undef=Na (tK x.At):=by
  obtain⟨F,ow,hx⟩:=h3.sim.rep;obtain⟨vs,h1,h2⟩:=hx.sr 31;have h1:a3.tmps.getD 31 undef=.agg vs.toArray:=h1;rw[h1];cases h2 with
  |cons c1 h2=>cases h2 with
   |cons c2 h2=>cases h2;cases c1;cases c2;rfl
 refine Nj (SX p3 (by rw[h3.k (s:=29) (v:=.map (some r)) (by simp),hh];exact RX sty hm hS rfl)) ?_;rw[d3];refine xc _ (hQ _ _ ?_)
 have h4:=h3.set (r:=r) (o0:=Va S) (by simp) (Di w3 r (Va (ue S (tK x.At)))) (obs':=[(r,Va (ue S (tK x.At)))]) (λp hp=>by
  simp at hp;subst hp;exact .inr ⟨rfl,Ei hm,rfl⟩)
 have hw:wa ((31,.agg true [.int .i64 x.At.A,.int .i64 x.At.B])::(30,.baddr 7 2)::(29,.dead)::EB xs k i x) (EA xs k i):=by
  have he:mask (clean ((31,.agg true [.int .i64 x.At.A,.int .i64 x.At.B])::(30,.baddr 7 2)::(29,.dead)::EB xs k i x)) [1,19,20,21]=EA xs k i:=by kernel_rfl
  rw[<-he];exact λ_ _ _ _ _ _ _ hs=>hs.cleanMask _
 exact(h4.weak hw).forget rfl rfl (λp hp=>by simp at hp⊢;simp[hp]) (λp hp=>hp)
theorem FN(k:Int)(x:Row):∀(l:List Row) (S:Aa),Qe k (l++[x]) S=if x.Key=k then ue (Qe k l S) (tK x.At) else Qe k l S
 |[],_S=>rfl
 |_y::r,_S=>FN k x r _
theorem YX(k:Int):∀(l:List Row) (S:Aa),Cc 2 S->Cc 2 (Qe k l S)
 |[],S,h=>h
 |x::r,S,h=>by
  simp only[Qe];refine YX k r _ ?_;split
  .exact Rah h rfl
  .exact h
theorem loopA{xs:List Row}{k:Int}(hlim:xs.length<=1000000){Q:Exit->Act->World->Prop}{B:Nat}{W0:World}{F0:Fz}{r:Nat}{a:Act}{w:World}(hs:MS (N8 r) B [] W0 F0 [(r,Va [])] (EA xs k 0) a w)
  (hQ:∀a w,MS (N8 r) B [] W0 F0 [(r,Va (Qe k xs []))] [] a w->Q .normal a w):(nav C8 [1,1,1,0,1]).wp aau Q a w:=by
 refine Vf (c1:=nav C8 [1,1,1,0,1,0]) (id:=0) (by kernel_rfl) ?_;rw[show nav C8 [1,1,1,0,1,0]=.loop (nav C8 [1,1,1,0,1,0,0]) by kernel_rfl];refine Ef (σ:=Nat) (λi a w=>i<=xs.length/\MS (N8 r) B [] W0 F0 [(r,Va (Qe k (xs.take i) []))] (EA xs k i) a w) (λi=>xs.length - i) ?_ 0 ⟨aaX _,hs⟩;rintro i a w ⟨hi,hs⟩;refine wpS ?_;refine aaC g0 (keep:=[1,19,20,21,22]) (e':=[(1,.v .fr (.int .i64 k)),(19,.v .sh (.lst .row xs)),(20,.v .fr (.int .i64 (ba .row xs))),(21,.v .fr (.int .i64 i)),(22,.v .fr (.bool (cmp .lss i (ba .row xs))))]) (ps:=[]) (by kernel_rfl) trivial hs (λa w hs=>?_);show(nav C8 [1,1,1,0,1,0,0,1]).wp _ _ a w;refine wpS ?_;refine wpC (o:=.tmp 22) (hs.bool (k:=.fr) rfl) (λht=>Ed (by kernel_rfl) ?_) (λhf=>Wf (i:=0) (by kernel_rfl) ?_)
 .have hl:i<xs.length:=by
   have:=of_decide_eq_true (show decide ((i:Int)<ba .row xs)=true from ht);unfold ba at this;omega
  have hm:xs.take (i+1)=xs.take i++[rd .row xs i]:=by
   rw[aaW hl]
   congr 2
   unfold rd;rw[aan,show(i:Int).toNat=i from rfl,aaD hl];rfl
  have hh:∀ {a:Act}{w:World},MS (N8 r) B [] W0 F0 [(r,Va (Qe k (xs.take (i+1)) []))] (EA xs k i) a w->(nav C8 [1,1,1,0,1,0,0,1,1,1]).wp aau (λe a' w'=>Exit.then (λa' w'=>∃s',xs.length - s'<xs.length - i/\(s'<=xs.length/\MS (N8 r) B [] W0 F0 [(r,Va (Qe k (xs.take s') []))] (EA xs k s') a' w')) (aaH 0 Q) e a' w') a w:=λhs=>by
   refine aaC g0 (keep:=[1,19,20,21]) (e':=EA xs k (ar .add .i64 i 1)) (ps:=[]) (by kernel_rfl) trivial hs (λa w hs=>?_);refine⟨i+1,by omega,by omega,?_⟩;rw[Ji (by omega) (by omega)]at hs;exact hs
  show(nav C8 [1,1,1,0,1,0,0,1,1]).wp _ _ a w;refine wpS ?_;refine wpB (id:=1) ?_;refine wpS ?_;refine aaC g0 (keep:=[1,7,19,20,21]) (e':=EB xs k i (rd .row xs i)) (ps:=[inb i (ba .row xs)]) (by kernel_rfl) ⟨⟨by omega,by unfold ba;omega⟩,trivial⟩ hs (λa w hs=>?_);show(nav C8 [1,1,1,0,1,0,0,1,1,0,0,1]).wp _ _ a w;refine wpS ?_;refine aaC g0 (keep:=[1,7,19,20,21,28]) (e':=[(1,.v .fr (.int .i64 k)),(7,XX (rd .row xs i)),(19,.v .sh (.lst .row xs)),(20,.v .fr (.int .i64 (ba .row xs))),(21,.v .fr (.int .i64 i)),(28,.v .fr (.bool (cmp .eql (rd .row xs i).Key k)))]) (ps:=[]) (by kernel_rfl) trivial hs (λa w hs=>?_);show(nav C8 [1,1,1,0,1,0,0,1,1,0,0,1,1]).wp _ _ a w;refine wpC (o:=.tmp 28) (hs.bool (k:=.fr) rfl) (λht=>?_) (λhf=>Ed (by kernel_rfl) ?_)
  .have hk:(rd .row xs i).Key=k:=by simpa [cmp] using ht
   refine Tah (xs:=xs) (k:=k) (i:=i) (x:=rd .row xs i) (YX k _ [] (λp hp=>by cases hp)) (hs.weak (wa.cast (e':=EB xs k i (rd .row xs i)) (pat:=[(1,.same),(7,.same),(19,.same),(20,.same),(21,.same)]))) (λa w hs=>?_);refine hh ?_;rw[hm,FN,if_pos hk];exact hs
  .have hk:¬ (rd .row xs i).Key=k:=by simpa [cmp] using hf
   refine hh ?_;rw[hm,FN,if_neg hk];exact hs.weak (wa.cast (pat:=[(1,.same),(19,.same),(20,.same),(21,.same)]))
 .have hj:xs.length<=i:=by
   have:=of_decide_eq_false (show decide ((i:Int)<ba .row xs)=false from hf);unfold ba at this;omega
  show aaH 0 Q (.exit 0) a w;simp only[aaH,if_true];refine hQ a w ?_;rw[abn hj]at hs;exact hs.weak (wa.cast (pat:=[]))
theorem ZX{N:NP}{B:Nat}{W0:World}{F0:Fz}{obs:List (Nat×Obj)}{e:Env}{a:Act}{w:World}(hs:MS N B [] W0 F0 obs e a w){r:Nat}{S:Aa}(hS:Cc 2 S)(hr:(r,Va S)∈obs){o:Oper}{x d:Nat}
  (hop:o.op=.call ⟨.value (.func 179),#[.tmp x],#[185]⟩) (hx:a.tmps.getD x undef=.map (some r)) (hd:o.dst=some d) (hdN:N.ok d=true) {next:Act->World->Prop}{Q:Exit->Act->World->Prop}
  (hn:∀v w',MS ⟨N.n,N.r,(d,v)::N.k⟩ B [] W0 F0 obs (put e d (.v .fr (.lst .time (bc S)))) (a.put (some d) v) w'->next (a.put (some d) v) w'):o.wp aau a w next Q:=by
 have hj : aau.funcs[179]? = some Tryz.f179:=by kernel_rfl
 have ho:((Tryz.f179).name == "runtime.NumGoroutine")=false:=by kernel_rfl
 have hh:(Tryz.f179).body.isNone=false:=by kernel_rfl
 have hu:(execOp a.eval o).run aau w=.ok (.enter 179 #[.map (some r)]) w:=by
  obtain⟨dst,op,ty,pos,aft,gd⟩:=o;simp only[]at hop;subst hop;have hq:¬ (Tryz.f179).name="runtime.NumGoroutine":=by simpa using ho
  have hi:¬ (Tryz.f179).body=none:=by intro e;rw[e]at hh;simp at hh
  simp[execOp,resolve,Act.eval,Deferred.ofValue,invoke,callFunc,hj,hq,hi,hx]
 unfold Oper.wp;rw[hu,Oper.upon_enter];obtain⟨F,ow,hv⟩:=hs.sim.rep;refine(tim hS (hs.o hr) (F:=F) hv.live).mono ?_;rintro e' w' ⟨v,F',rfl,ht,hg,hl⟩;show next (a.put o.dst v) w';rw[hd];refine hn v w' ?_
 have hm:Kept B [] w w':=⟨hg.os,hg.tape,hg.output,hg.size,λk hk _=>hg.block k (Nat.lt_of_lt_of_le hk hs.sim.base),λk o hk _=>by
  rw[hg.block k (Array.getElem?_eq_some_iff.1 hk).1];exact hk⟩
 refine⟨⟨hs.sim.defers,hs.sim.tmps.putK hdN v,abq hs.sim.base hg.size,hs.sim.f0,Kept.refl _ _ _,F',λs=>if s=d then(λ_=>none) else ow s,?_⟩,hs.kept.trans hm,λp hp=>⟨hm.obj _ _ (hs.ob p hp).1 (hs.ob p hp).2.1,(hs.ob p hp).2⟩,hs.hB⟩;rw[show(λn=>(a.put (some d) v).tmps.getD n undef)=λn=>if n=d then v else a.tmps.getD n undef from funext (Ja a d v (by rw[hs.sim.tmps.size];exact NP.ok_lt hdN))];refine hv.put hs.sim.base hg hl (λi b h=>by simp at h) (λi i' b h=>by simp at h) (λg' _ _=>?_);show RC F' B w' _ (if d=d then v else _);rw[if_pos rfl];exact ht.mono (λ_ _ h=>h) hs.sim.base (λ_ _ _=>rfl)
abbrev TL(l:List Time):AV:=.v .fr (.lst .time l)
def Fm(t:Time):AV:=.box [(.fr,.int .i64 t.A),(.fr,.int .i64 t.B)]
def EJ(l:List Time)(b:Bool)(i:Int)(s:Time)(j:Int):Env:=[(8,.v .fr (.bool b)),(9,TL l),(11,Fm s),(36,TL l),(37,.v .fr (.int .i64 (ba .time l))),(38,.v .fr (.int .i64 i)),(42,TL l),(43,.v .fr (.int .i64 (ba .time l))),(44,.v .fr (.int .i64 j))]
def EI(l:List Time)(b:Bool)(i:Int):Env:=[(8,.v .fr (.bool b)),(9,TL l),(36,TL l),(37,.v .fr (.int .i64 (ba .time l))),(38,.v .fr (.int .i64 i))]
def Kg(st:Aa×Bool)(t:Time):Aa×Bool:=if tK t∈st.1 then st else(st.1++[tK t],true)
theorem Uah{st:Aa×Bool}(h:Cc 2 st.1)(t:Time):Cc 2 (Kg st t).1:=by
 unfold Kg;split
 .exact h
 .intro p hp;rcases aas.1 hp with hp|hp
  .exact h p hp
  .simp at hp;subst hp;rfl
def EK(l:List Time)(b:Bool)(i:Int)(s:Time)(j:Int)(t:Time):Env:=(14,Fm t)::EJ l b i s j
noncomputable def r21(i:Nat):Oper:=opN (opsOf (nav C8 [1,1,1,1,0,1,0,0,1,0,1,1,1,0,0,1,1,0,0,1,1,0,0,1,1,0,0,1,1,0])) i
noncomputable def r22(i:Nat):Oper:=opN (opsOf (nav C8 [1,1,1,1,0,1,0,0,1,0,1,1,1,0,0,1,1,0,0,1,1,0,0,1,1,0,0,1,1,1,0,0])) i
theorem Vah:(r21 0).op=.move (.tmp 5)/\(r21 0).dst=some 51/\(r21 0).guard=none/\(r21 1).dst=some 52/\(r21 1).guard=none/\(r21 2).op=.lookup 185 (.tmp 51) (.tmp 52) false/\(r21 2).dst=some 53/\(r21 2).guard=none/\(r21 3).dst=some 54/\(r21 3).guard=none /\
  aax (opsOf (nav C8 [1,1,1,1,0,1,0,0,1,0,1,1,1,0,0,1,1,0,0,1,1,0,0,1,1,0,0,1,1,0])).size=[0,1,2,3]/\(opsOf (nav C8 [1,1,1,1,0,1,0,0,1,0,1,1,1,0,0,1,1,0,0,1,1,0,0,1,1,0,0,1,1,0]))[0]? = some (r21 0)/\(opsOf (nav C8 [1,1,1,1,0,1,0,0,1,0,1,1,1,0,0,1,1,0,0,1,1,0,0,1,1,0,0,1,1,0]))[1]? = some (r21 1)/\(opsOf (nav C8 [1,1,1,1,0,1,0,0,1,0,1,1,1,0,0,1,1,0,0,1,1,0,0,1,1,0,0,1,1,0]))[2]? = some (r21 2)/\(opsOf (nav C8 [1,1,1,1,0,1,0,0,1,0,1,1,1,0,0,1,1,0,0,1,1,0,0,1,1,0,0,1,1,0]))[3]? = some (r21 3):=(by and_intros<;>kernel_rfl)
theorem Wah{Q:Exit->Act->World->Prop}{B:Nat}{W0:World}{F0:Fz}{r:Nat}{S:Aa}(hS:Cc 2 S){l:List Time}{b:Bool}{i j:Int}{s t:Time}{a:Act}{w:World}(hs:MS (N8 r) B [] W0 F0 [(r,Va S)] (EK l b i s j t) a w)
  (hQ:∀a w,MS (N8 r) B [] W0 F0 [(r,Va S)] ((54,.v .fr (.bool (!decide (tK t∈S))))::EK l b i s j t) a w->Q .normal a w):(nav C8 [1,1,1,1,0,1,0,0,1,0,1,1,1,0,0,1,1,0,0,1,1,0,0,1,1,0,0,1,1,0]).wp aau Q a w:=by
 obtain⟨p0,d0,q0,d1,q1,p2,d2,q2,d3,q3,hsz,a0,a1,a2,a3⟩:=Vah;refine Kc (by kernel_rfl) hsz ?_;rw[aaB];refine va a0 q0 ?_;refine Xa (cf p0) ?_;rw[d0,aaB,hs.k (s:=5) (v:=.map (some r)) (by simp)];have h1:=hs.val (d:=51) (by kernel_rfl) (v:=.map (some r)) (av:=.dead) rfl (λ_ _=>trivial);refine va a1 q1 ?_;refine h1.stepF g0 (ops:=opsOf (nav C8 [1,1,1,1,0,1,0,0,1,0,1,1,1,0,0,1,1,0,0,1,1,0,0,1,1,0,0,1,1,0])) (e':=(52,.agg true [.int .i64 t.A,.int .i64 t.B])::(51,.dead)::EK l b i s j t) (ps:=[]) q1 (by kernel_rfl) trivial (λd h=>by rw[d1]at h;cases h;kernel_rfl) (λa' w' h2=>?_);rw[aaB];refine va a2 q2 ?_;have hm:w'.heap[r]? = some (Va S):=h2.o (by simp)
 have hh:a'.tmps.getD 52 undef=Na (tK t):=by
  obtain⟨F,ow,hx⟩:=h2.sim.rep;obtain⟨vs,h1,h2⟩:=hx.sr 52;have h1:a'.tmps.getD 52 undef=.agg vs.toArray:=h1;rw[h1];cases h2 with
  |cons c1 h2=>cases h2 with
   |cons c2 h2=>cases h2;cases c1;cases c2;rfl
 refine Xa (jt p2 (by rw[h2.k (s:=51) (v:=.map (some r)) (by simp),hh];exact QX sty hm hS rfl)) ?_;rw[d2,aaB];have h3:=h2.val (d:=53) (by kernel_rfl) (v:=.bool (decide (tK t∈S))) (av:=.v .fr (.bool (decide (tK t∈S)))) rfl (λ_ _=>.bool _);refine va a3 q3 ?_;refine h3.stepF g0 (ops:=opsOf (nav C8 [1,1,1,1,0,1,0,0,1,0,1,1,1,0,0,1,1,0,0,1,1,0,0,1,1,0,0,1,1,0])) (e':=(54,.v .fr (.bool (!decide (tK t∈S))))::(53,.v .fr (.bool (decide (tK t∈S))))::(52,.agg true [.int .i64 t.A,.int .i64 t.B])::(51,.dead)::EK l b i s j t) (ps:=[]) q3 (by kernel_rfl) trivial (λd h=>by rw[d3]at h;cases h;kernel_rfl) (λa'' w'' h4=>?_);refine xc _ (hQ _ _ ?_);exact(h4.weak (wa.cast (pat:=[(54,.same),(14,.same),(8,.same),(9,.same),(11,.same),(36,.same),(37,.same),(38,.same),(42,.same),(43,.same),(44,.same)]))).forget rfl rfl (λp hp=>by simp at hp⊢;simp[hp]) (λp hp=>hp)
theorem Xah:(r22 0).op=.move (.tmp 5)/\(r22 0).dst=some 55/\(r22 0).guard=none/\(r22 1).dst=some 56/\(r22 1).guard=none/\(r22 2).op=.mapUpdate 185 (.tmp 55) (.tmp 56) (.const (.bool true))/\(r22 2).dst=none/\(r22 2).guard=none /\
  aax (opsOf (nav C8 [1,1,1,1,0,1,0,0,1,0,1,1,1,0,0,1,1,0,0,1,1,0,0,1,1,0,0,1,1,1,0,0])).size=[0,1,2]/\(opsOf (nav C8 [1,1,1,1,0,1,0,0,1,0,1,1,1,0,0,1,1,0,0,1,1,0,0,1,1,0,0,1,1,1,0,0]))[0]? = some (r22 0)/\(opsOf (nav C8 [1,1,1,1,0,1,0,0,1,0,1,1,1,0,0,1,1,0,0,1,1,0,0,1,1,0,0,1,1,1,0,0]))[1]? = some (r22 1)/\(opsOf (nav C8 [1,1,1,1,0,1,0,0,1,0,1,1,1,0,0,1,1,0,0,1,1,0,0,1,1,0,0,1,1,1,0,0]))[2]? = some (r22 2):=(by and_intros<;>kernel_rfl)
theorem Yah{Q:Exit->Act->World->Prop}{B:Nat}{W0:World}{F0:Fz}{r:Nat}{S:Aa}(hS:Cc 2 S){l:List Time}{b:Bool}{i j:Int}{s t:Time}{a:Act}{w:World}(hs:MS (N8 r) B [] W0 F0 [(r,Va S)] (EK l b i s j t) a w)
  (hQ:∀a w,MS (N8 r) B [] W0 F0 [(r,Va (ue S (tK t)))] (EJ l b i s j) a w->Q .normal a w):(nav C8 [1,1,1,1,0,1,0,0,1,0,1,1,1,0,0,1,1,0,0,1,1,0,0,1,1,0,0,1,1,1,0,0]).wp aau Q a w:=by
 obtain⟨p0,d0,q0,d1,q1,p2,d2,q2,hsz,a0,a1,a2⟩:=Xah;refine Kc (by kernel_rfl) hsz ?_;rw[aaB];refine va a0 q0 ?_;refine Xa (cf p0) ?_;rw[d0,aaB,hs.k (s:=5) (v:=.map (some r)) (by simp)];have h1:=hs.val (d:=55) (by kernel_rfl) (v:=.map (some r)) (av:=.dead) rfl (λ_ _=>trivial);refine va a1 q1 ?_;refine h1.stepF g0 (ops:=opsOf (nav C8 [1,1,1,1,0,1,0,0,1,0,1,1,1,0,0,1,1,0,0,1,1,0,0,1,1,0,0,1,1,1,0,0])) (e':=(56,.agg true [.int .i64 t.A,.int .i64 t.B])::(55,.dead)::EK l b i s j t) (ps:=[]) q1 (by kernel_rfl) trivial (λd h=>by rw[d1]at h;cases h;kernel_rfl) (λa' w' h2=>?_);rw[aaB];refine va a2 q2 ?_;have hm:w'.heap[r]? = some (Va S):=h2.o (by simp)
 have hh:a'.tmps.getD 56 undef=Na (tK t):=by
  obtain⟨F,ow,hx⟩:=h2.sim.rep;obtain⟨vs,h1,h2⟩:=hx.sr 56;have h1:a'.tmps.getD 56 undef=.agg vs.toArray:=h1;rw[h1];cases h2 with
  |cons c1 h2=>cases h2 with
   |cons c2 h2=>cases h2;cases c1;cases c2;rfl
 refine Nj (SX p2 (by rw[h2.k (s:=55) (v:=.map (some r)) (by simp),hh];exact RX sty hm hS rfl)) ?_;rw[d2];refine xc _ (hQ _ _ ?_)
 have h4:=h2.set (r:=r) (o0:=Va S) (by simp) (Di w' r (Va (ue S (tK t)))) (obs':=[(r,Va (ue S (tK t)))]) (λp hp=>by
  simp at hp;subst hp;exact .inr ⟨rfl,Ei hm,rfl⟩)
 exact(h4.weak (wa.cast (pat:=[(8,.same),(9,.same),(11,.same),(36,.same),(37,.same),(38,.same),(42,.same),(43,.same),(44,.same)]))).forget rfl rfl (λp hp=>by simp at hp⊢;simp[hp]) (λp hp=>hp)
def Dc(l:List Time)(s:Time)(st:Aa×Bool):Aa×Bool:=l.foldl (λst t=>Kg st (Cb s t)) st
def uf(l:List Time)(ss:List Time)(st:Aa×Bool):Aa×Bool:=ss.foldl (λst s=>Dc l s st) st
def rnd(S:Aa):Aa×Bool:=uf (bc S) (bc S) (S,false)
theorem Zah(l:List Time)(s t:Time)(st:Aa×Bool):Dc (l++[t]) s st=Kg (Dc l s st) (Cb s t):=by unfold Dc;rw[aaK];rfl
theorem aai(l ss:List Time)(s:Time)(st:Aa×Bool):uf l (ss++[s]) st=Dc l s (uf l ss st):=by unfold uf;rw[aaK];rfl
theorem GN:∀(l:List Time) (s:Time) (st:Aa×Bool),Cc 2 st.1->Cc 2 (Dc l s st).1
 |[],_,_,h=>h
 |t::l,s,st,h=>GN l s (Kg st (Cb s t)) (Uah h _)
theorem aY(l:List Time):∀(ss:List Time) (st:Aa×Bool),Cc 2 st.1->Cc 2 (uf l ss st).1
 |[],_,h=>h
 |s::ss,st,h=>aY l ss (Dc l s st) (GN l s st h)
def ij(S:Aa)(t:Time):Bool:=decide (tK t∈S)
theorem HN(S:Aa):∀n,Jg S n=Zc (ij S) n
 |0=>rfl
 |n+1=>by
  simp only[Jg,Zc,HN S n];rfl
theorem JN{S:Aa}{t:Time}:t∈bc S↔tK t∈S/\xa t=true:=by
 unfold bc;rw[HN,xB];simp only[ij,xa,decide_eq_true_eq];exact⟨λh=>⟨h.1,by omega⟩,λh=>⟨h.1,by omega⟩⟩
def mu(S:Aa):Nat:=cnt (ij S) allT
def GoodS(xs:List Row)(k:Int)(S:Aa):Prop:=∀p∈S,∃t,p=tK t/\xa t=true/\jT xs k t=true
structure Lg(xs:List Row)(k:Int)(S0:Aa)(st:Aa×Bool)(D:Time->Time->Prop):Prop where
 sub:∀p∈S0,p∈st.1
 good:GoodS xs k st.1
 same:st.2=false->st.1=S0/\∀s t,D s t->tK (Cb s t)∈S0
 less:st.2=true->mu st.1<mu S0
theorem bai{s t:Time}(hs:xa s=true)(ht:xa t=true):xa (Cb s t)=true:=by
 simp only[xa,Cb,Kk,decide_eq_true_eq] at *;refine⟨?_,?_,?_,?_⟩<;>split<;>omega
theorem Lg.add{xs:List Row}{k:Int}{S0:Aa}{st:Aa×Bool}{D:Time->Time->Prop}(h:Lg xs k S0 st D){s t:Time}(hs:xa s=true/\jT xs k s=true)(ht:xa t=true/\jT xs k t=true) :
  Lg xs k S0 (Kg st (Cb s t)) (λa b=>D a b\/(a=s/\b=t)):=by
 have hh:=bai hs.1 ht.1;unfold Kg;split
 .rename_i hm;exact⟨h.sub,h.good,λhf=>⟨(h.same hf).1,λa b hab=>hab.elim ((h.same hf).2 a b) λe=>by rw[e.1,e.2,<-(h.same hf).1];exact hm⟩,h.less⟩
 .rename_i hm;refine⟨λp hp=>aas.2 (.inl (h.sub p hp)),λp hp=>?_,λhf=>(by cases hf),λ_=>?_⟩
  .rcases aas.1 hp with hp|hp
   .exact h.good p hp
   .simp at hp;exact⟨_,hp,hh,FX hs.2 ht.2⟩
  .have h1:mu (st.1++[tK (Cb s t)])<mu st.1:=cnt_lt (y:=Cb s t) (λx _ hx=>by simp only[ij,decide_eq_true_eq]at hx⊢;exact aas.2 (.inl hx)) (IX.2 hh) (by simpa [ij] using hm) (by simp[ij])
   cases hb:st.2 with
   |true=>exact Nat.lt_trans h1 (h.less hb)
   |false=>rw[(h.same hb).1]at h1⊢;exact h1
theorem Lg.mono{xs:List Row}{k:Int}{S0:Aa}{st:Aa×Bool}{D D':Time->Time->Prop}(h:Lg xs k S0 st D)(hd:∀a b,D' a b->D a b):Lg xs k S0 st D':=⟨h.sub,h.good,λhf=>⟨(h.same hf).1,λa b hab=>(h.same hf).2 a b (hd a b hab)⟩,h.less⟩
theorem cY{xs:List Row}{k:Int}{S0:Aa}{s:Time}(hs:xa s=true/\jT xs k s=true):∀(l:List Time) (st:Aa×Bool) (D:Time->Time->Prop),(∀t∈l,xa t=true/\jT xs k t=true)->Lg xs k S0 st D ->
  Lg xs k S0 (Dc l s st) (λa b=>D a b\/(a=s/\b∈l))
 |[],st,D,_,h=>h.mono λa b hab=>hab.elim id λe=>by cases e.2
 |t::l,st,D,hl,h=>(cY hs l (Kg st (Cb s t)) _ (λu hu=>hl u (by simp[hu])) (h.add hs (hl t (by simp)))).mono λa b hab=>by
  rcases hab with hab|⟨e1,e2⟩
  .exact .inl (.inl hab)
  .rcases aaL.1 e2 with rfl|e2
   .exact .inl (.inr ⟨e1,rfl⟩)
   .exact .inr ⟨e1,e2⟩
theorem eY{xs:List Row}{k:Int}{S0:Aa}{l:List Time}(hl:∀t∈l,xa t=true/\jT xs k t=true):∀(ss:List Time) (st:Aa×Bool) (D:Time->Time->Prop),(∀t∈ss,xa t=true/\jT xs k t=true)->Lg xs k S0 st D ->
  Lg xs k S0 (uf l ss st) (λa b=>D a b\/(a∈ss/\b∈l))
 |[],st,D,_,h=>h.mono λa b hab=>hab.elim id λe=>by cases e.1
 |s::ss,st,D,hss,h=>(eY hl ss (Dc l s st) _ (λu hu=>hss u (by simp[hu])) (cY (hss s (by simp)) l st D hl h)).mono λa b hab=>by
  rcases hab with hab|⟨e1,e2⟩
  .exact .inl (.inl hab)
  .rcases aaL.1 e1 with rfl|e1
   .exact .inl (.inr ⟨rfl,e2⟩)
   .exact .inr ⟨e1,e2⟩
theorem fY{xs:List Row}{k:Int}{S:Aa}(h:GoodS xs k S):∀t∈bc S,xa t=true/\jT xs k t=true:=λt ht=>by
 obtain⟨h1,h2⟩:=JN.1 ht;obtain⟨u,e,_,h3⟩:=h _ h1;rw[vB e];exact⟨by rw[<-vB e];exact h2,h3⟩
theorem cai{xs:List Row}{k:Int}{S:Aa}(h:GoodS xs k S):Lg xs k S (rnd S) (λa b=>a∈bc S/\b∈bc S):=(eY (fY h) (bc S) (S,false) (λ_ _=>False) (fY h) ⟨λ_ hp=>hp,h,λ_=>⟨rfl,λ_ _ h=>h.elim⟩,λhf=>by cases hf⟩).mono λ_ _ hab=>.inr hab
def lr(xs:List Row)(k:Int)(S:Aa):Prop:=∀x∈xs,x.Key=k->tK x.At∈S
def LN(S:Aa):Prop:=∀s t,s∈bc S->t∈bc S->tK (Cb s t)∈S
theorem dai{xs:List Row}{k:Int}{S:Aa}(h1:GoodS xs k S)(h2:lr xs k S)(h3:LN S):bc S=Zc (jT xs k) 8:=by
 unfold bc;rw[HN];refine BN λa b ha hb=>?_;rw[aat];constructor
 .intro h;simp only[ij,decide_eq_true_eq]at h;obtain⟨u,e,_,h4⟩:=h1 _ h;rw[vB e];exact h4
 .intro h
  have hM:∀t:Time,tK t∈S->t∈bc S:=λt ht=>by
   obtain⟨u,e,h5,_⟩:=h1 _ ht;rw[<-vB e]at h5;exact JN.2 ⟨ht,h5⟩
  have:=GX (M:=λt=>tK t∈S) h2 (λs t hs ht=>h3 s t (hM s hs) (hM t ht)) h;simpa [ij] using this
theorem MN(k:Int):∀(xs:List Row) (S:Aa) (p:List Int),p∈Qe k xs S↔p∈S\/∃x∈xs,x.Key=k/\p=tK x.At
 |[],S,p=>by simp[Qe]
 |x::r,S,p=>by
  rw[Qe,MN k r];by_cases hk:x.Key=k
  .have hi:p∈ue S (tK x.At)↔p∈S\/p=tK x.At:=by
    unfold ue;split
    .rename_i hm;exact⟨.inl,λh=>h.elim id λe=>e▸hm⟩
    .simp
   rw[if_pos hk,hi];constructor
   .rintro ((h|h)|⟨y,h1,h2,h3⟩)
    .exact .inl h
    .exact .inr ⟨x,by simp,hk,h⟩
    .exact .inr ⟨y,by simp[h1],h2,h3⟩
   .rintro (h|⟨y,h1,h2,h3⟩)
    .exact .inl (.inl h)
    .rcases aaL.1 h1 with rfl|h1
     .exact .inl (.inr h3)
     .exact .inr ⟨y,h1,h2,h3⟩
  .rw[if_neg hk];constructor
   .rintro (h|⟨y,h1,h2,h3⟩)
    .exact .inl h
    .exact .inr ⟨y,by simp[h1],h2,h3⟩
   .rintro (h|⟨y,h1,h2,h3⟩)
    .exact .inl h
    .rcases aaL.1 h1 with rfl|h1
     .exact absurd h2 hk
     .exact .inr ⟨y,h1,h2,h3⟩
end Tg
namespace Tg
open Go
theorem eai{Q:Exit->Act->World->Prop}{B:Nat}{W0:World}{F0:Fz}{r:Nat}{S:Aa}(hS:Cc 2 S){l:List Time}(hlen:l.length<=64)(hl:∀t∈l,xa t=true){b:Bool}{i:Int}{s:Time}(hs0:xa s=true){a:Act}{w:World}(hs:MS (N8 r) B [] W0 F0 [(r,Va S)] (EJ l b i s 0) a w)
  (hQ:∀a w,MS (N8 r) B [] W0 F0 [(r,Va (Dc l s (S,b)).1)] (EI l (Dc l s (S,b)).2 i) a w->Q .normal a w):(nav C8 [1,1,1,1,0,1,0,0,1,0,1,1,1,0,0,1,1,0,0,1,1]).wp aau Q a w:=by
 refine Vf (c1:=nav C8 [1,1,1,1,0,1,0,0,1,0,1,1,1,0,0,1,1,0,0,1,1,0]) (id:=6) (by kernel_rfl) ?_;rw[show nav C8 [1,1,1,1,0,1,0,0,1,0,1,1,1,0,0,1,1,0,0,1,1,0]=.loop (nav C8 [1,1,1,1,0,1,0,0,1,0,1,1,1,0,0,1,1,0,0,1,1,0,0]) by kernel_rfl];refine Ef (σ:=Nat) (λj a w=>j<=l.length/\MS (N8 r) B [] W0 F0 [(r,Va (Dc (l.take j) s (S,b)).1)] (EJ l (Dc (l.take j) s (S,b)).2 i s j) a w) (λj=>l.length - j) ?_ 0 ⟨aaX _,hs⟩;rintro j a w ⟨hj,hs⟩;refine wpS ?_;refine aaC g0 (keep:=[8,9,11,36,37,38,42,43,44,45]) (e':=[(8,.v .fr (.bool (Dc (l.take j) s (S,b)).2)),(9,TL l),(11,Fm s),(36,TL l),(37,.v .fr (.int .i64 (ba .time l))),(38,.v .fr (.int .i64 i)),(42,TL l),(43,.v .fr (.int .i64 (ba .time l))),(44,.v .fr (.int .i64 j)),(45,.v .fr (.bool (cmp .lss j (ba .time l))))]) (ps:=[]) (by kernel_rfl) trivial hs (λa w hs=>?_);show(nav C8 [1,1,1,1,0,1,0,0,1,0,1,1,1,0,0,1,1,0,0,1,1,0,0,1]).wp _ _ a w;refine wpS ?_;refine wpC (o:=.tmp 45) (hs.bool (k:=.fr) rfl) (λht=>Ed (by kernel_rfl) ?_) (λhf=>Wf (i:=6) (by kernel_rfl) ?_)
 .have hn:j<l.length:=by
   have:=of_decide_eq_true (show decide ((j:Int)<ba .time l)=true from ht);unfold ba at this;omega
  have hq:rd .time l j=l[j]:=by
   unfold rd;rw[aan,show(j:Int).toNat=j from rfl,aaD hn];rfl
  have hu:l.take (j+1)=l.take j++[rd .time l j]:=by rw[aaW hn,hq]
  have hp:xa (rd .time l j)=true:=by rw[hq];exact hl _ (abj hn)
  have hk:=GN (l.take j) s (S,b) hS;have ho:Dc (l.take (j+1)) s (S,b)=Kg (Dc (l.take j) s (S,b)) (Cb s (rd .time l j)):=by rw[aaW hn,Zah,<-hq]
  generalize Dc (l.take j) s (S,b)=st at hs hk ho;generalize htt:rd .time l j=t at ho hp
  have hh:∀ {a:Act}{w:World},MS (N8 r) B [] W0 F0 [(r,Va (Dc (l.take (j+1)) s (S,b)).1)] (EJ l (Dc (l.take (j+1)) s (S,b)).2 i s j) a w->(nav C8 [1,1,1,1,0,1,0,0,1,0,1,1,1,0,0,1,1,0,0,1,1,0,0,1,1,1]).wp aau (λe a' w'=>Exit.then (λa' w'=>∃s',l.length - s'<l.length - j/\(s'<=l.length/\MS (N8 r) B [] W0 F0 [(r,Va (Dc (l.take s') s (S,b)).1)] (EJ l (Dc (l.take s') s (S,b)).2 i s s') a' w')) (aaH 6 Q) e a' w') a w:=λhs=>by
   refine aaC g0 (keep:=[8,9,11,36,37,38,42,43,44]) (e':=EJ l (Dc (l.take (j+1)) s (S,b)).2 i s (ar .add .i64 j 1)) (ps:=[]) (by kernel_rfl) trivial hs (λa w hs=>?_);refine⟨j+1,by omega,by omega,?_⟩;rw[Ji (by omega) (by omega)]at hs;exact hs
  show(nav C8 [1,1,1,1,0,1,0,0,1,0,1,1,1,0,0,1,1,0,0,1,1,0,0,1,1]).wp _ _ a w;refine wpS ?_;refine wpB (id:=7) ?_;refine wpS ?_;refine aaC g0 (keep:=[13,8,9,11,36,37,38,42,43,44]) (e':=(13,Fm (rd .time l j))::EJ l st.2 i s j) (ps:=[inb j (ba .time l)]) (by kernel_rfl) ⟨⟨by omega,by unfold ba;omega⟩,trivial⟩ hs (λa w hs=>?_);rw[htt]at hs;show(nav C8 [1,1,1,1,0,1,0,0,1,0,1,1,1,0,0,1,1,0,0,1,1,0,0,1,1,0,0,1]).wp _ _ a w;refine wpS ?_;refine aaC g2 (keep:=[14,8,9,11,36,37,38,42,43,44]) (e':=(14,Fm (yp s t))::EJ l st.2 i s j) (ps:=[zp s t]) (by kernel_rfl) ⟨(xF hs0 hp).1,trivial⟩ hs (λa w hs=>?_);rw[(xF hs0 hp).2]at hs;show(nav C8 [1,1,1,1,0,1,0,0,1,0,1,1,1,0,0,1,1,0,0,1,1,0,0,1,1,0,0,1,1]).wp _ _ a w;refine wpS ?_;refine Wah (S:=st.1) hk (l:=l) (b:=st.2) (i:=i) (j:=j) (s:=s) (t:=Cb s t) hs (λa w hs=>?_);show(nav C8 [1,1,1,1,0,1,0,0,1,0,1,1,1,0,0,1,1,0,0,1,1,0,0,1,1,0,0,1,1,1]).wp _ _ a w;refine wpC (o:=.tmp 54) (hs.bool (k:=.fr) rfl) (λht=>?_) (λhf=>Ed (by kernel_rfl) ?_)
  .have hm:¬ tK (Cb s t)∈st.1:=by simpa using ht
   have hr:=hs.weak (wa.cast (e':=EK l st.2 i s j (Cb s t)) (pat:=[(14,.same),(8,.same),(9,.same),(11,.same),(36,.same),(37,.same),(38,.same),(42,.same),(43,.same),(44,.same)]));refine wpS ?_;refine Yah (S:=st.1) hk (l:=l) (b:=st.2) (i:=i) (j:=j) (s:=s) (t:=Cb s t) hr (λa w hs=>?_);show(nav C8 [1,1,1,1,0,1,0,0,1,0,1,1,1,0,0,1,1,0,0,1,1,0,0,1,1,0,0,1,1,1,0,1]).wp _ _ a w;refine aaC g0 (keep:=[8,9,11,36,37,38,42,43,44]) (e':=EJ l true i s j) (ps:=[]) (by kernel_rfl) trivial hs (λa w hs=>?_);refine hh ?_;rw[ho];unfold Kg;rw[if_neg hm];unfold ue at hs;rw[if_neg hm]at hs;exact hs
  .have hm:tK (Cb s t)∈st.1:=by simpa using hf
   refine hh ?_;rw[ho];unfold Kg;rw[if_pos hm];exact hs.weak (wa.cast (pat:=[(8,.same),(9,.same),(11,.same),(36,.same),(37,.same),(38,.same),(42,.same),(43,.same),(44,.same)]))
 .have hi:l.length<=j:=by
   have:=of_decide_eq_false (show decide ((j:Int)<ba .time l)=false from hf);unfold ba at this;omega
  show aaH 6 Q (.exit 6) a w;simp only[aaH,if_true];refine hQ a w ?_;rw[abn hi]at hs;exact hs.weak (wa.cast (pat:=[(8,.same),(9,.same),(36,.same),(37,.same),(38,.same)]))
theorem fai{Q:Exit->Act->World->Prop}{B:Nat}{W0:World}{F0:Fz}{r:Nat}{S:Aa}(hS:Cc 2 S){l:List Time}(hlen:l.length<=64)(hl:∀t∈l,xa t=true){b:Bool}{a:Act}{w:World}(hs:MS (N8 r) B [] W0 F0 [(r,Va S)] (EI l b 0) a w)
  (hQ:∀a w,MS (N8 r) B [] W0 F0 [(r,Va (uf l l (S,b)).1)] [(8,.v .fr (.bool (uf l l (S,b)).2))] a w->Q .normal a w):(nav C8 [1,1,1,1,0,1,0,0,1,0,1,1,1]).wp aau Q a w:=by
 refine Vf (c1:=nav C8 [1,1,1,1,0,1,0,0,1,0,1,1,1,0]) (id:=4) (by kernel_rfl) ?_;rw[show nav C8 [1,1,1,1,0,1,0,0,1,0,1,1,1,0]=.loop (nav C8 [1,1,1,1,0,1,0,0,1,0,1,1,1,0,0]) by kernel_rfl];refine Ef (σ:=Nat) (λi a w=>i<=l.length/\MS (N8 r) B [] W0 F0 [(r,Va (uf l (l.take i) (S,b)).1)] (EI l (uf l (l.take i) (S,b)).2 i) a w) (λi=>l.length - i) ?_ 0 ⟨aaX _,hs⟩;rintro i a w ⟨hi,hs⟩;refine wpS ?_;refine aaC g0 (keep:=[8,9,36,37,38,39]) (e':=[(8,.v .fr (.bool (uf l (l.take i) (S,b)).2)),(9,TL l),(36,TL l),(37,.v .fr (.int .i64 (ba .time l))),(38,.v .fr (.int .i64 i)),(39,.v .fr (.bool (cmp .lss i (ba .time l))))]) (ps:=[]) (by kernel_rfl) trivial hs (λa w hs=>?_);show(nav C8 [1,1,1,1,0,1,0,0,1,0,1,1,1,0,0,1]).wp _ _ a w;refine wpS ?_;refine wpC (o:=.tmp 39) (hs.bool (k:=.fr) rfl) (λht=>Ed (by kernel_rfl) ?_) (λhf=>Wf (i:=4) (by kernel_rfl) ?_)
 .have hk:i<l.length:=by
   have:=of_decide_eq_true (show decide ((i:Int)<ba .time l)=true from ht);unfold ba at this;omega
  have ho:rd .time l i=l[i]:=by
   unfold rd;rw[aan,show(i:Int).toNat=i from rfl,aaD hk];rfl
  have hn:xa (rd .time l i)=true:=by rw[ho];exact hl _ (abj hk)
  have hj:=aY l (l.take i) (S,b) hS;have hm:uf l (l.take (i+1)) (S,b)=Dc l (rd .time l i) (uf l (l.take i) (S,b)):=by rw[aaW hk,aai,<-ho]
  generalize uf l (l.take i) (S,b)=st at hs hj hm;generalize htt:rd .time l i=s at hm hn;show(nav C8 [1,1,1,1,0,1,0,0,1,0,1,1,1,0,0,1,1]).wp _ _ a w;refine wpS ?_;refine wpB (id:=5) ?_;refine wpS ?_;refine aaC g0 (keep:=[8,9,11,36,37,38]) (e':=[(8,.v .fr (.bool st.2)),(9,TL l),(11,Fm (rd .time l i)),(36,TL l),(37,.v .fr (.int .i64 (ba .time l))),(38,.v .fr (.int .i64 i))]) (ps:=[inb i (ba .time l)]) (by kernel_rfl) ⟨⟨by omega,by unfold ba;omega⟩,trivial⟩ hs (λa w hs=>?_);rw[htt]at hs;show(nav C8 [1,1,1,1,0,1,0,0,1,0,1,1,1,0,0,1,1,0,0,1]).wp _ _ a w;refine wpS ?_;refine aaC g0 (keep:=[8,9,11,36,37,38,42,43,44]) (e':=EJ l st.2 i s 0) (ps:=[]) (by kernel_rfl) trivial hs (λa w hs=>?_);refine eai (S:=st.1) hj hlen hl hn hs (λa w hs=>?_);show(nav C8 [1,1,1,1,0,1,0,0,1,0,1,1,1,0,0,1,1,1]).wp _ _ a w;have hs:MS (N8 r) B [] W0 F0 [(r,Va (Dc l s st).1)] (EI l (Dc l s st).2 i) a w:=hs;refine aaC g0 (keep:=[8,9,36,37,38]) (e':=EI l (Dc l s st).2 (ar .add .i64 i 1)) (ps:=[]) (by kernel_rfl) trivial hs (λa w hs=>?_);refine⟨i+1,by omega,by omega,?_⟩;rw[Ji (by omega) (by omega)]at hs;rw[hm];exact hs
 .have hh:l.length<=i:=by
   have:=of_decide_eq_false (show decide ((i:Int)<ba .time l)=false from hf);unfold ba at this;omega
  show aaH 4 Q (.exit 4) a w;simp only[aaH,if_true];refine hQ a w ?_;rw[abn hh]at hs;exact hs.weak (wa.cast (pat:=[(8,.same)]))
theorem gai{Q:Exit->Act->World->Prop}{B:Nat}{W0:World}{F0:Fz}{r:Nat}{S:Aa}(hS:Cc 2 S){a:Act}{w:World}(hs:MS (N8 r) B [] W0 F0 [(r,Va S)] [(8,.v .fr (.bool false))] a w)
  (hQ:∀a w,MS (N8 r) B [] W0 F0 [(r,Va S)] [(8,.v .fr (.bool false)),(9,TL (bc S))] a w->Q .normal a w):(nav C8 [1,1,1,1,0,1,0,0,1,0,1,0]).wp aau Q a w:=by
 obtain⟨p0,d0,hh,p1,d1,hi,d2,hj,hsz,a0,a1,a2⟩:=Pah;refine Kc (by kernel_rfl) hsz ?_;rw[aaB];refine va a0 hh ?_;refine Xa (cf p0) ?_;rw[d0,aaB,hs.k (s:=5) (v:=.map (some r)) (by simp)];have h1:=hs.val (d:=34) (by kernel_rfl) (v:=.map (some r)) (av:=.dead) rfl (λ_ _=>trivial);refine va a1 hi ?_;refine ZX h1 hS (r:=r) (by simp) p1 (h1.k (s:=34) (v:=.map (some r)) (by simp)) d1 (by kernel_rfl) (λv w' h2=>?_);rw[aaB];refine va a2 hj ?_;refine h2.stepF g0 (ops:=opsOf (nav C8 [1,1,1,1,0,1,0,0,1,0,1,0])) (e':=[(9,TL (bc S)),(35,TL (bc S)),(34,.dead),(8,.v .fr (.bool false))]) (ps:=[]) hj (by kernel_rfl) trivial (λd h=>by rw[d2]at h;cases h;kernel_rfl) (λa3 w3 h3=>?_);refine xc _ (hQ _ _ ?_);exact(h3.weak (wa.cast (pat:=[(8,.same),(9,.same)]))).forget rfl rfl (λp hp=>by simp at hp⊢;simp[hp]) (λp hp=>hp)
theorem iai{Q:Exit->Act->World->Prop}{B:Nat}{W0:World}{F0:Fz}{r:Nat}{S:Aa}(hS:Cc 2 S){a:Act}{w:World}(hs:MS (N8 r) B [] W0 F0 [(r,Va S)] [] a w)
  (hQ:∀a w,MS (N8 r) B [] W0 F0 [(r,Va S)] [(4,TL (bc S))] a w->Q .normal a w):(nav C8 [1,1,1,1,1,0]).wp aau Q a w:=by
 obtain⟨p0,d0,hh,p1,d1,hi,d2,hj,hsz,a0,a1,a2⟩:=Qah;refine Kc (by kernel_rfl) hsz ?_;rw[aaB];refine va a0 hh ?_;refine Xa (cf p0) ?_;rw[d0,aaB,hs.k (s:=5) (v:=.map (some r)) (by simp)];have h1:=hs.val (d:=59) (by kernel_rfl) (v:=.map (some r)) (av:=.dead) rfl (λ_ _=>trivial);refine va a1 hi ?_;refine ZX h1 hS (r:=r) (by simp) p1 (h1.k (s:=59) (v:=.map (some r)) (by simp)) d1 (by kernel_rfl) (λv w' h2=>?_);rw[aaB];refine va a2 hj ?_;refine h2.stepF g0 (ops:=opsOf (nav C8 [1,1,1,1,1,0])) (e':=[(4,TL (bc S)),(60,TL (bc S)),(59,.dead)]) (ps:=[]) hj (by kernel_rfl) trivial (λd h=>by rw[d2]at h;cases h;kernel_rfl) (λa3 w3 h3=>?_);refine xc _ (hQ _ _ ?_);exact(h3.weak (wa.cast (pat:=[(4,.same)]))).forget rfl rfl (λp hp=>by simp at hp⊢;simp[hp]) (λp hp=>hp)
theorem jai(S:Aa):(bc S).length<=64:=EN S 8
theorem kai{xs:List Row}{k:Int}{Q:Exit->Act->World->Prop}{B:Nat}{W0:World}{F0:Fz}{r:Nat}{S:Aa}(hS:GoodS xs k S)(hH:lr xs k S){a:Act}{w:World}(hs:MS (N8 r) B [] W0 F0 [(r,Va S)] [(8,.v .fr (.bool true))] a w)
  (hQ:∀S a w,GoodS xs k S->lr xs k S->LN S->MS (N8 r) B [] W0 F0 [(r,Va S)] [] a w->Q .normal a w):(nav C8 [1,1,1,1,0,1]).wp aau Q a w:=by
 have hh:∀ {S:Aa},GoodS xs k S->Cc 2 S:=λh p hp=>by obtain⟨t,rfl,_⟩:=h p hp;rfl
 refine Vf (c1:=nav C8 [1,1,1,1,0,1,0]) (id:=2) (by kernel_rfl) ?_;rw[show nav C8 [1,1,1,1,0,1,0]=.loop (nav C8 [1,1,1,1,0,1,0,0]) by kernel_rfl];refine Ef (σ:=Aa×Bool) (λst a w=>(GoodS xs k st.1/\lr xs k st.1/\(st.2=false->LN st.1))/\MS (N8 r) B [] W0 F0 [(r,Va st.1)] [(8,.v .fr (.bool st.2))] a w) (λst=>2*mu st.1+st.2.toNat) ?_ (S,true) ⟨⟨hS,hH,λh=>by cases h⟩,hs⟩;rintro⟨S,b⟩ a w ⟨⟨hS,hH,hC⟩,hs⟩;refine wpS ?_;refine wpS ?_;refine aaC g0 (keep:=[33]) (e':=[(33,.v .fr (.bool b))]) (ps:=[]) (by kernel_rfl) trivial hs (λa w hs=>?_);show(nav C8 [1,1,1,1,0,1,0,0,0,1]).wp _ _ a w;refine wpC (o:=.tmp 33) (hs.bool (k:=.fr) rfl) (λht=>Ed (by kernel_rfl) ?_) (λhf=>Wf (i:=2) (by kernel_rfl) ?_)
 .subst ht;show(nav C8 [1,1,1,1,0,1,0,0,1]).wp _ _ a w;refine wpB (id:=3) ?_;refine wpS ?_;refine aaC g0 (keep:=[8]) (e':=[(8,.v .fr (.bool false))]) (ps:=[]) (by kernel_rfl) trivial hs (λa w hs=>?_);show(nav C8 [1,1,1,1,0,1,0,0,1,0,1]).wp _ _ a w;refine wpS ?_;refine gai (hh hS) hs (λa w hs=>?_);show(nav C8 [1,1,1,1,0,1,0,0,1,0,1,1]).wp _ _ a w;refine wpS ?_;refine aaC g0 (keep:=[8,9,36,37,38]) (e':=EI (bc S) false 0) (ps:=[]) (by kernel_rfl) trivial hs (λa w hs=>?_);refine fai (hh hS) (jai S) (λt ht=>(JN.1 ht).2) hs (λa w hs=>?_);have hs:MS (N8 r) B [] W0 F0 [(r,Va (rnd S).1)] [(8,.v .fr (.bool (rnd S).2))] a w:=hs;have hI:=cai (S:=S) hS;refine⟨rnd S,?_,⟨hI.good,λx hx hk=>hI.sub _ (hH x hx hk),λhf=>?_⟩,hs⟩
  .show 2*mu (rnd S).1+(rnd S).2.toNat<2*mu S+true.toNat;cases hb:(rnd S).2 with
   |true=>
    have:=hI.less hb;simp only[Bool.toNat_true];omega
   |false=>
    rw[(hI.same hb).1];simp
  .obtain⟨e,h2⟩:=hI.same hf;intro s t hs ht;rw[e]at hs ht⊢;exact h2 s t ⟨hs,ht⟩
 .subst hf;show aaH 2 Q (.exit 2) a w;simp only[aaH,if_true];exact hQ S a w hS hH (hC rfl) (hs.weak (wa.cast (pat:=[])))
end Tg
open Tg in
theorem lai:Con aau 152 DX:=by
 refine ol ttF (fn:=Tryz.f152) (c:=C8) (by kernel_rfl) (by kernel_rfl) (by kernel_rfl) (rs:=[.tmp 4]) (by kernel_rfl) (by kernel_rfl) (λ_=>rfl) ?_;intro x hx fr hk hl hj a w hs;obtain⟨B,IoB,W0,F0⟩:=fr;have hj:IoB=[]:=hj rfl;subst hj;obtain⟨xs,kk,u⟩:=x;have hx:xs.length<=1000000:=hx;obtain⟨q1,q2⟩:=eS xs (by omega);have hm:MS ⟨61,none,[]⟩ B [] W0 F0 [] [(0,.v .sh (.lst .row xs)),(1,.v .fr (.int .i64 kk))] a w:=(MS.of hs hk).forget (by kernel_rfl) rfl (λp h=>by cases h) (λp h=>by cases h);refine dh (c1:=nav C8 [0]) (c2:=nav C8 [1]) (by kernel_rfl) ?_;refine aaC g1 (keep:=[0,1]) (e':=[(0,.v .sh (.lst .row xs)),(1,.v .fr (.int .i64 kk))]) (ps:=[]) (by kernel_rfl) trivial hm (λa w hs=>?_);show(nav C8 [1]).wp _ _ a w;refine wpS ?_;refine wpS ?_;refine aaC g1 (keep:=[0,1,17]) (e':=[(0,.v .sh (.lst .row xs)),(1,.v .fr (.int .i64 kk)),(17,.v .fr (.bool (!(ip xs))))]) (ps:=[jp xs]) (by kernel_rfl) ⟨q1,trivial⟩ hs (λa w hs=>?_);show(nav C8 [1,0,1]).wp _ _ a w;refine wpC (o:=.tmp 17) (hs.bool (k:=.fr) rfl) (λht=>?_) (λhf=>Ed (by kernel_rfl) ?_)
 .have hn:¬ Nb xs=true:=by
   intro h;rw[q2,h]at ht;cases ht
  refine wpS ?_;refine aaC g1 (keep:=[4]) (e':=[(4,.v .fr (.nl .time))]) (ps:=[]) (by kernel_rfl) trivial hs (λa w hs=>?_);refine Ih (by kernel_rfl) ?_;refine⟨[(4,.v .fr (.nl .time))],?_,?_⟩
  .exact (hs.forget (N':=⟨(Tryz.f152).ntmps,none,[]⟩) (obs':=[]) (by kernel_rfl) rfl (λp h=>by cases h) (λp h=>by cases h)).to
  .have hv:yb xs kk=[]:=by unfold yb;rw[if_neg hn]
   refine⟨?_,trivial⟩;show _=some (RT.av (.one .fr (.lst .time)) (yb xs kk));rw[hv];rfl
 have hn:Nb xs=true:=by
  rw[q2]at hf;cases h:Nb xs with
  |true=>rfl
  |false=>rw[h]at hf;cases hf
 show(nav C8 [1,1]).wp _ _ a w;refine wpS ?_;obtain⟨p0,d0,hh,p1,d1,hi,hsz,a0,a1⟩:=ops3;refine Kc (by kernel_rfl) hsz ?_;rw[aaB];refine va a0 hh ?_;refine Xa (YD p0) ?_;rw[d0,aaB];have h1:=hs.alloc (d:=18) (by kernel_rfl) (v:=.map (some w.heap.size)) (o:=.map #[] 0) rfl;refine va a1 hi ?_;refine Xa (ft p1) ?_;rw[d1,h1.k (s:=18) (v:=.map (some w.heap.size)) (by simp)];have h2:=h1.val (d:=5) (by kernel_rfl) (v:=.map (some w.heap.size)) (av:=.dead) rfl (λ_ _=>trivial);have h3:MS (N8 w.heap.size) B [] W0 F0 [(w.heap.size,Va [])] [(0,.v .sh (.lst .row xs)),(1,.v .fr (.int .i64 kk))] _ _:=(h2.weak (wa.cast (pat:=[(0,.same),(1,.same)]))).forget rfl rfl (λp hp=>by simp at hp⊢;simp[hp]) (λp hp=>hp);generalize w.heap.size=r at h3;clear h1 h2;refine xc _ ?_;show(nav C8 [1,1,1]).wp _ _ _ _;generalize w.alloc (.map #[] 0)=w1 at h3⊢;generalize (a.put (some 18) _).put (some 5) _=a1 at h3⊢;refine wpS ?_;refine wpS ?_;refine aaC Tg.g0 (keep:=[1,19,20,21]) (e':=EA xs kk 0) (ps:=[]) (by kernel_rfl) trivial h3 (λa w hs=>?_);refine loopA hx hs (λa w hs=>?_)
 have hG:GoodS xs kk (Qe kk xs []):=λp hp=>by
  rcases (MN kk xs [] p).1 hp with h|⟨y,h1,h2,h3⟩
  .cases h
  .exact⟨y.At,h3,Ag ((gb hn).2 y h1),EX h1 h2⟩
 have hH:lr xs kk (Qe kk xs []):=λy h1 h2=>(MN kk xs [] _).2 (.inr ⟨y,h1,h2,rfl⟩);show(nav C8 [1,1,1,1]).wp _ _ a w;refine wpS ?_;refine wpS ?_;refine aaC Tg.g0 (keep:=[8]) (e':=[(8,.v .fr (.bool true))]) (ps:=[]) (by kernel_rfl) trivial hs (λa w hs=>?_);refine kai hG hH hs (λS a w hG hH hC hs=>?_);show(nav C8 [1,1,1,1,1]).wp _ _ a w;refine wpS ?_;refine iai (λp hp=>by obtain⟨t,rfl,_⟩:=hG p hp;rfl) hs (λa w hs=>?_);show(nav C8 [1,1,1,1,1,1]).wp _ _ a w;refine Ih (by kernel_rfl) ?_;have hv:yb xs kk=bc S:=by unfold yb;rw[if_pos hn,dai hG hH hC]
 refine⟨[(4,TL (bc S))],?_,?_⟩
 .exact (hs.forget (N':=⟨(Tryz.f152).ntmps,none,[]⟩) (obs':=[]) (by kernel_rfl) rfl (λp h=>by cases h) (λp h=>by cases h)).to
 .refine⟨?_,trivial⟩;show _=some (RT.av (.one .fr (.lst .time)) (yb xs kk));rw[hv];rfl
end
section
open Go Tg
theorem Canon.filter{s:List Item}(h:Canon s)(φ:Item->Bool):Canon (s.filter φ):=⟨h.1.sublist abd,λx hx=>h.2 x (aaM.1 hx).1⟩
theorem d9(kind k:Int):vb kind k []=[]:=by
 unfold vb;split
 .rfl
 .split<;>rfl
def Nh(kind:Int)(s:List Item):List Item:=(aax 4).flatMap λk:Nat=>vb kind k (s.filter λx=>decide (x.Key=k))
theorem Canon.append{s u:List Item}(hs:Canon s)(hu:Canon u)(h:∀x∈s,∀y∈u,x.Key<y.Key):Canon (s++u):=by
 refine⟨List.pairwise_append.2 ⟨hs.1,hu.1,λx hx y hy=>?_⟩,λx hx=>(aas.1 hx).elim (hs.2 x) (hu.2 x)⟩;have:=h x hx y hy;simp[kI,ltK,this]
theorem ek(f:Nat->List Item):(aax 4).flatMap f=f 0++(f 1++(f 2++(f 3++[]))):=rfl
theorem R7{a b m0:List Row}{x:Row}{n i:Int}(hb:Nb b=true)(hx:Mb x=true)(hm0:m0.length<=160000) :
  (Jv b m0 x a n i (ba .row b)).ob/\(Jv b m0 x a n i (ba .row b)).o=.x (m0++b.flatMap (Mc x)):=by
 obtain⟨hl,hm⟩:=gb hb
 have k:ua (λs:LR×Int=>Iv b m0 x a n i (ba .row b) s.1 s.2) (m0,0) (.x (m0++b.flatMap (Mc x))):=by
  refine la.fold b (λi b=>(b,(i:Int))) (λl=>m0++l.flatMap (Mc x)) (by simp) (λl y r hy=>?_) ?_
  .obtain⟨hlen,hq,hi,ho⟩:=La (t:=.row) hy;have hp:=hm y (by rw[hy];simp);obtain⟨v1,v2⟩:=P7 (bk hx).2 (bk hp).2;obtain⟨t1,t2⟩:=xF (Ag hx) (Ag hp);have hj:=Qt x l;have hn:∀z,lim (ba .row (m0++l.flatMap (Mc x))) (ba .row [z]):=λz=>Jb (t:=.row) (show(m0++l.flatMap (Mc x)).length<1099511627776 by rw[aao];omega);simp only[Iv,HH,dU,pcT,aal,aam,ga,ho,hq,Ea (l:=l) (by omega),v2,t2,kS hx hp,mb];rw[nS];by_cases hk:x.Key=y.Key
   .exact⟨by simp[hi,hn,v1,t1],by simp[na,Mc,hk]⟩
   .exact⟨by simp[hi,hn,hk],by simp[na,Mc,hk]⟩
  .have hh:cmp .lss (b.length:Int) (ba .row b)=false:=Ha (t:=.row);simp only[Iv,aal,aam,hh];exact⟨by simp,rfl⟩
 exact⟨k.t,k.v⟩
theorem Do{a b:List Row}(ha:a.length<=400)(hb:b.length<=400):(Ic a b).length<=160000:=abq (lS b a) (abP ha hb)
theorem T7{a b:List Row}(ha:Nb a=true)(hb:Nb b=true):Nv a b/\Mv a b=Cg (Pa (Ic a b)):=by
 obtain⟨hl,hm⟩:=gb ha;obtain⟨hk,ho⟩:=gb hb
 have k:ua (λs:LR×Int=>Kv b a (ba .row a) s.1 s.2) ([],0) (.x (Ic a b)):=by
  refine la.fold a (λi m=>(m,(i:Int))) (λl=>Ic l b) rfl (λl x r hx=>?_) ?_
  .obtain⟨hlen,hq,hi,hn⟩:=La (t:=.row) hx;have hp:=hm x (by rw[hx];simp);obtain⟨c1,c2⟩:=R7 (a:=a) (n:=ba .row a) (i:=(l.length:Int)) hb hp (Do (a:=l) (b:=b) (by omega) hk);simp only[Kv,IH,eU,pcT,aal,aam,ga,hn,hq,Ea (l:=l) (by omega),c2];rw[mS];exact⟨by simp[hi,c1],rfl⟩
  .have hh:cmp .lss (a.length:Int) (ba .row a)=false:=Ha (t:=.row);simp only[Kv,aal,aam,hh];exact⟨by simp,rfl⟩
 have a2:(Lv b a (ba .row a)).o=.x (Ic a b):=k.v;have b2:(Lv b a (ba .row a)).ob:=k.t;have hj:=Do (a:=a) (b:=b) hl hk;obtain⟨q1,q2⟩:=Kl (xs:=Ic a b) (by omega) λx hx=>(Vt hm ho x hx).1;simp only[Nv,Mv,LH,JH,fU,pcT,aal,aam,ga,a2,q2,ocR];exact⟨by simp[b2,q1],by unfold Cg;split<;>rfl⟩
theorem U7{a b:List Row}(ha:Nb a=true)(hb:Nb b=true):Yy a b/\Xy a b=Pa (Ic a b):=by
 obtain⟨hl,hm⟩:=gb ha;obtain⟨hp,ht⟩:=gb hb
 have k4:∀(l:List Row) (x:Row) (r m0:List Row),a=l++x::r->m0.length<=160000->ua (λs:LR×Int=>Sy a b m0 (l.length:Int) s.1 s.2) (m0,0) (.x (m0++b.flatMap (Mc x))):=by
  intro l x r m0 hx hs;obtain⟨_,hz,hj,_⟩:=La (t:=.row) hx;have hu:=hm x (by rw[hx];simp);generalize (l.length:Int)=i at hz hj;refine la.fold b (λi b=>(b,(i:Int))) (λl=>m0++l.flatMap (Mc x)) (by simp) (λl y r hy=>?_) ?_
  .obtain⟨hlen,hw,hi,hr⟩:=La (t:=.row) hy;have hv:=ht y (by rw[hy];simp);obtain⟨v1,v2⟩:=Q7 (bk hu).2 (bk hv).2;obtain⟨t1,t2⟩:=jS (Ag hu) (Ag hv);have hn:=Qt x l;have hq:∀z,lim (ba .row (m0++l.flatMap (Mc x))) (ba .row [z]):=λz=>Jb (t:=.row) (show(m0++l.flatMap (Mc x)).length<1099511627776 by rw[aao];omega);simp only[Sy,MK,qV,pcT,aal,aam,ga,hr,hw,hz,Ea (l:=l) (by omega),v2,t2,kS hu hv,mb];rw[nS];by_cases hk:x.Key=y.Key
   .exact⟨by simp[hi,hj,hq,v1,t1],by simp[na,Mc,hk]⟩
   .exact⟨by simp[hi,hj,hq,hk],by simp[na,Mc,hk]⟩
  .have hh:cmp .lss (b.length:Int) (ba .row b)=false:=Ha (t:=.row);simp only[Sy,aal,aam,hh];exact⟨by simp,rfl⟩
 have k:ua (λs:LR×Int=>Vy a b s.1 s.2) ([],0) (.x (Ic a b)):=by
  refine la.fold a (λi m=>(m,(i:Int))) (λl=>Ic l b) rfl (λl x r hx=>?_) ?_
  .obtain⟨hlen,_,_,hr⟩:=La (t:=.row) hx;have k:=k4 l x r (Ic l b) hx (Do (a:=l) (b:=b) (by omega) hp);have c2:(Uy a b (Ic l b) (l.length:Int)).o=.x (Ic l b++b.flatMap (Mc x)):=k.v;have c1:(Uy a b (Ic l b) (l.length:Int)).ob:=k.t;simp only[Vy,NK,rV,pcT,aal,aam,hr,Ea (l:=l) (by omega),c2];rw[mS];exact⟨by simp[c1],rfl⟩
  .have hh:cmp .lss (a.length:Int) (ba .row a)=false:=Ha (t:=.row);simp only[Vy,aal,aam,hh];exact⟨by simp,rfl⟩
 have a2:(Wy a b).o=.x (Ic a b):=k.v;have b2:(Wy a b).ob:=k.t;have ho:=Do (a:=a) (b:=b) hl hp;obtain⟨q1,q2⟩:=Mi (Ic a b) (by omega) λx hx=>(Vt hm ht x hx).1;simp only[Yy,Xy,QK,PK,sV,pcT,aal,aam,ga,a2,q2,ocR];exact⟨by simp[b2,q1],trivial⟩
theorem oS{a b:List Row}(ha:a.length<1000000000)(hb:b.length<1000000000):xp a b/\vp a b=a++b:=by
 simp only[xp,vp,wH,aal,aam,ga,aaN,ocR];refine⟨⟨⟨?_,?_,trivial⟩,trivial⟩,trivial⟩<;>simp only[lim,ba,aay]<;>omega
theorem yF{a:List Row}(ha:a.length<1000000000):uk a/\oh a=a:=by
 simp only[uk,oh,oH,aal,aam,ga,ocR];refine⟨⟨⟨⟨rfl,by simp only[ba];omega⟩,trivial⟩,trivial⟩,?_⟩;have h:abi (ba .row a)=a.length:=by simp[ba]
 rw[h,aaw,abn (aaS _),List.drop_of_length_le (by rw[aaw];exact aaS _),aaU]
theorem V7{a:List Row}(hl:a.length<1000000):Hv a/\Gv a=fb a:=by
 have k:ua (λs:LR×Int=>Ev a (ba .row a) s.1 s.2) (a,0) (.x (fb a)):=by
  refine la.fold a (λi b=>(b,(i:Int))) (λl=>fb l++a.drop l.length) (by simp[fb]) (λl x r hx=>?_) ?_
  .have hlen:a.length=l.length+(r.length+1):=by rw[hx];simp
   have hd:a.drop l.length=x::r:=by rw[hx];simp
   have hh:a.drop (l++[x]).length=r:=by rw[hx];simp
   have hn:(fb l).length=l.length:=by simp[fb]
   have ho:rd .row (fb l++x::r) (l.length:Int)=x:=by rw[<-hn];exact Ki
   have hj:inb (l.length:Int) (ba .row (fb l++x::r)):=by rw[<-hn];exact Li (t:=.row)
   have hm:cmp .lss (l.length:Int) (ba .row a)=true:=by rw[hx];exact VE
   have hp:abL (fb l++x::r) (abi (l.length:Int)) (gh x)=fb (l++[x])++r:=by
    rw[show abi (l.length:Int)=(fb l).length by rw[hn];rfl,List.set_append_right _ _ (aaS _),Nat.sub_self];simp[fb]
   simp only[hd,hh,Ev,aal,aam,ga,hm,ho,Ea (l:=l) (by omega)];refine⟨by simp[hj],?_⟩;show Lp.go (abL (fb l++x::r) (abi (l.length:Int)) (gh x),_)=_;rw[hp]
  .have hi:cmp .lss (a.length:Int) (ba .row a)=false:=Ha (t:=.row);simp only[Ev,aal,aam,ga,hi];exact⟨by simp,by simp[na]⟩
 have a2:(Fv a (ba .row a)).o=.x (fb a):=k.v;have b2:(Fv a (ba .row a)).ob:=k.t;have hk:lim (ba .row ([]:List Row)) (ba .row a):=by simp only[lim,ba,aay];omega
 simp only[Hv,Gv,zH,yH,aU,pcT,aal,aam,ga,aaN,a2,ocR];exact⟨by simp[b2,hk],trivial⟩
theorem X7{x y z:Row}(h1:yg x y)(h2:yg y z):yg x z:=Gh h1 h2
theorem pS:∀(xs:List Row) (y:Option Row),Kb Be y xs=true->xs.Pairwise yg/\(∀x∈xs,x.Diff≠0)/\∀z,y=some z->∀x∈xs,yg z x
 |[],_,_=>⟨.nil,by simp,by simp⟩
 |x::r,y,h=>by
  simp only[Kb,aaq,abx]at h;obtain⟨h1,h2,h3⟩:=pS r (some x) h.2
  have hx:x.Diff≠0:=by
   have:=h.1;cases y<;>simp[Be]at this
   .exact this
   .exact this.1
  refine⟨abv.2 ⟨h3 x rfl,h1⟩,λz hz=>?_,λz hz w hw=>?_⟩
  .rcases aaL.1 hz with rfl|hz
   .exact hx
   .exact h2 z hz
  .subst hz
   have hh:yg z x:=by
    have:=h.1;simp[Be]at this;exact this.2
   rcases aaL.1 hw with rfl|hw
   .exact hh
   .exact X7 hh (h3 x rfl w hw)
theorem qS{xs:List Row}(h1:xs.Pairwise yg)(h2:∀x∈xs,x.Diff≠0/\InR x.Diff):Pa xs=xs:=by
 have h3:Xc (chR xs)=chR xs:=Y8 (n:=4) (abJ.2 h1) (ro xs) λp hp=>by
  obtain⟨x,hx,rfl⟩:=aaP.1 hp;exact h2 x hx
 unfold Pa;rw[h3,U6]
theorem Eo{xs:List Row}(h:Oa xs=true):xs.Pairwise yg/\(∀x∈xs,x.Diff≠0)/\∀x∈xs,Mb x=true:=by
 simp only[Oa,aaq]at h;obtain⟨h1,h2,_⟩:=pS xs none h.1;exact⟨h1,h2,(gb h.2).2⟩
theorem rS{xs:List Row}(h:Oa xs=true):Pa xs=xs:=by
 obtain⟨h1,h2,h3⟩:=Eo h;exact qS h1 λx hx=>⟨h2 x hx,Jf (h3 x hx)⟩
theorem tS{x:Row}(h:Mb x=true)(_h0:x.Diff≠0):Mb (gh x)=true/\(gh x).Diff=-x.Diff:=by
 simp only[Mb,decide_eq_true_eq]at h;have e:aaQ .i64 (0 - x.Diff)=-x.Diff:=by rw[cF (by unfold InR;omega)];omega
 refine⟨?_,e⟩;simp only[Mb,gh,e,decide_eq_true_eq];omega
theorem uS{xs:List Row}(h:Oa xs=true):Oa (fb xs)=true:=by
 obtain⟨h1,h2,h3⟩:=Eo h;have hr:=(gb (Pd h)).1
 have hp:(fb xs).Pairwise yg:=by
  unfold fb;rw[abJ];exact h1
 unfold Oa;rw[wF (fb xs) none hp (λx hx=>?_) (λz hz=>by cases hz),abl]
 .simp only[Nb,aaq,decide_eq_true_eq,aaF];refine⟨λx hx=>?_,by simpa [fb] using hr⟩;obtain⟨y,hy,rfl⟩:=aaP.1 hx;exact(tS (h3 y hy) (h2 y hy)).1
 .obtain⟨y,hy,rfl⟩:=aaP.1 hx;rw[(tS (h3 y hy) (h2 y hy)).2];have:=h2 y hy;omega
theorem Y7(xs:List Row)(hl:xs.length<1000000000):Ny xs/\My xs=if Oa xs=true then xs else []:=by
 obtain⟨b1,b2⟩:=Co xs hl;simp only[Ny,My,BK,aal,aam,ga,b2];cases Oa xs<;>simp[b1,ocR]
theorem wS{a:List Row}(h:Oa a=true):oq a/\Dk a=fb a:=by
 have hr:=Pd h;obtain⟨hl,hm⟩:=gb hr;obtain⟨r1,r2⟩:=Ot a (by omega);have hn:=uS h
 have k:ua (λs:LR×Int=>Oy a s.1 s.2) ([],0) (.x (fb a)):=by
  refine la.fold a (λi b=>(b,(i:Int))) (λl=>fb l) rfl (λl x r hx=>?_) ?_
  .obtain⟨hlen,hp,hi,hk⟩:=La (t:=.row) hx;have ho:(fb l).length=l.length:=by simp[fb]
   have hj:∀y,lim (ba .row (fb l)) (ba .row [y]):=λy=>Jb (t:=.row) (show(fb l).length<1099511627776 by omega);simp only[Oy,aal,aam,ga,hk,hp,r2,hr,Ea (l:=l) (by omega)];exact⟨by simp[hi,hj,r1],by simp[na,fb,gh]⟩
  .have hh:cmp .lss (a.length:Int) (ba .row a)=false:=Ha (t:=.row);simp only[Oy,aal,aam,ga,hh];exact⟨by simp,rfl⟩
 have a2:(Py a).o=.x (fb a):=k.v;have b2:(Py a).ob:=k.t;have ho:(fb a).length=a.length:=by simp[fb]
 obtain⟨q1,q2⟩:=Mi (fb a) (by omega) (HF a);rw[rS hn]at q2;obtain⟨f1,f2⟩:=Y7 (fb a) (by omega);rw[if_pos hn]at f2;simp only[oq,Dk,FK,DK,oV,pcT,aal,aam,ga,a2,q2,f2,ocR];exact⟨by simp[b2,q1,q2,f1],trivial⟩
def Sa(k:Int)(s:List Item):List Item:=s.filter λx=>decide (x.Key=k)
theorem xS(k:Int)(l:List Item)(x:Item):Sa k (l++[x])=Sa k l++if x.Key=k then [x] else []:=by
 unfold Sa;rw[aaR]
 congr 1
 by_cases h:x.Key=k<;>simp[h]
theorem yS(l:List Item)(x:Item):kf (l++[x])=ar .add .i64 (kf l) x.Count:=by unfold kf;rw[aaK];rfl
theorem zF{ρ β:Type}[Inhabited ρ]{step:β×Int->Lp (β×Int) ρ}{ob:β×Int->Prop}(f:Nat->β){fin:ρ}(hgo:∀i:Nat,i<4->ob (f i,(i:Int))/\step (f i,(i:Int))=.go (f (i+1),((i+1:Nat):Int)))
  (hout:ob (f 4,((4:Nat):Int))/\step (f 4,((4:Nat):Int))=.out fin):la step ob (f 0,0) fin:=by
 refine la.fold (aax 4) (λi b=>(b,(i:Int))) (λl=>f l.length) rfl (λl x r hx=>?_) ?_
 .have hlen:4=l.length+(r.length+1):=by have:=congrArg aaY hx;simpa using this
  have:=hgo l.length (by omega);rw[aao,aaz];exact this
 .exact hout
theorem Z7{s:List Item}(hl:s.length<1000000):Zv s/\Yv s=Nh 1 s:=by
 have k5:∀(y:List Item) (k:Int),ua (λt:Int×Int=>Uv s y k (ba .item s) t.1 t.2) (0,0) (.x (kf (Sa k s))):=λy k=>by
  refine la.fold s (λi b=>(b,(i:Int))) (λl=>kf (Sa k l)) rfl (λl x r hx=>?_) ?_
  .obtain⟨hlen,hp,hk,ho⟩:=La (t:=.item) hx;simp only[Uv,SH,kU,pcT,aal,aam,ga,ho,hp,Ea (l:=l) (by omega),mb];rw[xS];by_cases h:x.Key=k
   .exact⟨by simp[hk],by simp[na,h,yS]⟩
   .exact⟨by simp[hk],by simp[na,h]⟩
  .have hj:cmp .lss (s.length:Int) (ba .item s)=false:=Ha (t:=.item);simp only[Uv,aal,aam,hj];exact⟨by simp,rfl⟩
 have a5:∀y k,(Vv s y k (ba .item s)).o=.x (kf (Sa k s)):=λy k=>(k5 y k).v;have b5:∀y k,(Vv s y k (ba .item s)).ob:=λy k=>(k5 y k).t
 have hlen:∀i:Nat,i<=4->((aax i).flatMap λk:Nat=>vb 1 k (Sa k s)).length<=i:=λi _=>by
  induction i with
  |zero=>simp
  |succ i ih=>
   have:=ih (by omega);rw[abf,aaJ,aao]
   have:(List.flatMap (λk:Nat=>vb 1 k (Sa k s)) [i]).length<=1:=by
    rw[aaV];unfold vb;rw[if_pos rfl];split<;>simp
   omega
 have k2:ua (λt:LI×Int=>Wv s t.1 t.2) ([],0) (.x (Nh 1 s)):=by
  refine zF (λi=>(aax i).flatMap λk:Nat=>vb 1 k (Sa k s)) (λi hi=>?_) ?_
  .have ho:cmp .lss (i:Int) 4=true:=by rw[Ra];simp;omega
   have hh:ar .add .i64 (i:Int) 1=((i+1:Nat):Int):=by rw[ub (by omega)];omega
   have hm:=hlen i (by omega);have hn:∀y,lim (ba .item ((aax i).flatMap λk:Nat=>vb 1 k (Sa k s))) (ba .item [y]):=λy=>Jb (t:=.item) (by omega);simp only[Wv,WH,mU,VH,lU,pcT,aal,aam,ga,ho,hh,a5,jf];rw[abf,aaJ,aaV];by_cases h:kf (Sa i s)=0
   .exact⟨by simp[b5,h],by simp[na,vb,h]⟩
   .exact⟨by simp[b5,h,hn],by simp[na,vb,h,Il]⟩
  .have hj:cmp .lss ((4:Nat):Int) 4=false:=rfl;simp only[Wv,aal,aam,hj];exact⟨by simp,rfl⟩
 have a2:(Xv s).o=.x (Nh 1 s):=k2.v;have b2:(Xv s).ob:=k2.t;simp only[Zv,Yv,YH,XH,nU,pcT,aal,aam,a2,ocR];exact⟨by simp[b2],trivial⟩
theorem c8{s:List Item}(hs:Canon s)(hk:∀x∈s,0<=x.Key/\x.Key<=3):s=(aax 4).flatMap λk:Nat=>Sa k s:=by
 have hc:Canon ((aax 4).flatMap λk:Nat=>Sa k s):=by
  have hm:∀(k:Nat) x,x∈Sa k s->x.Key=k:=λk x hx=>by simpa using(aaM.1 hx).2
  have h:∀k:Nat,Canon (Sa k s):=λk=>hs.filter _;rw[ek,aaU];refine(h 0).append ((h 1).append ((h 2).append (h 3) λx hx y hy=>?_) λx hx y hy=>?_) λx hx y hy=>?_
  .rw[hm 2 x hx,hm 3 y hy];decide
  .rw[hm 1 x hx];rcases aas.1 hy with hy|hy
   .rw[hm 2 y hy];decide
   .rw[hm 3 y hy];decide
  .rw[hm 0 x hx];rcases aas.1 hy with hy|hy
   .rw[hm 1 y hy];decide
   .rcases aas.1 hy with hy|hy
    .rw[hm 2 y hy];decide
    .rw[hm 3 y hy];decide
 refine XE (lt:=λx y:Item=>ltK (kI x) (kI y)=true) (λx h=>by rw[rg]at h;cases h) (λh1 h2=>Gh h1 h2) hs.1 hc.1 λx=>?_;simp only[abB,List.mem_range,Sa,aaM,decide_eq_true_eq];constructor
 .intro hx;have:=hk x hx;exact⟨x.Key.toNat,by omega,hx,by omega⟩
 .rintro⟨k,_,hx,_⟩;exact hx
theorem d8(f:Nat->List Item):md ((aax 4).flatMap f)=(aax 4).flatMap λk=>md (f k):=by
 rw[ek,ek];unfold md;simp only[aaR,aba,List.filter_nil,abE]
theorem g8{k:Int}(s:List Item):md (Sa k s)=od k (Sa k s):=by
 unfold md od;refine abV λx hx=>?_;have:=(aaM.1 (aaM.1 hx).1).2;simp only[decide_eq_true_eq]at this;rw[this]
theorem zS{s:List Item}(hs:Canon s)(hk:∀x∈s,0<=x.Key/\x.Key<=3):md s=Nh 2 s:=by
 conv=>lhs;rw[c8 hs hk]
 rw[d8];unfold Nh;rw[ek,ek];simp only[g8];rfl
def zc(out:List Item)(x:Item):List Item:=if out=[]\/(∃y,out.getLast? = some y/\y.Key≠x.Key) then out++[x] else out
theorem Rt{k:Int}:∀(l out:List Item),(∀x∈l,x.Key=k)->(∀y∈out,y.Key≠k)->l.foldl zc out=out++l.take 1
 |[],out,_,_=>by simp
 |x::l,out,hl,ho=>by
  have h1:zc out x=out++[x]:=by
   unfold zc;rw[if_pos];rcases last_cases out with⟨h,_⟩|⟨l',y,h,h2⟩
   .exact .inl h
   .exact .inr ⟨y,h2,by rw[hl x (by simp)];exact ho y (by rw[h];simp)⟩
  have h2:∀(m:List Item),(∀z∈m,z.Key=k)->m.foldl zc (out++[x])=out++[x]:=by
   intro m
   induction m with
   |nil=>intro _;rfl
   |cons z m ih=>
    intro hm
    have:zc (out++[x]) z=out++[x]:=by
     unfold zc;rw[if_neg];rintro (h|⟨y,h3,h4⟩)
     .simp at h
     .simp at h3;subst h3;exact h4 (by rw[hl x (by simp),hm z (by simp)])
    rw[abg,this];exact ih λw hw=>hm w (by simp[hw])
  rw[abg,h1,h2 l λz hz=>hl z (by simp[hz])];simp
theorem l8{s:List Item}(hs:Canon s)(hk:∀x∈s,0<=x.Key/\x.Key<=3):(md s).foldl zc []=Nh 3 s:=by
 have hm:∀(k:Nat) x,x∈od k (Sa k s)->x.Key=k:=λk x hx=>by
  obtain⟨y,_,rfl⟩:=aaP.1 hx;rfl
 have ht:∀(k:Nat) x,x∈(od k (Sa k s)).take 1->x.Key=k:=λk x hx=>hm k x (List.mem_of_mem_take hx);rw[zS hs hk];unfold Nh;rw[ek,ek,aaU,aaU];have e:∀k:Nat,vb 2 k (Sa k s)=od k (Sa k s):=λk=>by unfold vb;simp
 have e3:∀k:Nat,vb 3 k (Sa k s)=(od k (Sa k s)).take 1:=λk=>by unfold vb;simp
 show List.foldl zc [] (vb 2 (0:Nat) (Sa (0:Nat) s)++(vb 2 (1:Nat) (Sa (1:Nat) s)++(vb 2 (2:Nat) (Sa (2:Nat) s)++vb 2 (3:Nat) (Sa (3:Nat) s))))=vb 3 (0:Nat) (Sa (0:Nat) s)++(vb 3 (1:Nat) (Sa (1:Nat) s)++(vb 3 (2:Nat) (Sa (2:Nat) s)++vb 3 (3:Nat) (Sa (3:Nat) s)));simp only[e,e3]
 rw[aaK,aaK,aaK,Rt _ _ (hm 0) (λy hy=>by cases hy),aaN,
  Rt _ _ (hm 1) (λy hy=>by rw[ht 0 y hy];decide),Rt _ _ (hm 2) (λy hy=>?_),Rt _ _ (hm 3) (λy hy=>?_)]
 .simp only[abo]
 .rcases aas.1 hy with hy|hy
  .rcases aas.1 hy with hy|hy
   .rw[ht 0 y hy];decide
   .rw[ht 1 y hy];decide
  .rw[ht 2 y hy];decide
 .rcases aas.1 hy with hy|hy
  .rw[ht 0 y hy];decide
  .rw[ht 1 y hy];decide
theorem AS:∀(l out:List Item),(l.foldl zc out).length<=out.length+l.length
 |[],out=>by simp
 |x::l,out=>by
  have:=AS l (zc out x);have h2:(zc out x).length<=out.length+1:=by unfold zc;split<;>simp
  rw[abg,aap];omega
theorem m8{s:List Item}(hl:s.length<1000000):kw s/\jw s=(md s).foldl zc []:=by
 obtain⟨o1,o2⟩:=PR s (by omega);have hr:(md s).length<=s.length:=by unfold md;rw[aaA];exact aav _ _
 generalize hL:md s=L at o2 hr
 have k:ua (λt:LI×Int=>gw L (ba .item L) t.1 t.2) ([],0) (.x (L.foldl zc [])):=by
  refine la.fold L (λi b=>(b,(i:Int))) (λl=>l.foldl zc []) rfl (λl x r hx=>?_) ?_
  .obtain⟨hlen,hs,hi,ho⟩:=La (t:=.item) hx;have hn:=AS l [];rw[aay]at hn;have hm:∀y,lim (ba .item (l.foldl zc [])) (ba .item [y]):=λy=>Jb (t:=.item) (show(l.foldl zc []).length<1099511627776 by omega);rw[aaK];show _/\_=Lp.go (zc (l.foldl zc []) x,_);generalize l.foldl zc []=out at hn hm;simp only[gw,cI,qU,pcT,aal,aam,ga,ho,hs,Ea (l:=l) (by omega),mb,jf];rcases last_cases out with⟨h,h2⟩|⟨l',y,h,h2⟩
   .subst h;have h0:ba .item ([]:List Item)=0:=rfl;simp only[h0];exact⟨by simp[hi];exact hm x,by simp[na,zc]⟩
   .have hp:¬ ba .item out=0:=by rw[h];simp only[ba,aao,aaz];omega
    have hu:ar .sub .i64 (ba .item out) 1=(l'.length:Int):=by
     rw[fh (by simp only[ba];omega),h];simp only[ba,aao,aaz];omega
    have ht:rd .item out (l'.length:Int)=y:=by rw[h];exact Ki (r:=[])
    have hj:inb (l'.length:Int) (ba .item out):=by rw[h];exact Li (t:=.item) (r:=[])
    simp only[hp,hu,ht];have hq:out≠[]:=by rw[h];simp
    by_cases hk:y.Key=x.Key
    .refine⟨by simp[hi,hj,hk],?_⟩
     have:zc out x=out:=by
      unfold zc;rw[if_neg];rintro (h3|⟨z,h3,h4⟩)
      .exact hq h3
      .rw[h2]at h3;cases h3;exact h4 hk
     rw[this];simp[na,hk]
    .refine⟨by simp[hi,hj,hk,hm],?_⟩
     have:zc out x=out++[x]:=by
      unfold zc;rw[if_pos (.inr ⟨y,h2,hk⟩)]
     rw[this];simp[na,hk]
  .have hh:cmp .lss (L.length:Int) (ba .item L)=false:=Ha (t:=.item);simp only[gw,aal,aam,hh];exact⟨by simp,rfl⟩
 have a2:(iw L (ba .item L)).o=.x (L.foldl zc []):=k.v;have b2:(iw L (ba .item L)).ob:=k.t;simp only[kw,jw,iI,fI,rU,pcT,aal,aam,ga,o2,a2,ocR];exact⟨by simp[b2,o1],trivial⟩
theorem n8{s:List Item}(hl:s.length<1000000)(hs:Canon s)(hk:∀x∈s,0<=x.Key/\x.Key<=3){kind:Int}(hkind:1<=kind/\kind<=3):mw s kind/\lw s kind=Nh kind s:=by
 obtain⟨c1,c2⟩:=Z7 hl;obtain⟨o1,o2⟩:=PR s (by omega);obtain⟨l1,l2⟩:=m8 hl;rw[zS hs hk]at o2;rw[l8 hs hk]at l2;simp only[mw,lw,lI,aal,aam,ga,c2,o2,l2,mb];have hc:kind=1\/kind=2\/kind=3:=by omega
 rcases hc with rfl|rfl|rfl
 .exact⟨by simp[c1],by simp[ocR]⟩
 .exact⟨by simp[o1],by simp[ocR]⟩
 .exact⟨by simp[l1],by simp[ocR]⟩
theorem BS{k:Int}{s:List Item}(h:∀x∈s,x.Key=k):Sa k s=s:=List.filter_eq_self.2 λx hx=>by simpa using h x hx
theorem t8{k:Int}{s:List Item}(h:∀x∈s,x.Key≠k):Sa k s=[]:=abz.2 λx hx=>by simpa using h x hx
theorem v8{kind:Int}{k:Nat}(hk:k<4){s:List Item}(h:∀x∈s,x.Key=k):Nh kind s=vb kind k s:=by
 have hn:∀j:Nat,j≠k->vb kind j (Sa j s)=[]:=λj hj=>by
  rw[t8 λx hx=>by rw[h x hx];omega,d9]
 have hy:vb kind k (Sa k s)=vb kind k s:=by rw[BS h]
 show vb kind (0:Nat) (Sa (0:Nat) s)++(vb kind (1:Nat) (Sa (1:Nat) s)++(vb kind (2:Nat) (Sa (2:Nat) s)++(vb kind (3:Nat) (Sa (3:Nat) s)++[])))=_;have hc:k=0\/k=1\/k=2\/k=3:=by omega
 rcases hc with rfl|rfl|rfl|rfl
 .rw[hn 1 (by decide),hn 2 (by decide),hn 3 (by decide),hy];simp
 .rw[hn 0 (by decide),hn 2 (by decide),hn 3 (by decide),hy];simp
 .rw[hn 0 (by decide),hn 1 (by decide),hn 3 (by decide),hy];simp
 .rw[hn 0 (by decide),hn 1 (by decide),hn 2 (by decide),hy];simp
def pd(kind k:Int)(s:List Item):List Item:=if kind=2 then od k s else if kind=3 then(od k s).take 1 else []
theorem St(k:Int)(l:List Item)(x:Item):od k (l++[x])=od k l++if 0<x.Count then [⟨k,x.Val,1⟩] else []:=by
 unfold od;rw[aaR,aba]
 congr 1
 by_cases h:0<x.Count<;>simp[h]
theorem ES(kind k:Int)(s:List Item):(pd kind k s).length<=s.length:=by
 have h:(od k s).length<=s.length:=by unfold od;rw[aaA];exact aav _ _
 unfold pd;split
 .exact h
 .split
  .rw[abM];omega
  .simp
theorem z8{s:List Item}(hl:s.length<1000000){key kind:Int}(hkind:1<=kind/\kind<=3):Gz s key kind/\Ez s key kind=vb kind key (Sa key s):=by
 have k:ua (λt:LI×Int×Int=>Cz s key kind t.1 t.2.1 t.2.2) ([],0,0) (.x (pd kind key (Sa key s),kf (Sa key s))):=by
  refine la.fold s (λi b=>(b.1,b.2,(i:Int))) (λl=>(pd kind key (Sa key l),kf (Sa key l))) (by simp[Sa,pd,od,kf]) (λl x r hx=>?_) ?_
  .obtain⟨hlen,hq,hj,hn⟩:=La (t:=.item) hx;have hk:(Sa key l).length<=l.length:=aav _ _;have ho:=ES kind key (Sa key l);have hm:∀y,lim (ba .item (pd kind key (Sa key l))) (ba .item [y]):=λy=>Jb (t:=.item) (show(pd kind key (Sa key l)).length<1099511627776 by omega);simp only[Cz,wL,JV,pcT,aal,aam,ga,hn,hq,Ea (l:=l) (by omega),mb,jf,Lb];rw[xS];by_cases h:x.Key=key
   .rw[if_pos h,yS];generalize hK:Sa key l=K at hm
    have hz:∀o:List Item,decide (ba .item o=0)=decide (o=[]):=λo=>by
     cases o with
     |nil=>rfl
     |cons a o=>
      have:¬ ba .item (a::o)=0:=by simp only[ba,aap];omega
      simp[this]
    have hc:kind=1\/kind=2\/kind=3:=by omega
    by_cases hp:0<x.Count
    .rcases hc with rfl|rfl|rfl
     .exact⟨by simp[hj,h,hp],by simp[na,pd,h,hp]⟩
     .refine⟨by simp[hj,h,hp];exact hm _,?_⟩;simp[na,pd,h,hp,St]
     .simp only[hz];refine⟨by simp[hj,h,hp];exact λ_=>hm _,?_⟩;have e3:∀s,pd 3 key s=(od key s).take 1:=λs=>by simp[pd]
      rw[e3,e3,St,if_pos hp];cases hO:od key K with
      |nil=>simp[na,h,hp]
      |cons a O=>simp[na,h,hp]
    .rcases hc with rfl|rfl|rfl
     .exact⟨by simp[hj,h,hp],by simp[na,pd,h,hp]⟩
     .exact⟨by simp[hj,h,hp],by simp[na,pd,h,hp,St]⟩
     .exact⟨by simp[hj,h,hp],by simp[na,pd,h,hp,St]⟩
   .rw[if_neg h,aaU];exact⟨by simp[hj,h],by simp[na,h]⟩
  .have hi:cmp .lss (s.length:Int) (ba .item s)=false:=Ha (t:=.item);simp only[Cz,aal,aam,hi];exact⟨by simp,rfl⟩
 have a2:(Dz s key kind).o=.x (pd kind key (Sa key s),kf (Sa key s)):=k.v;have b2:(Dz s key kind).ob:=k.t;have hk:(Sa key s).length<=s.length:=aav _ _;have ho:=ES kind key (Sa key s);have hm:∀y,lim (ba .item (pd kind key (Sa key s))) (ba .item [y]):=λy=>Jb (t:=.item) (show(pd kind key (Sa key s)).length<1099511627776 by omega);have hh:∀n,uL n/\Bz n=Il n:=λn=>⟨⟨⟨by decide,by decide,trivial⟩,trivial⟩,rfl⟩;simp only[Gz,Ez,zL,xL,MV,yL,NV,pcT,aal,aam,ga,a2,(hh _).2,mb,jf];have hc:kind=1\/kind=2\/kind=3:=by omega
 rcases hc with rfl|rfl|rfl
 .by_cases h:kf (Sa key s)=0
  .exact⟨by simp[b2,h],by simp[ocR,vb,pd,h]⟩
  .exact⟨by simp[b2,h,hm,(hh _).1],by simp[ocR,vb,pd,h]⟩
 .exact⟨by simp[b2],by simp[ocR,vb,pd]⟩
 .exact⟨by simp[b2],by simp[ocR,vb,pd]⟩
theorem la.while{σ ρ:Type}[Inhabited ρ]{step:σ->Lp σ ρ}{ob:σ->Prop}(I:σ->Prop)(m:σ->Nat){Q:ρ->Prop}
  (h:∀s,I s->ob s/\((∃s',step s=.go s'/\I s'/\m s'<m s)\/∃q,step s=.out q/\Q q)):∀(n:Nat) (s:σ),m s=n->I s->∃q,la step ob s q/\Q q:=by
 intro n
 induction n using Nat.strongRecOn with
 |_ n ih=>
  intro s hn hI;obtain⟨ho,⟨s',h1,h2,h3⟩|⟨q,h1,h2⟩⟩:=h s hI
  .obtain⟨q,hq,hQ⟩:=ih (m s') (by omega) s' rfl h2;exact⟨q,.go ho h1 hq,hQ⟩
  .exact⟨q,.out ho h1,h2⟩
theorem FS{ρ β:Type}[Inhabited ρ]{step:β×Int->Lp (β×Int) ρ}{ob:β×Int->Prop}(f:Nat->β){fin:ρ}(hgo:∀i:Nat,i<8->ob (f i,(i:Int))/\step (f i,(i:Int))=.go (f (i+1),((i+1:Nat):Int)))
  (hout:ob (f 8,((8:Nat):Int))/\step (f 8,((8:Nat):Int))=.out fin):la step ob (f 0,0) fin:=by
 refine la.fold (aax 8) (λi b=>(b,(i:Int))) (λl=>f l.length) rfl (λl x r hx=>?_) ?_
 .have hlen:8=l.length+(r.length+1):=by have:=congrArg aaY hx;simpa using this
  have:=hgo l.length (by omega);rw[aao,aaz];exact this
 .exact hout
theorem GS{α:Type}:∀ {S L:List α},S.Nodup->(∀t∈S,t∈L)->S.length<=L.length
 |[],L,_,_=>by simp
 |x::S,L,h,hs=>by
  obtain⟨A,B,rfl⟩:=List.append_of_mem (hs x (by simp));have h':=List.nodup_cons.1 h
  have:=GS (S:=S) (L:=A++B) h'.2 λt ht=>by
   have h1:=hs t (by simp[ht]);simp only[aas,aaL]at h1⊢;rcases h1 with h1|rfl|h1
   .exact .inl h1
   .exact absurd ht h'.1
   .exact .inr h1
  simp only[aao,aap]at this⊢;omega
def Vb(l:List Time)(t:Time):Bool:=decide (t∈l)
theorem A8{s t:Time}:(decide (s.A=t.A)&&(decide (s.B=t.B)&&true))=decide (s=t):=by
 obtain⟨a,b⟩:=s;obtain⟨c,d⟩:=t;rw[aat];simp
theorem AF(l:List Time)(t:Time)(hl:l.length<1000000):vm l t/\um l t=Vb l t:=by
 have k:ua (λs:Int=>Zy l t s) 0 (if Kb (λ_ x=>decide (x=t)) none l=true then .x () else .r true):=by
  refine la.scan l _ (λm x r hx=>?_) ?_
  .obtain⟨hlen,hk,hi,hj⟩:=La (t:=.time) hx;simp only[Zy,aal,aam,ga,hj,hk,Ea (l:=m) (by omega),mb,A8];refine⟨by simp[hi],?_⟩;cases decide (x=t)<;>rfl
  .have hh:cmp .lss (l.length:Int) (ba .time l)=false:=Ha (t:=.time);simp only[Zy,aal,aam,ga,hh];exact⟨by simp,rfl⟩
 have a2:(az l t).o=_:=k.v;have b2:(az l t).ob:=k.t
 have hs:Kb (λ_ x=>decide (x=t)) none l=!Vb l t:=by
  have:=Bg (λx:Time=>!decide (x=t)) l none;simp only[Bool.not_not]at this;rw[this,aat];simp only[Vb,aaF,decide_eq_false_iff_not,Bool.not_eq_eq_eq_not,aaO];exact⟨λh hm=>h t hm rfl,λh x hx e=>h (e▸hx)⟩
 rw[hs]at a2;simp only[vm,um,VK,TK,tV,pcT,aal,aam,a2];refine⟨by simp[b2],?_⟩;cases Vb l t<;>rfl
structure mf(xs:List Row)(k:Int)(S:List Time):Prop where
 nd:S.Nodup
 ok:∀t∈S,xa t=true/\jT xs k t=true
theorem mf.len{xs:List Row}{k:Int}{S:List Time}(h:mf xs k S):S.length<=64:=by
 have:=GS h.nd λt ht=>IX.2 (h.ok t ht).1;have h2:allT.length<=64:=wB _ 8;omega
theorem mf.snoc{xs:List Row}{k:Int}{S:List Time}(h:mf xs k S){t:Time}(ht:xa t=true/\jT xs k t=true)(hn:t ∉ S):mf xs k (S++[t]):=by
 refine⟨?_,λu hu=>?_⟩
 .rw[List.nodup_append];exact⟨h.nd,by simp,λa ha b hb=>by simp at hb;subst hb;exact λe=>hn (e▸ha)⟩
 .rcases aas.1 hu with hu|hu
  .exact h.ok u hu
  .simp at hu;subst hu;exact ht
def Ac(k:Int)(l:List Row):List Time:=l.foldl (λs x=>if x.Key=k/\x.At ∉ s then s++[x.At] else s) []
theorem JS(k:Int)(l:List Row)(x:Row):Ac k (l++[x])=if x.Key=k/\x.At ∉ Ac k l then Ac k l++[x.At] else Ac k l:=by unfold Ac;rw[aaK];rfl
theorem LS{xs:List Row}{k:Int}(hr:∀x∈xs,Mb x=true):∀r l,xs=l++r->mf xs k (Ac k l)/\(∀x∈l,x.Key=k->x.At∈Ac k l):=by
 suffices ∀l,(∀x∈l,x∈xs)->mf xs k (Ac k l)/\(∀x∈l,x.Key=k->x.At∈Ac k l) from λr l h=>this l λx hx=>by rw[h];simp[hx]
 intro l
 induction hn:l.length generalizing l with
 |zero=>
  have:l=[]:=List.length_eq_zero_iff.1 hn;subst this;exact λ_=>⟨⟨by simp[Ac],by simp[Ac]⟩,by simp⟩
 |succ n ih=>
  rcases last_cases l with⟨h,_⟩|⟨l',x,h,_⟩
  .rw[h]at hn;simp at hn
  .subst h;intro hm;obtain⟨i1,i2⟩:=ih l' (by simpa using hn) λy hy=>hm y (by simp[hy]);rw[JS];have hx:=hm x (by simp);split
   .rename_i hc;refine⟨i1.snoc ⟨Ag (hr x hx),EX hx hc.1⟩ hc.2,λy hy hk=>?_⟩;rcases aas.1 hy with hy|hy
    .exact aas.2 (.inl (i2 y hy hk))
    .simp at hy;subst hy;simp
   .rename_i hc;refine⟨i1,λy hy hk=>?_⟩;rcases aas.1 hy with hy|hy
    .exact i2 y hy hk
    .simp at hy;subst hy;by_cases hin:y.At∈Ac k l'
     .exact hin
     .exact absurd ⟨hk,hin⟩ hc
theorem B8(s t:Time):Cb s t=Cb t s:=by
 unfold Cb;simp only[Kk]
 congr 1<;>split<;>split<;>omega
theorem D8(s:Time):Cb s s=s:=by
 obtain⟨a,b⟩:=s;simp[Cb,Kk]
theorem Ll{S:List Time}{p:Nat}(hp:p<S.length)(t:Time):rd .time (S++[t]) (p:Int)=rd .time S (p:Int):=by
 unfold rd;simp only[aaG];rw[aan,aan,List.getElem?_append_left hp]
theorem NS{S:List Time}{p:Nat}(hp:p<S.length):rd .time S (p:Int)∈S:=by
 unfold rd;simp only[aaG];rw[aan,aaD hp];exact abj hp
def jh(S:List Time)(i j:Nat):Prop:=(∀p q,p<i->q<p->Cb (rd .time S (p:Int)) (rd .time S (q:Int))∈S)/\∀q,q<j->Cb (rd .time S (i:Int)) (rd .time S (q:Int))∈S
theorem jh.snoc{S:List Time}{i j:Nat}(h:jh S i j)(hi:i<S.length)(hj:j<=i)(t:Time):jh (S++[t]) i j:=⟨λp q hp hq=>by rw[Ll (by omega),Ll (by omega)];exact aas.2 (.inl (h.1 p q hp hq)),λq hq=>by rw[Ll hi,Ll (by omega)];exact aas.2 (.inl (h.2 q hq))⟩
theorem E8{xs:List Row}(hr:Nb xs=true)(k:Int):oz xs k/\nz xs k=yb xs k:=by
 obtain⟨hl,hm⟩:=gb hr;obtain⟨r1,r2⟩:=Ot xs (by omega)
 have k2:ua (λs:List Time×Int=>bz xs k s.1 s.2) ([],0) (.x (Ac k xs)):=by
  refine la.fold xs (λi b=>(b,(i:Int))) (λl=>Ac k l) rfl (λl x r hx=>?_) ?_
  .obtain⟨hlen,kp,it,km⟩:=La (t:=.row) hx;obtain⟨i1,_⟩:=LS (xs:=xs) (k:=k) hm (x::r) l hx;have ki:=i1.len;obtain⟨q1,q2⟩:=AF (Ac k l) x.At (by omega);have kk:∀y,lim (ba .time (Ac k l)) (ba .time [y]):=λy=>Jb (t:=.time) (show(Ac k l).length<1099511627776 by omega);simp only[bz,XK,uV,pcT,aal,aam,ga,km,kp,r2,hr,Ea (l:=l) (by omega),mb,q2];rw[JS];by_cases hk:x.Key=k
   .by_cases hh:x.At∈Ac k l
    .exact⟨by simp[it,r1,hk,q1,Vb,hh],by simp[na,hk,Vb,hh]⟩
    .exact⟨by simp[it,r1,hk,q1,Vb,hh,kk],by simp[na,hk,Vb,hh]⟩
   .exact⟨by simp[it,r1,hk],by simp[na,hk]⟩
  .have hf:cmp .lss (xs.length:Int) (ba .row xs)=false:=Ha (t:=.row);simp only[bz,aal,aam,ga,hf];exact⟨by simp,rfl⟩
 have a2:(cz xs k).o=.x (Ac k xs):=k2.v;have b2:(cz xs k).ob:=k2.t;obtain⟨j1,j2⟩:=LS (xs:=xs) (k:=k) hm [] xs (by simp)
 have k7:∀(S:List Time) (i:Nat),mf xs k S->i<S.length->jh S i 0->∃q,ua (λs:List Time×Int=>dz S (i:Int) s.1 s.2) (S,0) q /\
   ∃S',q=.x S'/\mf xs k S'/\i<S'.length/\jh S' (i+1) 0/\∀t∈S,t∈S':=by
  intro S0 i hy ih ha;refine la.while (λs:List Time×Int=>∃j:Nat,s.2=(j:Int)/\j<=i/\mf xs k s.1/\i<s.1.length/\jh s.1 i j/\∀t∈S0,t∈s.1) (λs=>i - s.2.toNat) (λs hs=>?_) _ _ rfl ⟨0,rfl,aaX _,hy,ih,ha,λ_ h=>h⟩;obtain⟨S,_⟩:=s;obtain⟨j,rfl,hj,hI,hi,hJ,kr⟩:=hs;have hI:mf xs k S:=hI;have hi:i<S.length:=hi;have hJ:jh S i j:=hJ;have kr:∀t∈S0,t∈S:=kr;have ki:=hI.len;by_cases hlt:j<i
  .have km:cmp .lss (j:Int) (i:Int)=true:=by rw[Ra];simpa using hlt
   have hc:ar .add .i64 (j:Int) 1=((j+1:Nat):Int):=by rw[ub (by omega)];omega
   have ix:inb (i:Int) (ba .time S):=by unfold inb ba;omega
   have ie:inb (j:Int) (ba .time S):=by unfold inb ba;omega
   have h1:=hI.ok _ (NS hi);have h2:=hI.ok _ (NS (show j<S.length by omega));obtain⟨t1,t2⟩:=jS h1.1 h2.1;obtain⟨q1,q2⟩:=AF S (Cb (rd .time S (i:Int)) (rd .time S (j:Int))) (by omega);have kn:=Iah h1.1 h2.1;have jb:=FX h1.2 h2.2;have kk:∀y,lim (ba .time S) (ba .time [y]):=λy=>Jb (t:=.time) (show S.length<1099511627776 by omega);simp only[dz,ZK,wV,pcT,aal,aam,ga,km,hc,t2,q2];by_cases hh:Cb (rd .time S (i:Int)) (rd .time S (j:Int))∈S
   .refine⟨by simp[ix,ie,t1,q1,Vb,hh],.inl ⟨(S,((j+1:Nat):Int)),by simp[na,Vb,hh],⟨j+1,rfl,by omega,hI,hi,⟨hJ.1,λq hq=>?_⟩,kr⟩,?_⟩⟩
    .by_cases e:q=j
     .rw[e];exact hh
     .exact hJ.2 q (by omega)
    .simp only[aaG];omega
   .refine⟨by simp[ix,ie,t1,q1,Vb,hh,kk],.inl ⟨(S++[Cb (rd .time S (i:Int)) (rd .time S (j:Int))],((j+1:Nat):Int)),by simp[na,Vb,hh],⟨j+1,rfl,by omega,hI.snoc ⟨kn,jb⟩ hh,by simp;omega,?_,λt ht=>aas.2 (.inl (kr t ht))⟩,?_⟩⟩
    .have hz:=hJ.snoc hi (by omega) (Cb (rd .time S (i:Int)) (rd .time S (j:Int)));refine⟨hz.1,λq hq=>?_⟩;by_cases e:q=j
     .rw[e,Ll hi,Ll (by omega)];simp
     .exact hz.2 q (by omega)
    .simp only[aaG];omega
  .have km:cmp .lss (j:Int) (i:Int)=false:=by rw[Ra];simp;omega
   have ju:j=i:=by omega
   subst ju;simp only[dz,aal,aam,km];refine⟨by simp,.inr ⟨_,rfl,S,rfl,hI,hi,⟨λp q hp hq=>?_,λq hq=>absurd hq (by omega)⟩,kr⟩⟩;by_cases e:p=j
   .rw[e]at hq⊢;exact hJ.2 q hq
   .exact hJ.1 p q (by omega) hq
 have k5:∃q,ua (λs:List Time×Int=>gz (Ac k xs) s.1 s.2) (Ac k xs,0) q/\∃S',q=.x S'/\mf xs k S'/\jh S' S'.length 0/\∀t∈Ac k xs,t∈S':=by
  refine la.while (λs:List Time×Int=>∃i:Nat,s.2=(i:Int)/\i<=s.1.length/\mf xs k s.1/\jh s.1 i 0/\∀t∈Ac k xs,t∈s.1) (λs=>64 - s.2.toNat) (λs hs=>?_) _ _ rfl ⟨0,rfl,aaX _,j1,⟨λp q hp=>by omega,λq hq=>by omega⟩,λ_ h=>h⟩;obtain⟨S,_⟩:=s;obtain⟨i,rfl,hi,hI,hJ,kr⟩:=hs;have hI:mf xs k S:=hI;have hi:i<=S.length:=hi;have hJ:jh S i 0:=hJ;have kr:∀t∈Ac k xs,t∈S:=kr;have ki:=hI.len;by_cases hlt:i<S.length
  .have km:cmp .lss (i:Int) (ba .time S)=true:=by rw[Ra];simp[ba];omega
   have hc:ar .add .i64 (i:Int) 1=((i+1:Nat):Int):=by rw[ub (by omega)];omega
   obtain⟨q,h1,S',rfl,h2,h3,h4,h5⟩:=k7 S i hI hlt hJ;have a7:(ez S (i:Int)).o=.x S':=h1.v;have b7:(ez S (i:Int)).ob:=h1.t;simp only[gz,aL,xV,pcT,aal,aam,km,hc,a7];refine⟨by simp[b7],.inl ⟨(S',((i+1:Nat):Int)),rfl,⟨i+1,rfl,h3,h2,h4,λt ht=>h5 t (kr t ht)⟩,?_⟩⟩;simp only[aaG];omega
  .have km:cmp .lss (i:Int) (ba .time S)=false:=by rw[Ra];simp[ba];omega
   have io:i=S.length:=by omega
   subst io;simp only[gz,aal,aam,km];exact⟨by simp,.inr ⟨_,rfl,S,rfl,hI,hJ,kr⟩⟩
 obtain⟨q,hq,S,rfl,hI,hJ,kr⟩:=k5;have a5:(iz (Ac k xs)).o=.x S:=hq.v;have b5:(iz (Ac k xs)).ob:=hq.t;have ki:=hI.len
 have he:∀s t,s∈S->t∈S->Cb s t∈S:=λs t hs ht=>by
  obtain⟨p,hp,e1⟩:=abW hs;obtain⟨q,hq,e2⟩:=abW ht;have r1:rd .time S (p:Int)=s:=by unfold rd;simp only[aaG];rw[aan,aaD hp];exact e1
  have r2:rd .time S (q:Int)=t:=by unfold rd;simp only[aaG];rw[aan,aaD hq];exact e2
  rcases Nat.lt_trichotomy p q with h|h|h
  .have:=hJ.1 q p hq h;rw[r1,r2,B8]at this;exact this
  .subst h;rw[r1]at r2;rw[<-r2,D8];exact hs
  .have:=hJ.1 p q hp h;rw[r1,r2]at this;exact this
 have k12:∀(o:List Time) (x:Nat),x<8->o.length<=64->ua (λs:List Time×Int=>rq S o (x:Int) s.1 s.2) (o,0) (.x (o++rowP (Vb S) (x:Int) 8)):=by
  intro o x hx ho;have h0:o++rowP (Vb S) (x:Int) 0=o:=by simp[rowP]
  suffices key:ua (λs:List Time×Int=>rq S o (x:Int) s.1 s.2) (o++rowP (Vb S) (x:Int) 0,0) (.x (o++rowP (Vb S) (x:Int) 8)) by
   rw[h0]at key;exact key
  refine FS (λi=>o++rowP (Vb S) (x:Int) i) (λi hi=>?_) ?_
  .have kj:cmp .leq (i:Int) 7=true:=by rw[de];simp;omega
   have hc:ar .add .i64 (i:Int) 1=((i+1:Nat):Int):=by rw[ub (by omega)];omega
   have kq:=HX (Vb S) (x:Int) i;have kk:∀y,lim (ba .time (o++rowP (Vb S) (x:Int) i)) (ba .time [y]):=λy=>Jb (t:=.time) (show(o++rowP (Vb S) (x:Int) i).length<1099511627776 by rw[aao];omega);obtain⟨q1,q2⟩:=AF S ⟨(x:Int),(i:Int)⟩ (by omega);simp only[rq,dL,zV,pcT,aal,aam,ga,kj,hc,q2];rw[Gah];cases Vb S ⟨(x:Int),(i:Int)⟩ with
   |true=>exact⟨by simp[q1];exact kk _,by simp[na]⟩
   |false=>exact⟨by simp[q1],by simp[na]⟩
  .have kj:cmp .leq ((8:Nat):Int) 7=false:=rfl;simp only[rq,aal,aam,kj];exact⟨by simp,rfl⟩
 have kx:ua (λs:List Time×Int=>lz S s.1 s.2) ([],0) (.x (Zc (Vb S) 8)):=by
  refine FS (λi=>Zc (Vb S) i) (λi hi=>?_) ?_
  .have kj:cmp .leq (i:Int) 7=true:=by rw[de];simp;omega
   have hc:ar .add .i64 (i:Int) 1=((i+1:Nat):Int):=by rw[ub (by omega)];omega
   have ks:=wB (Vb S) i;have k:=k12 (Zc (Vb S) i) i hi (by omega);have hu:(jz S (Zc (Vb S) i) (i:Int)).o=.x (Zc (Vb S) i++rowP (Vb S) (i:Int) 8):=k.v;have hw:(jz S (Zc (Vb S) i) (i:Int)).ob:=k.t;simp only[lz,eL,BV,pcT,aal,aam,kj,hc,hu];exact⟨by simp[hw],rfl⟩
  .have kj:cmp .leq ((8:Nat):Int) 7=false:=rfl;simp only[lz,aal,aam,kj];exact⟨by simp,rfl⟩
 have hn:(mz S).o=.x (Zc (Vb S) 8):=kx.v;have hv:(mz S).ob:=kx.t
 have hg:Zc (Vb S) 8=yb xs k:=by
  unfold yb;rw[if_pos hr];refine BN λa b _ _=>?_;rw[aat];constructor
  .intro h;exact(hI.ok _ (by simpa [Vb] using h)).2
  .intro h;have:=GX (M:=λt=>t∈S) (λx hx hk=>kr _ (j2 x hx hk)) he h;simpa [Vb] using this
 simp only[oz,nz,iL,YK,vV,bL,yV,fL,CV,pcT,aal,aam,a2,a5,hn,ocR];exact⟨by simp[b2,b5,hv,a5],hg⟩
theorem QS(k:Int)(l:List Row)(x:Row):za k (l++[x])=za k l++if x.Key=k then [x] else []:=by
 unfold za;rw[aaR]
 congr 1
 by_cases h:x.Key=k<;>simp[h]
theorem Fo(k:Int)(l:List Row):(za k l).length<=l.length:=aav _ _
theorem G8{a:List Row}(h:Nb a=true)(k:Int):Nb (za k a)=true:=by
 obtain⟨h1,h2⟩:=gb h;have:=Fo k a;simp only[Nb,aaq,decide_eq_true_eq,aaF];exact⟨λx hx=>h2 x (aaM.1 hx).1,by omega⟩
theorem H8(xs:List Item)(hl:xs.length<1000000000):eo xs/\Jt xs=gathI xs:=by
 refine⟨?_,rfl⟩;show lim _ 1;simp only[lim,ba];omega
section
variable {a:List Row} (hr:Nb a=true) {kind:Int} (hkind:1<=kind/\kind<=3)
include hr hkind
theorem I8(all:List Row){k:Nat}(hk:k<4){made:List Row}(hm:fd k made)(hml:made.length<=6400){ts:List Time}{t:Time}{i n:Int}(hin:inb i (ba .time ts))(hrd:rd .time ts i=t) :
  (vw a kind all (k:Int) (za k a) made ts n i).ob/\(vw a kind all (k:Int) (za k a) made ts n i).val=.n (zg kind k (za k a) made t):=by
 obtain⟨hl,ha⟩:=gb hr;have ho:=ak (k:=(k:Int)) ha;have hw:=Fo (k:Int) a;obtain⟨p1,p2⟩:=vF (za k a) t (by omega);obtain⟨m1,m2⟩:=vF made t (by omega);have hz:=ho.presLen t;have hv:=hm.presLen t;have hy:=ho.pres t;obtain⟨g1,g2⟩:=n8 (s:=qc (za k a) t) (by omega) (cT _) (λx hx=>by rw[(hy x hx).1];omega) hkind;rw[v8 hk λx hx=>(hy x hx).1]at g2;generalize hU:qc made t=U at m2 hv;generalize hG:vb kind k (qc (za k a) t)=D at g2;have hp:D.length<=101:=by rw[<-hG];have:=ZR kind k (qc (za k a) t);omega
 have hc:ua (λs:LI×Int=>qw a kind all (k:Int) (za k a) made t D ts n i U (ba .item U) s.1 s.2) (D,0) (.x (D++U.map Yb)):=by
  refine la.fold U (λi b=>(b,(i:Int))) (λl=>D++l.map Yb) (by simp) (λl x r hx=>?_) ?_
  .obtain⟨hlen,hrd,hin,hu⟩:=La (t:=.item) hx;have ht:∀y,lim (ba .item (D++l.map Yb)) (ba .item [y]):=λy=>Jb (t:=.item) (show(D++l.map Yb).length<1099511627776 by rw[aao,aaA];omega);simp only[qw,aal,aam,ga,hu,hrd,Ea (l:=l) (by omega)];exact⟨by simp[hin];exact ht _,by simp[na,Yb]⟩
  .have hs:cmp .lss (U.length:Int) (ba .item U)=false:=Ha (t:=.item);simp only[qw,aal,aam,ga,hs];exact⟨by simp,rfl⟩
 have hh:(sw a kind all (k:Int) (za k a) made t D ts n i U (ba .item U)).o=.x (D++U.map Yb):=hc.v;have hj:(sw a kind all (k:Int) (za k a) made t D ts n i U (ba .item U)).ob:=hc.t;have hq:Zj kind k (za k a) made t=gathI (D++U.map Yb):=by unfold Zj;rw[hU,hG]
 obtain⟨d1,d2⟩:=qF (kind:=kind) (t:=t) ho hm;rw[hq]at d1 d2;obtain⟨q1,q2⟩:=H8 (D++U.map Yb) (by rw[aao,aaA];omega);generalize hE:gathI (D++U.map Yb)=E at q2 d1 d2 hq
 have k12:ua (λs:LR×Int=>tw a kind all (k:Int) (za k a) made t ts n i E (ba .item E) s.1 s.2) (made,0) (.x (made++E.map (rowT t))):=by
  refine la.fold E (λi b=>(b,(i:Int))) (λl=>made++l.map (rowT t)) (by simp) (λl x r hx=>?_) ?_
  .obtain⟨hlen,hrd,hin,hu⟩:=La (t:=.item) hx;have ht:∀y,lim (ba .row (made++l.map (rowT t))) (ba .row [y]):=λy=>Jb (t:=.row) (show(made++l.map (rowT t)).length<1099511627776 by rw[aao,aaA];omega);simp only[tw,aal,aam,ga,hu,hrd,Ea (l:=l) (by omega)];exact⟨by simp[hin];exact ht _,by simp[na,rowT]⟩
  .have hs:cmp .lss (E.length:Int) (ba .item E)=false:=Ha (t:=.item);simp only[tw,aal,aam,ga,hs];exact⟨by simp,rfl⟩
 have hi:(uw a kind all (k:Int) (za k a) made t ts n i E (ba .item E)).o=.x (made++E.map (rowT t)):=k12.v;have hn:(uw a kind all (k:Int) (za k a) made t ts n i E (ba .item E)).ob:=k12.t;simp only[vw,pI,uU,pcT,aal,aam,ga,hrd,p2,m2,g2,hh,q2,hi];refine⟨by simp[hin,p1,m1,g1,hj,q1,q2,hn],?_⟩;unfold zg;rw[hq]
theorem J8:Bw a kind/\Aw a kind=Cg (Pa (Yf kind a)):=by
 obtain⟨hl,hy⟩:=gb hr
 have k5:∀(all:List Row) (k:Int),ua (λs:LR×Int=>nw a kind all k (ba .row a) s.1 s.2) ([],0) (.x (za k a)):=λall k=>by
  refine la.fold a (λi b=>(b,(i:Int))) (λl=>za k l) rfl (λl x r hx=>?_) ?_
  .obtain⟨hlen,hw,hm,hq⟩:=La (t:=.row) hx;have hv:=Fo k l;have ho:∀y,lim (ba .row (za k l)) (ba .row [y]):=λy=>Jb (t:=.row) (show(za k l).length<1099511627776 by omega);simp only[nw,nI,sU,pcT,aal,aam,ga,hq,hw,Ea (l:=l) (by omega),mb];rw[QS];by_cases h:x.Key=k
   .exact⟨by simp[hm,h,ho],by simp[na,h]⟩
   .exact⟨by simp[hm,h],by simp[na,h]⟩
  .have hj:cmp .lss (a.length:Int) (ba .row a)=false:=Ha (t:=.row);simp only[nw,aal,aam,hj];exact⟨by simp,rfl⟩
 have a5:∀all k,(pw a kind all k (ba .row a)).o=.x (za k a):=λall k=>(k5 all k).v;have b5:∀all k,(pw a kind all k (ba .row a)).ob:=λall k=>(k5 all k).t
 have k8:∀(all:List Row) (k:Nat),k<4->la (λs:LR×Int=>na (Cp a kind all (k:Int) (za k a) (yb a k) (ba .time (yb a k)) s.1 s.2).val)
   (λs=>(Cp a kind all (k:Int) (za k a) (yb a k) (ba .time (yb a k)) s.1 s.2).ob) ([],0) (.x (Ub kind k (za k a) (yb a k))):=λall k hk=>by
  obtain⟨ha,hz⟩:=Ao (a:=a) (k:=(k:Int));generalize hT:yb a (k:Int)=ts at ha hz;refine la.fold ts (λi b=>(b,(i:Int))) (λl=>Ub kind k (za k a) l) rfl (λl t r hx=>?_) ?_
  .obtain⟨hlen,hw,hm,hq⟩:=La (t:=.time) hx;obtain⟨m1,m2⟩:=zo (kind:=kind) (ak (k:=(k:Int)) hy) l λt ht=>ha t (by rw[hx];simp[ht]);obtain⟨s1,s2⟩:=I8 hr hkind all hk m1 (by omega) (n:=ba .time ts) hm hw;simp only[Cp,qI,pcT,aal,aam,hq,Ea (l:=l) (by omega),s2];rw[aS];exact⟨by simp[s1],rfl⟩
  .have hj:cmp .lss (ts.length:Int) (ba .time ts)=false:=Ha (t:=.time);simp only[Cp,aal,aam,hj];exact⟨by simp,rfl⟩
 have hs:∀k:Nat,(Ub kind k (za k a) (yb a k)).length<=6400:=λk=>by
  obtain⟨ha,hz⟩:=Ao (a:=a) (k:=(k:Int));have:=(zo (kind:=kind) (ak (k:=(k:Int)) hy) _ ha).2;omega
 have hlen:∀i:Nat,((aax i).flatMap λk:Nat=>Ub kind k (za k a) (yb a k)).length<=6400*i:=λi=>by
  induction i with
  |zero=>simp
  |succ i ih=>
   rw[abf,aaJ,aao,aaV];have:=hs i;omega
 have k2:ua (λs:LR×Int=>yw a kind s.1 s.2) ([],0) (.x (Yf kind a)):=by
  refine zF (λi=>(aax i).flatMap λk:Nat=>Ub kind k (za k a) (yb a k)) (λi hi=>?_) ?_
  .have hq:cmp .lss (i:Int) 4=true:=by rw[Ra];simp;omega
   have hh:ar .add .i64 (i:Int) 1=((i+1:Nat):Int):=by rw[ub (by omega)];omega
   have hn:=hlen i;have hu:=hs i;have ho:lim (ba .row ((aax i).flatMap λk:Nat=>Ub kind k (za k a) (yb a k))) (ba .row (Ub kind i (za i a) (yb a i))):=WE (t:=.row) (by omega);have hp:AN a (i:Int):=show a.length<=1000000 by omega
   have k:=k8 ((aax i).flatMap λk:Nat=>Ub kind k (za k a) (yb a k)) i hi;generalize hall:((aax i).flatMap λk:Nat=>Ub kind k (za k a) (yb a k))=all at k ho;have a8:(ww a kind all (i:Int) (za i a) (yb a i) (ba .time (yb a i))).o=.x (Ub kind i (za i a) (yb a i)):=k.v;have b8:(ww a kind all (i:Int) (za i a) (yb a i) (ba .time (yb a i))).ob:=k.t
   have e3:(xw a kind all (i:Int)).ob/\(xw a kind all (i:Int)).val=.n (all++Ub kind i (za i a) (yb a i)):=by
    simp only[xw,oI,tU,rI,vU,pcT,aal,aam,ga,a5,a8];exact⟨by simp[b5,a8,b8,hp,ho],trivial⟩
   simp only[yw,sI,pcT,aal,aam,hq,hh,e3.2];rw[abf,aaJ,aaV,hall];exact⟨by simp[e3.1],rfl⟩
  .have hj:cmp .lss ((4:Nat):Int) 4=false:=rfl;simp only[yw,aal,aam,hj];exact⟨by simp,rfl⟩
 have a2:(zw a kind).o=.x (Yf kind a):=k2.v;have b2:(zw a kind).ob:=k2.t;obtain⟨s1,s2⟩:=rF (kind:=kind) hy;obtain⟨q1,q2⟩:=Kl (xs:=Yf kind a) (by omega) λx hx=>(s1 x hx).1;simp only[Bw,Aw,uI,tI,wU,pcT,aal,aam,ga,a2,q2,ocR];exact⟨by simp[b2,q1],by unfold Cg;split<;>rfl⟩
theorem L8{k:Nat}(_hk:k<4){made:List Row}(hm:fd k made)(hml:made.length<=6400){ts:List Time}{t:Time}(ht:xa t=true){i:Int}(hin:inb i (ba .time ts))(hrd:rd .time ts i=t) :
  (Nz (k:Int) kind (za k a) made ts i).ob/\(Nz (k:Int) kind (za k a) made ts i).val=.n (zg kind k (za k a) made t):=by
 obtain⟨hl,hc⟩:=gb hr;have ho:=ak (k:=(k:Int)) hc;have hw:=Fo (k:Int) a;obtain⟨p1,p2⟩:=fS (za k a) t (by omega);rw[if_pos ⟨G8 hr k,ht⟩]at p2;have ha:=ho.presLen t;have hz:=ho.pres t;obtain⟨g1,g2⟩:=z8 (s:=qc (za k a) t) (by omega) (key:=(k:Int)) hkind;rw[BS λx hx=>(hz x hx).1]at g2;generalize hG:vb kind k (qc (za k a) t)=D at g2;have hj:D.length<=101:=by rw[<-hG];have:=ZR kind k (qc (za k a) t);omega
 have hp:∀l:List Row,(Za l t).length<=l.length:=λl=>by unfold Za;rw[aaA];exact aav _ _
 have k8:ua (λs:LI×Int=>Jz (k:Int) kind (za k a) made ts i t D s.1 s.2) (D,0) (.x (D++(Za made t).map Yb)):=by
  refine la.fold made (λi b=>(b,(i:Int))) (λl=>D++(Za l t).map Yb) (by simp[Za]) (λl x r hx=>?_) ?_
  .obtain⟨hlen,hrd,hin,hv⟩:=La (t:=.row) hx;have hf:=hm x (by rw[hx];simp);have hs:=hp l;have hu:∀y,lim (ba .item (D++(Za l t).map Yb)) (ba .item [y]):=λy=>Jb (t:=.item) (show(D++(Za l t).map Yb).length<1099511627776 by rw[aao,aaA];omega);simp only[Jz,FL,TV,pcT,aal,aam,ga,hv,hrd,Ea (l:=l) (by omega),tF,hf.2.2.2.2,ht,abl];rw[bF];have e1:Za [x] t=if vd x.At t=true then [rIt x] else []:=by rw[Z8,b9,aaU]
   rw[e1];cases hb:vd x.At t with
   |true=>exact⟨by simp[hin,vo];exact hu _,by simp[na,Yb,rIt,hf.1]⟩
   |false=>exact⟨by simp[hin,vo],by simp[na]⟩
  .have hn:cmp .lss (made.length:Int) (ba .row made)=false:=Ha (t:=.row);simp only[Jz,aal,aam,hn];exact⟨by simp,rfl⟩
 have a8:(Kz (k:Int) kind (za k a) made ts i t D).o=.x (D++(Za made t).map Yb):=k8.v;have b8:(Kz (k:Int) kind (za k a) made ts i t D).ob:=k8.t;have hk:Zj kind k (za k a) made t=gathI (D++(Za made t).map Yb):=by rw[t7 hm,hG]
 obtain⟨d1,d2⟩:=qF (kind:=kind) (t:=t) ho hm;rw[hk]at d1 d2;have hq:=hp made
 obtain⟨q1,q2⟩:=HR (D++(Za made t).map Yb) (by rw[aao,aaA];omega) (λx hx=>by
  rcases aas.1 hx with hx|hx
  .rw[<-hG]at hx;rw[(YR (λy hy=>⟨(hz y hy).2.1,(hz y hy).2.2.1⟩) hx).2.2.2];unfold InR;omega
  .obtain⟨y,_,rfl⟩:=aaP.1 hx;exact RR y)
 generalize hE:gathI (D++(Za made t).map Yb)=E at q2 d1 d2 hk
 have hg:ua (λs:LR×Int=>Lz (k:Int) kind (za k a) made ts i t E s.1 s.2) (made,0) (.x (made++E.map (rowT t))):=by
  refine la.fold E (λi b=>(b,(i:Int))) (λl=>made++l.map (rowT t)) (by simp) (λl x r hx=>?_) ?_
  .obtain⟨hlen,hrd,hin,hv⟩:=La (t:=.item) hx;have he:=(d1 x (by rw[hx];simp)).1;have hu:∀y,lim (ba .row (made++l.map (rowT t))) (ba .row [y]):=λy=>Jb (t:=.row) (show(made++l.map (rowT t)).length<1099511627776 by rw[aao,aaA];omega);simp only[Lz,aal,aam,ga,hv,hrd,Ea (l:=l) (by omega)];exact⟨by simp[hin];exact hu _,by simp[na,rowT,he]⟩
  .have hn:cmp .lss (E.length:Int) (ba .item E)=false:=Ha (t:=.item);simp only[Lz,aal,aam,ga,hn];exact⟨by simp,rfl⟩
 have hh:(Mz (k:Int) kind (za k a) made ts i t E).o=.x (made++E.map (rowT t)):=hg.v;have hi:(Mz (k:Int) kind (za k a) made ts i t E).ob:=hg.t;simp only[Nz,GL,UV,pcT,aal,aam,ga,hrd,p2,g2,a8,q2,hh];refine⟨by simp[hin,p1,g1,b8,q1,q2,hi],?_⟩;unfold zg;rw[hk]
theorem M8{k:Nat}(hk:k<4):Rz a (k:Int) kind/\Qz a (k:Int) kind=Ub kind k (za k a) (yb a k):=by
 obtain⟨hl,hp⟩:=gb hr
 have k2:ua (λs:LR×Int=>Hz a (k:Int) kind s.1 s.2) ([],0) (.x (za k a)):=by
  refine la.fold a (λi b=>(b,(i:Int))) (λl=>za k l) rfl (λl x r hx=>?_) ?_
  .obtain⟨hlen,ho,hi,hm⟩:=La (t:=.row) hx;have hn:=Fo (k:Int) l;have hj:∀y,lim (ba .row (za k l)) (ba .row [y]):=λy=>Jb (t:=.row) (show(za k l).length<1099511627776 by omega);simp only[Hz,CL,QV,pcT,aal,aam,ga,hm,ho,Ea (l:=l) (by omega),mb];rw[QS];by_cases h:x.Key=k
   .exact⟨by simp[hi,h,hj],by simp[na,h]⟩
   .exact⟨by simp[hi,h],by simp[na,h]⟩
  .have hh:cmp .lss (a.length:Int) (ba .row a)=false:=Ha (t:=.row);simp only[Hz,aal,aam,hh];exact⟨by simp,rfl⟩
 have a2:(Iz a (k:Int) kind).o=.x (za k a):=k2.v;have b2:(Iz a (k:Int) kind).ob:=k2.t;obtain⟨f1,f2⟩:=E8 hr (k:Int);obtain⟨hs,hq⟩:=Ao (a:=a) (k:=(k:Int));generalize hT:yb a (k:Int)=ts at hs hq f2
 have k5:ua (λs:LR×Int=>Oz (k:Int) kind (za k a) ts s.1 s.2) ([],0) (.x (Ub kind k (za k a) ts)):=by
  refine la.fold ts (λi b=>(b,(i:Int))) (λl=>Ub kind k (za k a) l) rfl (λl t r hx=>?_) ?_
  .obtain⟨hlen,ho,hi,hm⟩:=La (t:=.time) hx;obtain⟨m1,m2⟩:=zo (kind:=kind) (ak (k:=(k:Int)) hp) l λt ht=>hs t (by rw[hx];simp[ht]);obtain⟨s1,s2⟩:=L8 hr hkind hk m1 (by omega) (hs t (by rw[hx];simp)) hi ho;simp only[Oz,IL,pcT,aal,aam,hm,Ea (l:=l) (by omega),s2];rw[aS];exact⟨by simp[s1],rfl⟩
  .have hh:cmp .lss (ts.length:Int) (ba .time ts)=false:=Ha (t:=.time);simp only[Oz,aal,aam,hh];exact⟨by simp,rfl⟩
 have a5:(Pz (k:Int) kind (za k a) ts).o=.x (Ub kind k (za k a) ts):=k5.v;have b5:(Pz (k:Int) kind (za k a) ts).ob:=k5.t;simp only[Rz,Qz,NL,DL,SV,ML,VV,pcT,aal,aam,ga,a2,f2,a5,ocR];exact⟨by simp[b2,f1,b5],trivial⟩
theorem O8:Vz a kind/\Uz a kind=Pa (Yf kind a):=by
 obtain⟨hl,hq⟩:=gb hr
 have ho:∀k:Nat,(Ub kind k (za k a) (yb a k)).length<=6400:=λk=>by
  obtain⟨ht,hs⟩:=Ao (a:=a) (k:=(k:Int));have:=(zo (kind:=kind) (ak (k:=(k:Int)) hq) _ ht).2;omega
 have hlen:∀i:Nat,((aax i).flatMap λk:Nat=>Ub kind k (za k a) (yb a k)).length<=6400*i:=λi=>by
  induction i with
  |zero=>simp
  |succ i ih=>
   rw[abf,aaJ,aao,aaV];have:=ho i;omega
 have k2:ua (λs:LR×Int=>Sz a kind s.1 s.2) ([],0) (.x (Yf kind a)):=by
  refine zF (λi=>(aax i).flatMap λk:Nat=>Ub kind k (za k a) (yb a k)) (λi hi=>?_) ?_
  .have hn:cmp .lss (i:Int) 4=true:=by rw[Ra];simp;omega
   have hh:ar .add .i64 (i:Int) 1=((i+1:Nat):Int):=by rw[ub (by omega)];omega
   have hk:=hlen i;have hp:=ho i;have hm:lim (ba .row ((aax i).flatMap λk:Nat=>Ub kind k (za k a) (yb a k))) (ba .row (Ub kind i (za i a) (yb a i))):=WE (t:=.row) (by omega);obtain⟨e1,e2⟩:=M8 hr hkind hi;simp only[Sz,aal,aam,ga,hn,hh,e2];rw[abf,aaJ,aaV];exact⟨by simp[e1,hm],rfl⟩
  .have hj:cmp .lss ((4:Nat):Int) 4=false:=rfl;simp only[Sz,aal,aam,hj];exact⟨by simp,rfl⟩
 have a2:(Tz a kind).o=.x (Yf kind a):=k2.v;have b2:(Tz a kind).ob:=k2.t;obtain⟨s1,s2⟩:=rF (kind:=kind) hq;obtain⟨q1,q2⟩:=Mi (Yf kind a) (by omega) λx hx=>(s1 x hx).1;simp only[Vz,Uz,WL,VL,WV,pcT,aal,aam,ga,a2,q2,ocR];exact⟨by simp[b2,q1],trivial⟩
end
end
theorem Ob(p:Plan):abF p.Kind p.Num p.Kids=p:=by cases p;rfl
def kd(k:Int):Int×Int×Int:=if k=1 then(0,0,1) else if k=2 then(1,1,7) else if k=3\/k=5 then(2,0,0) else if k=4 then(1,0,0) else if k=6 then(1,1,3) else(-1,0,0)
theorem Ho(k:Int):k=1\/k=2\/k=3\/k=4\/k=5\/k=6\/(k≠1/\k≠2/\k≠3/\k≠4/\k≠5/\k≠6):=by omega
theorem CF(k:Int):Ro k/\Ph k=((kd k).1,(kd k).2.1,(kd k).2.2,()):=by
 simp only[Ro,Ph,yG,xG,yT,wG,xT,pcT,aal,aam,mb];rcases Ho k with rfl|rfl|rfl|rfl|rfl|rfl|⟨h1,h2,h3,h4,h5,h6⟩
 .exact⟨by simp,rfl⟩
 .exact⟨by simp,rfl⟩
 .exact⟨by simp,rfl⟩
 .exact⟨by simp,rfl⟩
 .exact⟨by simp,rfl⟩
 .exact⟨by simp,rfl⟩
 .simp[h1,h2,h3,h4,h5,h6,kd,ocR]
theorem Tt(k:Int):Ol k/\Oh k=((kd k).1,(kd k).2.1,(kd k).2.2,()):=by
 simp only[Ol,Oh,cG,bG,oT,aG,nT,pcT,aal,aam,mb];rcases Ho k with rfl|rfl|rfl|rfl|rfl|rfl|⟨h1,h2,h3,h4,h5,h6⟩
 .exact⟨by simp,rfl⟩
 .exact⟨by simp,rfl⟩
 .exact⟨by simp,rfl⟩
 .exact⟨by simp,rfl⟩
 .exact⟨by simp,rfl⟩
 .exact⟨by simp,rfl⟩
 .simp[h1,h2,h3,h4,h5,h6,kd,ocR]
def Bc(p:Plan):Bool:=decide ((p.Kids.length:Int)=(kd p.Kind).1/\(kd p.Kind).2.1<=p.Num/\p.Num<=(kd p.Kind).2.2)
def okM:Nat->Plan->Bool
 |0,_=>false
 |d+1,p=>Bc p&&p.Kids.all (okM d)
theorem S8(k:Int):(kd k).1<=2:=by
 unfold kd;repeat' split
 all_goals simp
theorem DF{p:Plan}(h:Bc p=true):p.Kids.length<=2:=by
 simp only[Bc,decide_eq_true_eq]at h;have:=S8 p.Kind;omega
theorem U8:∀(d n:Nat),d<n->d<=1000->∀p:Plan,(Md n).2 p d/\(Md n).1 p d=okM d p:=by
 intro d
 induction d with
 |zero=>
  intro n hn _ p;obtain⟨m,rfl⟩ : ∃m,n=m+1:=⟨n - 1,by omega⟩;obtain⟨k1,k2⟩:=CF p.Kind;have hl:cmp .lss ((0:Nat):Int) 1=true:=rfl;simp only[Md,nk,aal,aam,ga,hl,cond_true,ocR];exact⟨by simp[k1],rfl⟩
 |succ d ih=>
  intro n hn hd p;obtain⟨m,rfl⟩ : ∃m,n=m+1:=⟨n - 1,by omega⟩;obtain⟨k1,k2⟩:=CF p.Kind;generalize hD:((d+1:Nat):Int)=D;have hl:cmp .lss D 1=false:=by rw[Ra];simp;omega
  have ho:ar .sub .i64 D 1=(d:Int):=by rw[fh (by omega)];omega
  have hc:cond (cond (cond (cond (cmp .lss D 1) true (cmp .lss (Ph p.Kind).1 0)) true (cmp .neq (ba .plan p.Kids) (Ph p.Kind).1)) true (cmp .lss p.Num (Ph p.Kind).2.1)) true (cmp .gtr p.Num (Ph p.Kind).2.2.1)=!Bc p:=by
   rw[hl,k2];simp only[Ra,jf,Lb,Bc,ba];rw[aat];simp;omega
  by_cases hh:Bc p=true
  .have hlen:=DF hh
   have k:ua (λs:Int=>Du (Md m).1 (Md m).2 D p.Kids (ba .plan p.Kids) s) 0 (if Kb (λ_ x=>!okM d x) none p.Kids=true then .x () else .r false):=by
    refine la.scan p.Kids _ (λl x r hx=>?_) ?_
    .obtain⟨hlen2,hm,hj,hk⟩:=La (t:=.plan) hx;obtain⟨i1,i2⟩:=ih m (by omega) (by omega) x;simp only[Du,aal,aam,ga,hk,hm,Ob,ho,i2,Ea (l:=l) (by omega)];refine⟨by simp[hj,i1],?_⟩;cases okM d x<;>rfl
    .have hi:cmp .lss (p.Kids.length:Int) (ba .plan p.Kids)=false:=Ha (t:=.plan);simp only[Du,aal,aam,ga,hi];exact⟨by simp,rfl⟩
   have a2:(Eu (Md m).1 (Md m).2 D p.Kids (ba .plan p.Kids)).o=_:=k.v;have b2:(Eu (Md m).1 (Md m).2 D p.Kids (ba .plan p.Kids)).ob:=k.t;rw[Bg]at a2;simp only[Md,nk,zG,zT,pcT,aal,aam,ga,hc,hh,aaO,a2,okM];refine⟨by simp[k1,b2],?_⟩;cases p.Kids.all (okM d)<;>rfl
  .have hh:Bc p=false:=by simpa using hh
   simp only[Md,nk,aal,aam,ga,hc,hh,abp,ocR,okM,abG];exact⟨by simp[k1],trivial⟩
theorem V8:∀(d n:Nat),d<n->d<=1000->∀p:Plan,(Kd n).2 p d/\(Kd n).1 p d=okM d p:=by
 intro d
 induction d with
 |zero=>
  intro n hn _ p;obtain⟨m,rfl⟩ : ∃m,n=m+1:=⟨n - 1,by omega⟩;obtain⟨k1,k2⟩:=Tt p.Kind;have hl:cmp .lss ((0:Nat):Int) 1=true:=rfl;simp only[Kd,ik,aal,aam,ga,hl,cond_true,ocR];exact⟨by simp[k1],rfl⟩
 |succ d ih=>
  intro n hn hd p;obtain⟨m,rfl⟩ : ∃m,n=m+1:=⟨n - 1,by omega⟩;obtain⟨k1,k2⟩:=Tt p.Kind;generalize hD:((d+1:Nat):Int)=D;have hl:cmp .lss D 1=false:=by rw[Ra];simp;omega
  have hp:ar .sub .i64 D 1=(d:Int):=by rw[fh (by omega)];omega
  have hk:∀a b c,mh a b c/\je a b c=decide (b<=a/\a<=c):=λa b c=>by
   refine⟨trivial,?_⟩;show cond (cmp .geq a b) (cmp .leq a c) false=_;rw[vg,de,aat];simp
  have hc:cond (cond (cmp .lss D 1) true (cmp .neq (ba .plan p.Kids) (Oh p.Kind).1)) true (!(je p.Num (Oh p.Kind).2.1 (Oh p.Kind).2.2.1))=!Bc p:=by
   rw[hl,k2,(hk _ _ _).2];simp only[jf,Bc,ba];rw[aat];simp
  by_cases hh:Bc p=true
  .have hlen:=DF hh
   have k:ua (λs:Int=>iu (Kd m).1 (Kd m).2 D p.Kind p.Num p.Kids s) 0 (if Kb (λ_ x=>!okM d x) none p.Kids=true then .x () else .r false):=by
    refine la.scan p.Kids _ (λl x r hx=>?_) ?_
    .obtain⟨hlen2,ho,hj,hm⟩:=La (t:=.plan) hx;obtain⟨i1,i2⟩:=ih m (by omega) (by omega) x;simp only[iu,aal,aam,ga,hm,ho,Ob,hp,i2,Ea (l:=l) (by omega)];refine⟨by simp[hj,i1],?_⟩;cases okM d x<;>rfl
    .have hi:cmp .lss (p.Kids.length:Int) (ba .plan p.Kids)=false:=Ha (t:=.plan);simp only[iu,aal,aam,ga,hi];exact⟨by simp,rfl⟩
   have a2:(ku (Kd m).1 (Kd m).2 D p.Kind p.Num p.Kids).o=_:=k.v;have b2:(ku (Kd m).1 (Kd m).2 D p.Kind p.Num p.Kids).ob:=k.t;rw[Bg]at a2;simp only[Kd,ik,dG,qT,pcT,aal,aam,ga,hc,hh,aaO,a2,okM];refine⟨by simp[k1,b2,(hk _ _ _).1],?_⟩;cases p.Kids.all (okM d)<;>rfl
  .have hh:Bc p=false:=by simpa using hh
   simp only[Kd,ik,aal,aam,ga,hc,hh,abp,ocR,okM,abG];exact⟨by simp[k1,(hk _ _ _).1],trivial⟩
theorem lh{d:Nat}{p:Plan}(h:okM (d+1) p=true):p.Kids.length<=2/\∀x∈p.Kids,okM d x=true:=by
 simp only[okM,aaq,aaF]at h;exact⟨DF h.1,h.2⟩
theorem Ut(p:Plan):rk p/\qk p=okM 4 p:=by
 obtain⟨h1,h2⟩:=U8 4 Ya (by decide) (by decide) p;simp only[rk,qk,AG,aal,aam,ga,Ob,ocR];exact⟨⟨⟨h1,trivial⟩,trivial⟩,h2⟩
theorem EF(p:Plan):Rl p/\Ql p=okM 4 p:=by
 obtain⟨h1,h2⟩:=V8 4 Ya (by decide) (by decide) p;simp only[Rl,Ql,eG,aal,aam,ga,Ob,ocR];exact⟨⟨⟨h1,trivial⟩,trivial⟩,h2⟩
section
open Go Tg
def Nc:Option (List Row)->List Row×Bool×Unit
 |some x=>(x,true,())
 |none=>([],false,())
def kh(o:Option (List (List Row))):Oc Empty (List Row×Bool×Unit) (List (List Row)) Empty Empty:=match o with
 |some ks=>.x ks
 |none=>.r ([],false,())
theorem rd0(ks:List (List Row)):rd .lrow ks 0=ks.getD 0 []:=rfl
theorem rd1(ks:List (List Row)):rd .lrow ks 1=ks.getD 1 []:=rfl
theorem P8(x:List Row):Cg x=Nc (if Oa x=true then some x else none):=by
 unfold Cg;split<;>rfl
theorem Ml{ks:List (List Row)}(h:∀x∈ks,Oa x=true)(n:Nat):Oa (ks.getD n [])=true:=by
 rw[aan];cases hx:ks[n]? with
 |none=>rfl
 |some x=>exact h x (List.mem_of_getElem? hx)
theorem SS(num:Int)(ks ins:List (List Row)):opR 1 num ks ins=ins.getD num.toNat []:=rfl
theorem TS(num:Int)(ks ins:List (List Row)):opR 2 num ks ins=Pa (ed num (ks.getD 0 [])):=rfl
theorem VS(num:Int)(ks ins:List (List Row)):opR 3 num ks ins=Pa (ks.getD 0 []++ks.getD 1 []):=rfl
theorem WS(num:Int)(ks ins:List (List Row)):opR 4 num ks ins=Pa (fb (ks.getD 0 [])):=rfl
theorem XS(num:Int)(ks ins:List (List Row)):opR 5 num ks ins=Pa (Ic (ks.getD 0 []) (ks.getD 1 [])):=rfl
theorem YS(num:Int)(ks ins:List (List Row)):opR 6 num ks ins=Pa (Yf num (ks.getD 0 [])):=rfl
theorem Ce{ks:List (List Row)}{i:Int}(h0:0<=i)(h:i<ks.length):inb i (ba .lrow ks):=by unfold inb ba;omega
theorem Q8{ins:List (List Row)}(hlen:ins.length=2)(hins:∀a∈ins,Oa a=true):∀(d n:Nat),d<=n->∀p:Plan,okM d p=true->(pe n).2 p ins/\(pe n).1 p ins=Nc (lc d ins p):=by
 intro d
 induction d with
 |zero=>intro n _ p h;cases h
 |succ d ih=>
  intro n hn p hp;obtain⟨m,rfl⟩ : ∃m,n=m+1:=⟨n - 1,by omega⟩;obtain⟨hu,hk⟩:=lh hp
  have k:∃q,ua (λs:List LR×Int=>Dw (pe m).1 (pe m).2 ins p.Kind p.Num p.Kids (ba .plan p.Kids) s.1 s.2) ([],0) q/\q=kh (jc (lc d ins) p.Kids):=by
   refine la.list p.Kids (λi b=>(b,(i:Int))) (λl b=>jc (lc d ins) l=some b) (b0:=[]) rfl rfl (λl x r b hx hI=>?_) (λb hI=>?_)
   .obtain⟨hlen2,it,hr,hc⟩:=La (t:=.plan) hx;have hj:=yo hI;obtain⟨i1,i2⟩:=ih m (by omega) x (hk x (by rw[hx];simp));have ha:∀y,lim (ba .lrow b) (ba .lrow [y]):=λy=>Jb (t:=.lrow) (show b.length<1099511627776 by omega);have hh:=xo (lc d ins) l (x::r);have hi:=xo (lc d ins) l [x];simp only[Dw,aal,aam,ga,hc,it,Ob,i2,Ea (l:=l) (by omega)];rw[hI]at hh hi;cases hf:lc d ins x with
    |none=>
     simp only[jc,hf]at hh;exact⟨by simp[-aan,hr,i1,Nc],.inr ⟨_,by simp[na,Nc];rfl,by rw[hx,hh];rfl⟩⟩
    |some y=>
     simp only[jc,hf]at hi;exact⟨by simp[-aan,hr,i1,Nc,ha],.inl ⟨b++[y],by simp[na,Nc],hi⟩⟩
   .have hl:cmp .lss (p.Kids.length:Int) (ba .plan p.Kids)=false:=Ha (t:=.plan);simp only[Dw,aal,aam,ga,hl];exact⟨by simp,_,rfl,by rw[hI];rfl⟩
  obtain⟨q,kq,rfl⟩:=k;have a2:(Ew (pe m).1 (pe m).2 ins p.Kind p.Num p.Kids (ba .plan p.Kids)).o=kh (jc (lc d ins) p.Kids):=kq.v;have b2:(Ew (pe m).1 (pe m).2 ins p.Kind p.Num p.Kids (ba .plan p.Kids)).ob:=kq.t;have ix:Bc p=true:=by simp only[okM,aaq]at hp;exact hp.1
  simp only[Bc,decide_eq_true_eq]at ix;obtain⟨r1,r2,r3⟩:=ix;simp only[pe,Ep,yI,xU,pcT,aal,aam,ga,a2,mb,lc];cases hA:jc (lc d ins) p.Kids with
  |none=>exact⟨by simp[kh,b2],by simp[kh,ocR,Nc]⟩
  |some ks=>
   have ht:∀x∈ks,Oa x=true:=λx hx=>by
    obtain⟨q,_,hq⟩:=lF hA x hx;exact mF hq
   have hv:=yo hA;have h0:=Ml ht 0;have h1:=Ml ht 1;have hr0:=Pd h0;have io:=Pd h1;have hw:=(gb hr0).1;have hy:=(gb io).1;have hm:∀x∈ks.getD 0 [],InR x.Diff:=λx hx=>Jf ((gb hr0).2 x hx);have ho:∀x∈ks.getD 1 [],InR x.Diff:=λx hx=>Jf ((gb io).2 x hx);obtain⟨K,M,kids⟩:=p;simp only at r1 r2 r3 b2 a2 hA hv⊢;simp only[kh,rd0,rd1,<-P8];rcases Ho K with rfl|rfl|rfl|rfl|rfl|rfl|⟨g1,g2,g3,g4,g5,g6⟩
   .simp only[kd]at r1 r2 r3;have hM:0<=M/\M<=1:=by simpa using abH r2 r3
    have it:rd .lrow ins M=ins.getD M.toNat []:=rfl;have hb:=Ml hins M.toNat;have hz:=(gb (Pd hb)).1;obtain⟨c1,c2⟩:=yF (a:=ins.getD M.toNat []) (by omega);have hr:=Ce (ks:=ins) hM.1 (by omega);rw[SS];refine⟨by simp[-aan,b2,hr,it,c1],?_⟩;simp only[decide_true,it,c2,ocR];unfold Cg;rw[if_pos hb]
   .have he:ks.length=1:=by simp[kd]at r1;omega
    have hr:=Ce (ks:=ks) (i:=0) (by omega) (by omega);simp only[kd]at r2 r3;have hM:1<=M/\M<=7:=by simpa using abH r2 r3
    obtain⟨c1,c2⟩:=L7 hr0 hM;rw[TS];refine⟨by simp[-aan,b2,hr,c1],?_⟩;simp[-aan,c2,ocR]
   .have he:ks.length=2:=by simp[kd]at r1;omega
    have hr:=Ce (ks:=ks) (i:=0) (by omega) (by omega);have hs:=Ce (ks:=ks) (i:=1) (by omega) (by omega);obtain⟨c1,c2⟩:=oS (a:=ks.getD 0 []) (b:=ks.getD 1 []) (by omega) (by omega);obtain⟨e1,e2⟩:=Kl (xs:=ks.getD 0 []++ks.getD 1 []) (by rw[aao];omega) (λx hx=>(aas.1 hx).elim (hm x) (ho x));rw[VS];refine⟨by simp[-aan,b2,hr,hs,c1,c2,e1],?_⟩;simp only[c2,e2,ocR];unfold Cg;cases Oa _<;>rfl
   .have he:ks.length=1:=by simp[kd]at r1;omega
    have hr:=Ce (ks:=ks) (i:=0) (by omega) (by omega);obtain⟨c1,c2⟩:=V7 (a:=ks.getD 0 []) (by omega);have hg:(fb (ks.getD 0 [])).length=(ks.getD 0 []).length:=by simp[fb]
    obtain⟨e1,e2⟩:=Kl (xs:=fb (ks.getD 0 [])) (by omega) (HF _);rw[WS];refine⟨by simp[-aan,b2,hr,c1,c2,e1],?_⟩;simp only[c2,e2,ocR];unfold Cg;cases Oa _<;>rfl
   .have he:ks.length=2:=by simp[kd]at r1;omega
    have hr:=Ce (ks:=ks) (i:=0) (by omega) (by omega);have hs:=Ce (ks:=ks) (i:=1) (by omega) (by omega);obtain⟨c1,c2⟩:=T7 hr0 io;rw[XS];refine⟨by simp[-aan,b2,hr,hs,c1],?_⟩;simp[-aan,c2,ocR]
   .have he:ks.length=1:=by simp[kd]at r1;omega
    have hr:=Ce (ks:=ks) (i:=0) (by omega) (by omega);simp only[kd]at r2 r3;have hM:1<=M/\M<=3:=by simpa using abH r2 r3
    obtain⟨c1,c2⟩:=J8 hr0 hM;rw[YS];refine⟨by simp[-aan,b2,hr,c1],?_⟩;simp[-aan,c2,ocR]
   .exfalso
    simp[kd,g1,g2,g3,g4,g5,g6]at r1
theorem R8{ins:List (List Row)}(hlen:ins.length=2)(hins:∀a∈ins,Oa a=true):∀(d n:Nat),d<=n->∀p:Plan,okM d p=true->(sd n).2 p ins/\∃o,(sd n).1 p ins=(o,(lc d ins p).isSome,())/\∀x,lc d ins p=some x->o=x:=by
 intro d
 induction d with
 |zero=>intro n _ p h;cases h
 |succ d ih=>
  intro n hn p hp;obtain⟨m,rfl⟩ : ∃m,n=m+1:=⟨n - 1,by omega⟩;obtain⟨hz,hk⟩:=lh hp
  have k:∃q,ua (λs:List LR×Int=>Xz (sd m).1 (sd m).2 ins p.Kind p.Num p.Kids s.1 s.2) ([],0) q/\q=kh (jc (lc d ins) p.Kids):=by
   refine la.list p.Kids (λi b=>(b,(i:Int))) (λl b=>jc (lc d ins) l=some b) (b0:=[]) rfl rfl (λl x r b hx hI=>?_) (λb hI=>?_)
   .obtain⟨hlen2,ki,hu,ix⟩:=La (t:=.plan) hx;have hl:=yo hI;obtain⟨i1,o,i2,i3⟩:=ih m (by omega) x (hk x (by rw[hx];simp));have io:∀y,lim (ba .lrow b) (ba .lrow [y]):=λy=>Jb (t:=.lrow) (show b.length<1099511627776 by omega);have hh:=xo (lc d ins) l (x::r);have hi:=xo (lc d ins) l [x];simp only[Xz,aal,aam,ga,ix,ki,Ob,i2,Ea (l:=l) (by omega)];rw[hI]at hh hi;cases hf:lc d ins x with
    |none=>
     simp only[jc,hf]at hh;exact⟨by simp[-aan,hu,i1],.inr ⟨_,by simp[na];rfl,by rw[hx,hh];rfl⟩⟩
    |some y=>
     simp only[jc,hf]at hi;rw[i3 y hf];exact⟨by simp[-aan,hu,i1,io],.inl ⟨b++[y],by simp[na],hi⟩⟩
   .have ho:cmp .lss (p.Kids.length:Int) (ba .plan p.Kids)=false:=Ha (t:=.plan);simp only[Xz,aal,aam,ga,ho];exact⟨by simp,_,rfl,by rw[hI];rfl⟩
  obtain⟨q,kq,rfl⟩:=k;have a2:(Yz (sd m).1 (sd m).2 ins p.Kind p.Num p.Kids).o=kh (jc (lc d ins) p.Kids):=kq.v;have b2:(Yz (sd m).1 (sd m).2 ins p.Kind p.Num p.Kids).ob:=kq.t;have kj:Bc p=true:=by simp only[okM,aaq]at hp;exact hp.1
  simp only[Bc,decide_eq_true_eq]at kj;obtain⟨r1,r2,r3⟩:=kj;simp only[sd,Aq,YL,YV,pcT,aal,aam,ga,a2,lc];cases hA:jc (lc d ins) p.Kids with
  |none=>exact⟨by simp[kh,b2],[],by simp[kh,ocR],λx hx=>by cases hx⟩
  |some ks=>
   have hy:∀x∈ks,Oa x=true:=λx hx=>by
    obtain⟨q,_,hq⟩:=lF hA x hx;exact mF hq
   have ha:=yo hA;have h0:=Ml hy 0;have h1:=Ml hy 1;have hr0:=Pd h0;have jb:=Pd h1;have hc:=(gb hr0).1;have he:=(gb jb).1;have hs:∀x∈ks.getD 0 [],InR x.Diff:=λx hx=>Jf ((gb hr0).2 x hx);have ht:∀x∈ks.getD 1 [],InR x.Diff:=λx hx=>Jf ((gb jb).2 x hx);obtain⟨K,M,kids⟩:=p;simp only at r1 r2 r3 b2 a2 hA ha⊢
   have key:((aA (sd m).1 (sd m).2 ins K M kids ks).ob/\(aA (sd m).1 (sd m).2 ins K M kids ks).val=.n (opR K M ks ins))/\(opR K M ks ins).length<1000000000:=by
    simp only[aA,Zz,ZL,pcT,aal,aam,ga,mb,rd0,rd1,aaN];rcases Ho K with rfl|rfl|rfl|rfl|rfl|rfl|⟨g1,g2,g3,g4,g5,g6⟩
    .simp only[kd]at r1 r2 r3;have hM:0<=M/\M<=1:=by simpa using abH r2 r3
     have ki:rd .lrow ins M=ins.getD M.toNat []:=rfl;have hb:=Ml hins M.toNat;have hg:=(gb (Pd hb)).1;have hu:=Ce (ks:=ins) hM.1 (by omega);have io:lim (ba .row []) (ba .row (ins.getD M.toNat [])):=by simp only[lim,ba,aay];omega
     rw[SS];exact⟨⟨by simp only[ki];simp[-aan,hu];exact io,by simp[-aan,ki]⟩,by omega⟩
    .have ie:ks.length=1:=by simp[kd]at r1;omega
     have hu:=Ce (ks:=ks) (i:=0) (by omega) (by omega);simp only[kd]at r2 r3;have hM:1<=M/\M<=7:=by simpa using abH r2 r3
     obtain⟨c1,c2⟩:=O7 hr0 hM;have hr:=El (GF (h:=M) hs);have hm:=Jl M (ks.getD 0 []);rw[TS];exact⟨⟨by simp only[];simp[-aan,hu,c1],by simp[-aan,c2]⟩,by omega⟩
    .have ie:ks.length=2:=by simp[kd]at r1;omega
     have hu:=Ce (ks:=ks) (i:=0) (by omega) (by omega);have hv:=Ce (ks:=ks) (i:=1) (by omega) (by omega);have hj:∀x∈ks.getD 0 []++ks.getD 1 [],InR x.Diff:=λx hx=>(aas.1 hx).elim (hs x) (ht x);obtain⟨e1,e2⟩:=Mi (ks.getD 0 []++ks.getD 1 []) (by rw[aao];omega) hj;have hr:=El hj;rw[aao]at hr;have io:lim (ba .row []) (ba .row (ks.getD 0 [])):=by simp only[lim,ba,aay];omega
     have it:lim (ba .row (ks.getD 0 [])) (ba .row (ks.getD 1 [])):=WE (t:=.row) (by omega);rw[VS];exact⟨⟨by simp[-aan,hu,hv,io,it,e1],by simp[-aan,e2]⟩,by omega⟩
    .have ie:ks.length=1:=by simp[kd]at r1;omega
     have hu:=Ce (ks:=ks) (i:=0) (by omega) (by omega);obtain⟨c1,c2⟩:=wS h0;have ju:(fb (ks.getD 0 [])).length=(ks.getD 0 []).length:=by simp[fb]
     rw[WS,rS (uS h0)];exact⟨⟨by simp[-aan,hu,c1],by simp[-aan,c2]⟩,by omega⟩
    .have ie:ks.length=2:=by simp[kd]at r1;omega
     have hu:=Ce (ks:=ks) (i:=0) (by omega) (by omega);have hv:=Ce (ks:=ks) (i:=1) (by omega) (by omega);obtain⟨c1,c2⟩:=U7 hr0 jb;have hr:=El λx hx=>(Vt (gb hr0).2 (gb jb).2 x hx).1;have hw:=Do hc he;rw[XS];exact⟨⟨by simp[-aan,hu,hv,c1],by simp[-aan,c2]⟩,by omega⟩
    .have ie:ks.length=1:=by simp[kd]at r1;omega
     have hu:=Ce (ks:=ks) (i:=0) (by omega) (by omega);simp only[kd]at r2 r3;have hM:1<=M/\M<=3:=by simpa using abH r2 r3
     obtain⟨c1,c2⟩:=O8 hr0 hM;obtain⟨s1,s2⟩:=rF (kind:=M) (gb hr0).2;have hr:=El λx hx=>(s1 x hx).1;rw[YS];exact⟨⟨by simp[-aan,hu,c1],by simp[-aan,c2]⟩,by omega⟩
    .exfalso
     simp[kd,g1,g2,g3,g4,g5,g6]at r1
   obtain⟨⟨c1,c2⟩,c3⟩:=key;obtain⟨f1,f2⟩:=Co (opR K M ks ins) c3;simp only[kh,aM,c2,f2,pcT];refine⟨by simp[b2,c1,c2,f1],opR K M ks ins,?_,?_⟩
   .cases hb:Oa (opR K M ks ins)<;>simp[ocR]
   .intro x hx;split at hx
    .simpa using hx
    .cases hx
def Kf(p:Plan)(ins:List (List Row)):Option (List Row):=if okM 4 p=true/\ins.length=2/\ins.all Oa=true then lc 4 ins p else none
theorem ZS(p:Plan)(ins:List (List Row))(hl:ins.length<1000000)(hl2:∀a∈ins,a.length<1000000000):Gp p ins/\Fp p ins=Nc (Kf p ins):=by
 obtain⟨p1,p2⟩:=Ut p
 have k:ua (λs:Int=>Fw ins p.Kind p.Num p.Kids (ba .lrow ins) s) 0 (if Kb (λ_ x=>!Oa x) none ins=true then .x () else .r ([],false,())):=by
  refine la.scan ins _ (λl x r hx=>?_) ?_
  .obtain⟨hlen,hn,hi,hk⟩:=La (t:=.lrow) hx;obtain⟨b1,b2⟩:=uF x (hl2 x (by rw[hx];simp));simp only[Fw,aal,aam,ga,hk,hn,b2,Ea (l:=l) (by omega)];refine⟨by simp[hi,b1],?_⟩;cases Oa x<;>rfl
  .have hh:cmp .lss (ins.length:Int) (ba .lrow ins)=false:=Ha (t:=.lrow);simp only[Fw,aal,aam,ga,hh];exact⟨by simp,rfl⟩
 have a2:(Gw ins p.Kind p.Num p.Kids (ba .lrow ins)).o=_:=k.v;have b2:(Gw ins p.Kind p.Num p.Kids (ba .lrow ins)).ob:=k.t;rw[Bg]at a2;simp only[Gp,Fp,DI,BI,zU,pcT,aal,aam,ga,Ob,p2,jf,a2];unfold Kf;have hm:decide (ba .lrow ins=2)=decide (ins.length=2):=decide_eq_decide.2 (by unfold ba;omega);rw[hm];cases h1:okM 4 p with
 |false=>exact⟨by simp[p1],by simp[ocR,Nc]⟩
 |true=>
  by_cases h2:ins.length=2
  .cases h3:ins.all Oa with
   |false=>exact⟨by simp[p1,h2,b2],by simp[ocR,Nc,h2]⟩
   |true=>
    have hj:∀a∈ins,Oa a=true:=aaF.1 h3;obtain⟨f1,f2⟩:=Q8 h2 hj 4 Ya (by decide) p h1;have f1:AI p ins:=f1;have f2:zI p ins=Nc (lc 4 ins p):=f2;exact⟨by simp[p1,h2,b2,f1],by simp[ocR,h2,f2]⟩
  .exact⟨by simp[p1,h2],by simp[ocR,Nc,h2]⟩
theorem aT(p:Plan)(ins:List (List Row))(hl:ins.length<1000000)(hl2:∀a∈ins,a.length<1000000000):Cq p ins/\Bq p ins=Nc (Kf p ins):=by
 obtain⟨p1,p2⟩:=EF p
 have k:ua (λs:Int=>bA ins p.Kind p.Num p.Kids s) 0 (if Kb (λ_ x=>!Oa x) none ins=true then .x () else .r ([],false,())):=by
  refine la.scan ins _ (λl x r hx=>?_) ?_
  .obtain⟨hlen,hn,hi,hk⟩:=La (t:=.lrow) hx;obtain⟨b1,b2⟩:=Co x (hl2 x (by rw[hx];simp));simp only[bA,aal,aam,ga,hk,hn,b2,Ea (l:=l) (by omega)];refine⟨by simp[hi,b1],?_⟩;cases Oa x<;>rfl
  .have hh:cmp .lss (ins.length:Int) (ba .lrow ins)=false:=Ha (t:=.lrow);simp only[bA,aal,aam,ga,hh];exact⟨by simp,rfl⟩
 have a2:(cA ins p.Kind p.Num p.Kids).o=_:=k.v;have b2:(cA ins p.Kind p.Num p.Kids).ob:=k.t;rw[Bg]at a2;simp only[Cq,Bq,eM,dM,aW,pcT,aal,aam,ga,Ob,p2,jf,a2];unfold Kf;have hm:decide (ba .lrow ins=2)=decide (ins.length=2):=decide_eq_decide.2 (by unfold ba;omega);rw[hm];cases h1:okM 4 p with
 |false=>exact⟨by simp[p1],by simp[ocR,Nc]⟩
 |true=>
  by_cases h2:ins.length=2
  .cases h3:ins.all Oa with
   |false=>exact⟨by simp[p1,h2,b2],by simp[ocR,Nc,h2]⟩
   |true=>
    have hj:∀a∈ins,Oa a=true:=aaF.1 h3;obtain⟨f1,o,f2,f3⟩:=R8 h2 hj 4 Ya (by decide) p h1;have f1:cM p ins:=f1;have f2:bM p ins=(o,(lc 4 ins p).isSome,()):=f2;cases hF:lc 4 ins p with
    |none=>
     rw[hF]at f2;exact⟨by simp[p1,h2,b2,f1,f2],by simp[ocR,h2,f2,Nc]⟩
    |some x=>
     rw[hF]at f2;rw[f3 x hF]at f2;exact⟨by simp[p1,h2,b2,f1,f2],by simp[ocR,h2,f2,Nc]⟩
  .exact⟨by simp[p1,h2],by simp[ocR,Nc,h2]⟩
theorem X8{a:List Row}(h:Nb a=true)(t:Time):∀x∈qc a t,-39999600<=x.Count/\x.Count<=39999600:=by
 obtain⟨h1,h2⟩:=gb h
 have hs:Small 99999 (Za a t):=λx hx=>by
  obtain⟨r,hr,rfl⟩:=aaP.1 hx;have:=h2 r (aaM.1 hr).1;simp only[Mb,decide_eq_true_eq]at this;exact⟨this.2.2.2.2.2.1,this.2.2.2.2.2.2⟩
 have hl:(Za a t).length<=400:=by
  unfold Za;rw[aaA];exact abq (aav _ _) h1
 have h3:=c7 hs (by omega);intro x hx;have:=h3 x hx;omega
end
structure BF(p:Plan)(ins:List (List Row))(x:List Row):Prop where
 ok:okM 4 p=true
 len:ins.length=2
 every:∀a∈ins,Oa a=true
 flow:lc 4 ins p=some x
 batch:Oa x=true
 short:x.length<=400
theorem Oi{p:Plan}{ins:List (List Row)}{x:List Row}(h:Kf p ins=some x):BF p ins x:=by
 unfold Kf at h;split at h
 .rename_i h1;have hb:=mF h;exact⟨h1.1,h1.2.1,aaF.1 h1.2.2,h,hb,(gb (Pd hb)).1⟩
 .cases h
theorem BF.of{p:Plan}{ins:List (List Row)}{x:List Row}(h1:okM 4 p=true)(h2:ins.length=2)(h3:∀a∈ins,Oa a=true)(h4:lc 4 ins p=some x):Kf p ins=some x:=by
 unfold Kf;rw[if_pos ⟨h1,h2,aaF.2 h3⟩,h4]
section
open Go Tg
theorem g9{a:List Row}(h:Nb a=true)(t:Time):(qc a t).length<=400:=by
 obtain⟨h1,h2⟩:=gb h;have hs:∀x∈Za a t,InR x.Count:=c9 (λx hx=>Jf (h2 x hx)) t
 have hl:(Za a t).length<=400:=by
  unfold Za;rw[aaA];exact abq (aav _ _) h1
 exact abq (d7 hs) hl
structure PS(s:List Item):Prop where
 ok:NR s=true
 kv:∀x∈s,(0<=x.Key/\x.Key<=3)/\0<=x.Val/\x.Val<=99
 cnt:∀x∈s,-39999600<=x.Count/\x.Count<=39999600
 can:Canon s
 len:s.length<=400
theorem j9{x z:Item}(h:ltK (kI z) (kI x)=true):jF (some z) x=false:=by
 simp only[kI,ltK,Bool.or_eq_true,aaq,decide_eq_true_eq]at h;simp only[jF,decide_eq_false_iff_not];rcases h with h|⟨h,h2|⟨_,h2⟩⟩
 .omega
 .omega
 .simp at h2
theorem fT:∀ {s:List Item}{y:Option Item},(∀x∈s,okI x=true)->s.Pairwise (λx y=>ltK (kI x) (kI y)=true)->(∀z,y=some z->∀x∈s,ltK (kI z) (kI x)=true)->okR y s=true
 |[],_,_,_,_=>rfl
 |x::r,y,h1,h2,h3=>by
  have h2':=abv.1 h2;simp only[okR,aaq,abx];refine⟨h1 x (by simp),?_,fT (λz hz=>h1 z (by simp[hz])) h2'.2 λz hz u hu=>?_⟩
  .cases y with
   |none=>rfl
   |some z=>exact j9 (h3 z rfl x (by simp))
  .cases hz;exact h2'.1 u hu
theorem Wt{a:List Row}(h:Nb a=true)(t:Time):PS (qc a t):=by
 have hm:=(gb h).2;have hl:=g9 h t
 have hh:∀x∈qc a t,(0<=x.Key/\x.Key<=3)/\0<=x.Val/\x.Val<=99:=λx hx=>by
  obtain⟨y,hy,e1,e2⟩:=Mt hx;obtain⟨r,hr,rfl⟩:=aaP.1 hy;have:=bk (hm r (aaM.1 hr).1);have e1:r.Key=x.Key:=e1;have e2:r.Val=x.Val:=e2;omega
 have hc:=X8 h t;refine⟨?_,hh,hc,cT _,hl⟩;simp only[NR,aaq,decide_eq_true_eq];refine⟨fT (λx hx=>?_) (oF _) (λz hz=>by cases hz),hl⟩;have h1:=hh x hx;have h2:=hc x hx;have h3:=bT hx;simp only[okI,decide_eq_true_eq];omega
def allT(n:Nat):List Time:=(aax n).flatMap λa:Nat=>(aax 8).map λb:Nat=>(⟨(a:Int),(b:Int)⟩ : Time)
def Dg(y:Option Time)(x:Time):Bool:=!xa x||match y with
 |none=>false
 |some y=>decide (x.A<=y.A)||decide (y.B<=x.B)
def De(f:List Time):Bool:=Kb Dg none f
theorem IF:∀ {f:List Time}{y:Option Time},Kb Dg y f=true->∀s∈f,xa s=true
 |[],_,_,s,hs=>by cases hs
 |x::r,y,h,s,hs=>by
  simp only[Kb,Dg,aaq,abx,Bool.or_eq_false_iff]at h;rcases aaL.1 hs with rfl|hs
  .simpa using h.1.1
  .exact IF h.2 s hs
theorem JF(f:List Time)(hl:f.length<1000000000):mm f/\lm f=De f:=by
 have k2:ua (λs:Int=>iq f s) 0 (if Kb Dg none f=true then .x () else .r false):=by
  refine la.scan f _ (λl x r hx=>?_) ?_
  .obtain⟨hlen,hm,hi,hk⟩:=La (t:=.time) hx;rcases Pt hx hl with⟨h1,h2⟩|⟨l',y,h1,h2,h3,h4,h5⟩
   .have hg:cmp .gtr (l.length:Int) 0=false:=by rw[h1];rfl
    simp only[iq,aal,aam,ga,hk,hm,Ea (l:=l) (by omega),hg,h2,Dg,Ni];refine⟨by simp[hi,Lh],?_⟩;cases xa x<;>rfl
   .have hy:rd .time f (l'.length:Int)=y:=by rw[h4];exact Ki
    have hj:inb (l'.length:Int) (ba .time f):=by rw[h4];exact Li (t:=.time)
    simp only[iq,aal,aam,ga,hk,hm,Ea (l:=l) (by omega),h2,h3,hy,h5,Dg,Ni,vg,de];refine⟨by simp[hi,hj,Lh],?_⟩;cases xa x<;>cases decide (x.A<=y.A)<;>cases decide (y.B<=x.B)<;>rfl
  .have hh:cmp .lss (f.length:Int) (ba .time f)=false:=Ha (t:=.time);simp only[iq,aal,aam,ga,hh];exact⟨by simp,rfl⟩
 have a2:(jy f).o=_:=k2.v;have b2:(jy f).ob:=k2.t;simp only[mm,lm,WJ,VJ,aV,pcT,aal,aam,De,a2];refine⟨by simp[b2],?_⟩;cases Kb Dg none f<;>rfl
theorem dT(f:List Time)(hl:f.length<1000000000):gp f/\fp f=De f:=by
 have k2:ua (λs:Int=>ep f (ba .time f) s) 0 (if Kb Dg none f=true then .x () else .r false):=by
  refine la.scan f _ (λl x r hx=>?_) ?_
  .obtain⟨hlen,hm,hi,hk⟩:=La (t:=.time) hx;rcases Pt hx hl with⟨h1,h2⟩|⟨l',y,h1,h2,h3,h4,h5⟩
   .have hg:cmp .gtr (l.length:Int) 0=false:=by rw[h1];rfl
    simp only[ep,aal,aam,ga,hk,hm,Ea (l:=l) (by omega),hg,h2,Dg,Bo];refine⟨by simp[hi,Nt],?_⟩;cases xa x<;>rfl
   .have hy:rd .time f (l'.length:Int)=y:=by rw[h4];exact Ki
    have hj:inb (l'.length:Int) (ba .time f):=by rw[h4];exact Li (t:=.time)
    simp only[ep,aal,aam,ga,hk,hm,Ea (l:=l) (by omega),h2,h3,hy,h5,Dg,Bo,vg,de];refine⟨by simp[hi,hj,Nt],?_⟩;cases xa x<;>cases decide (x.A<=y.A)<;>cases decide (y.B<=x.B)<;>rfl
  .have hh:cmp .lss (f.length:Int) (ba .time f)=false:=Ha (t:=.time);simp only[ep,aal,aam,ga,hh];exact⟨by simp,rfl⟩
 have a2:(fv f (ba .time f)).o=_:=k2.v;have b2:(fv f (ba .time f)).ob:=k2.t;simp only[gp,fp,cH,bH,ST,pcT,aal,aam,De,a2];refine⟨by simp[b2],?_⟩;cases Kb Dg none f<;>rfl
def fk(s t:Time):Bool:=xa s&&xa t&&vd s t
theorem LF{α:Type}(c:α->Bool):∀(xs:List α) (y:Option α),Kb (λ_ x=>c x) y xs=!xs.any c
 |[],_=>rfl
 |x::r,y=>by simp only[Kb,List.any_cons,LF c r (some x),Bool.not_or]
theorem eT(f:List Time)(t:Time)(hl:f.length<1000000000):Gk f t/\Fk f t=(De f&&f.any (fk · t)):=by
 obtain⟨p1,p2⟩:=JF f hl
 have k2:ua (λs:Int=>iA f t s) 0 (if Kb (λ_ x=>fk x t) none f=true then .x () else .r true):=by
  refine la.scan f _ (λl x r hx=>?_) ?_
  .obtain⟨hlen,hk,hi,hj⟩:=La (t:=.time) hx;have hv:wm x t=fk x t:=tF x t;simp only[iA,aal,aam,ga,hj,hk,Ea (l:=l) (by omega),hv];refine⟨by simp[hi,vo],?_⟩;cases fk x t<;>rfl
  .have hh:cmp .lss (f.length:Int) (ba .time f)=false:=Ha (t:=.time);simp only[iA,aal,aam,ga,hh];exact⟨by simp,rfl⟩
 rw[LF]at k2;have a2:(jA f t).o=_:=k2.v;have b2:(jA f t).ob:=k2.t;simp only[Gk,Fk,gM,fM,bW,pcT,aal,aam,ga,a2,p2];refine⟨by simp[b2,p1],?_⟩;cases De f<;>cases f.any (fk · t)<;>rfl
def Ma(f:List Time)(t:Time):Bool:=f.any (vd · t)
theorem br(f:List Time)(t:Time)(hl:f.length<1000000000):Wi f t/\Vi f t=Ma f t:=by
 have k2:ua (λs:Int=>Iw t f (ba .time f) s) 0 (if Kb (λ_ x=>vd x t) none f=true then .x () else .r true):=by
  refine la.scan f _ (λl x r hx=>?_) ?_
  .obtain⟨hlen,hk,hi,hj⟩:=La (t:=.time) hx;simp only[Iw,aal,aam,ga,hj,hk,Ea (l:=l) (by omega),dS];refine⟨by simp[hi,sF],?_⟩;cases vd x t<;>rfl
  .have hh:cmp .lss (f.length:Int) (ba .time f)=false:=Ha (t:=.time);simp only[Iw,aal,aam,ga,hh];exact⟨by simp,rfl⟩
 rw[LF]at k2;have a2:(Jw t f (ba .time f)).o=_:=k2.v;have b2:(Jw t f (ba .time f)).ob:=k2.t;simp only[Wi,Vi,GI,FI,AU,pcT,aal,aam,a2];refine⟨by simp[b2],?_⟩;show ocR _=f.any (vd · t);cases f.any (vd · t)<;>rfl
theorem rN{f:List Time}(hf:De f=true){t:Time}(ht:xa t=true)(hl:f.length<1000000000):Gk f t/\Fk f t=Ma f t:=by
 obtain⟨c1,c2⟩:=eT f t hl;refine⟨c1,?_⟩;rw[c2,hf,abl];have hm:=IF hf;unfold Ma;rw[aat,abC,abC];constructor
 .rintro⟨s,hs,h⟩;simp only[fk,aaq]at h;exact⟨s,hs,h.2⟩
 .rintro⟨s,hs,h⟩;refine⟨s,hs,?_⟩;simp only[fk,aaq];exact⟨⟨hm s hs,ht⟩,h⟩
def Ia(f:List Time)(a:List Row):List Row:=a.filter λx=>!Ma f x.At
theorem Hk(f:List Time)(a:List Row):(Ia f a).length<=a.length:=aav _ _
theorem iX(a:List Row)(f:List Time)(ha:a.length<1000000000)(hf:f.length<1000000000):Ip a f/\Hp a f=Ia f a:=by
 have k2:ua (λs:LR×Int=>Lw f a (ba .row a) s.1 s.2) ([],0) (.x (Ia f a)):=by
  refine la.fold a (λi b=>(b,(i:Int))) (λl=>Ia f l) rfl (λl x r hx=>?_) ?_
  .obtain⟨hlen,hm,hi,hk⟩:=La (t:=.row) hx;obtain⟨b1,b2⟩:=br f x.At hf;have hj:∀w,lim (ba .row (Ia f l)) (ba .row [w]):=λw=>Jb (t:=.row) (show(Ia f l).length<1099511627776 by have:=Hk f l;omega)
   have hl:Ia f (l++[x])=if Ma f x.At=true then Ia f l else Ia f l++[x]:=by
    unfold Ia;rw[aaR];cases h:Ma f x.At<;>simp[h]
   have e:(Kw f (Ia f l) a (ba .row a) l.length).ob/\(Kw f (Ia f l) a (ba .row a) l.length).val=.n (Ia f (l++[x])):=by
    simp only[Kw,aal,aam,ga,hm,b2];refine⟨by simp[hi,b1,hj],?_⟩;rw[hl];cases Ma f x.At<;>rfl
   obtain⟨e1,e2⟩:=e;simp only[Lw,II,pcT,aal,aam,hk,e2,Ea (l:=l) (by omega)];exact⟨by simp[e1],rfl⟩
  .have hh:cmp .lss (a.length:Int) (ba .row a)=false:=Ha (t:=.row);simp only[Lw,aal,aam,hh];exact⟨by simp,rfl⟩
 have a2:(Mw f a (ba .row a)).o=_:=k2.v;have b2:(Mw f a (ba .row a)).ob:=k2.t;simp only[Ip,Hp,MI,JI,BU,pcT,aal,aam,a2];exact⟨by simp[b2],rfl⟩
theorem sN{a:List Row}{f:List Time}(hf:De f=true)(h:∀x∈a,xa x.At=true)(ha:a.length<1000000000)(hl:f.length<1000000000):zm a f/\ym a f=Ia f a:=by
 have k2:ua (λs:LR×Int=>lA a f s.1 s.2) ([],0) (.x (Ia f a)):=by
  refine la.fold a (λi b=>(b,(i:Int))) (λl=>Ia f l) rfl (λl x r hx=>?_) ?_
  .obtain⟨hlen,hn,hi,hk⟩:=La (t:=.row) hx;obtain⟨b1,b2⟩:=rN hf (h x (by rw[hx];simp)) hl;have hj:∀w,lim (ba .row (Ia f l)) (ba .row [w]):=λw=>Jb (t:=.row) (show(Ia f l).length<1099511627776 by have:=Hk f l;omega)
   have hm:Ia f (l++[x])=if Ma f x.At=true then Ia f l else Ia f l++[x]:=by
    unfold Ia;rw[aaR];cases h:Ma f x.At<;>simp[h]
   have e:(kA a f (Ia f l) l.length).ob/\(kA a f (Ia f l) l.length).val=.n (Ia f (l++[x])):=by
    simp only[kA,aal,aam,ga,hn,b2];refine⟨by simp[hi,b1,hj],?_⟩;rw[hm];cases Ma f x.At<;>rfl
   obtain⟨e1,e2⟩:=e;simp only[lA,iM,pcT,aal,aam,hk,e2,Ea (l:=l) (by omega)];exact⟨by simp[e1],rfl⟩
  .have hh:cmp .lss (a.length:Int) (ba .row a)=false:=Ha (t:=.row);simp only[lA,aal,aam,hh];exact⟨by simp,rfl⟩
 have a2:(mA a f).o=_:=k2.v;have b2:(mA a f).ob:=k2.t;simp only[zm,ym,kM,jM,cW,pcT,aal,aam,a2];exact⟨by simp[b2],rfl⟩
theorem oB(x y:Row):(cmp .eql x.Key y.Key&&(cmp .eql x.Val y.Val&&(cmp .eql x.At.A y.At.A&&(cmp .eql x.At.B y.At.B&&(cmp .eql x.Diff y.Diff&&true)))))=true↔x=y:=by
 rw[mb,mb,mb,mb,mb];simp only[aaq,decide_eq_true_eq,and_true];constructor
 .rintro⟨h1,h2,h3,h4,h5⟩;exact H7 h1 h2 h3 h4 h5
 .rintro rfl;exact⟨rfl,rfl,rfl,rfl,rfl⟩
theorem la.two{ρ α:Type}[Inhabited ρ]{step:Int->Lp Int ρ}{ob:Int->Prop}{a b:List α}(hlen:a.length=b.length){no yes:ρ}
  (hgo:∀(i:Nat) (x y:α),a[i]? = some x->b[i]? = some y->ob (i:Int)/\((x=y/\step (i:Int)=.go (((i+1:Nat)):Int))\/(x≠y/\step (i:Int)=.out no))) (hend:ob (a.length:Int)/\step (a.length:Int)=.out yes) :
  ∃q,la step ob 0 q/\((q=yes/\a=b)\/(q=no/\a≠b)):=by
 have hz:(a.zip b).length=a.length:=by rw[List.length_zip];omega
 refine la.list (a.zip b) (λi (_:Unit)=>(i:Int)) (λl _=>a.take l.length=b.take l.length) (b0:=()) rfl rfl ?_ ?_
 .rintro l ⟨u,v⟩ r ⟨⟩ hx hI;have hg:(a.zip b)[l.length]? = some (u,v):=by rw[hx];simp
  rw[List.getElem?_zip_eq_some]at hg;obtain⟨h1,h2⟩:=hgo l.length u v hg.1 hg.2;refine⟨h1,?_⟩;rcases h2 with⟨rfl,h2⟩|⟨hh,h2⟩
  .exact .inl ⟨(),h2,by rw[aao,aaz,aby,aby,hI,hg.1,hg.2]⟩
  .refine .inr ⟨no,h2,.inr ⟨rfl,λhab=>hh ?_⟩⟩;have:=hg.1;rw[hab,hg.2]at this;exact(acb this).symm
 .rintro⟨⟩ hI;rw[hz,abt,hlen,abt]at hI;rw[hz];exact⟨hend.1,yes,hend.2,.inl ⟨rfl,hI⟩⟩
theorem ej{t:Ty}{a:List t.T}{i:Nat}{x:t.T}(h:a[i]? = some x):rd t a (i:Int)=x/\inb (i:Int) (ba t a):=by
 have hh:=(abu.1 h).1;refine⟨?_,by unfold inb ba;omega⟩;unfold rd;rw[aaG,aan,h];rfl
theorem cah(a b:List Row)(hl:a.length<1000000000):em a b/\(dm a b=true↔a=b):=by
 by_cases hlen:a.length=b.length
 .obtain⟨q,h1,h2⟩:=la.two (step:=λs:Int=>na (Jp a b (ba .row a) s).val) (ob:=λs=>(Jp a b (ba .row a) s).ob) hlen (no:=.r false) (yes:=.x ())
   (λi x y hx hy=>by
     obtain⟨u1,u2⟩:=ej (t:=.row) hx;obtain⟨v1,v2⟩:=ej (t:=.row) hy;have hj:=(abu.1 hx).1;have hi:cmp .lss (i:Int) (ba .row a)=true:=by rw[Ra];unfold ba;simp;omega
     have hs:ar .add .i64 (i:Int) 1=((i+1:Nat):Int):=by rw[ub (by omega)];omega
     simp only[Jp,aal,aam,ga,hi,u1,v1,hs];refine⟨by simp[u2,v2],?_⟩;by_cases he:x=y
     .rw[(oB x y).2 he];exact .inl ⟨he,rfl⟩
     .rw[show(cmp .eql x.Key y.Key&&(cmp .eql x.Val y.Val&&(cmp .eql x.At.A y.At.A&&(cmp .eql x.At.B y.At.B&&(cmp .eql x.Diff y.Diff&&true)))))=false by rw[<-abN,oB];exact he];exact .inr ⟨he,rfl⟩)
   (by
     have hh:cmp .lss (a.length:Int) (ba .row a)=false:=Ha (t:=.row);simp only[Jp,aal,aam,ga,hh];exact⟨by simp,rfl⟩)
  have b2:(Kp a b (ba .row a)).ob:=h1.t
  have hn:cmp .neq (ba .row a) (ba .row b)=false:=by
   show cmp .neq (a.length:Int) (b.length:Int)=false;rw[jf,hlen];simp
  rcases h2 with⟨rfl,h2⟩|⟨rfl,h2⟩
  .have a2:(Kp a b (ba .row a)).o=.x ():=h1.v;simp only[em,dm,Np,QI,hn,a2,ocR,Mp,pcT,aal,aam];exact⟨by simp[b2],λ_=>h2,λ_=>trivial⟩
  .have a2:(Kp a b (ba .row a)).o=.r false:=h1.v;simp only[em,dm,Np,QI,hn,a2,ocR,Mp,pcT,aal,aam];exact⟨by simp[b2],(λh=>by cases h),λh=>absurd h h2⟩
 .have hn:cmp .neq (ba .row a) (ba .row b)=true:=by
   show cmp .neq (a.length:Int) (b.length:Int)=true;rw[jf];simp;omega
  simp only[em,dm,Np,hn,ocR,Mp,pcT,aal,aam];exact⟨by simp,(λh=>by cases h),λh=>absurd (by rw[h]) hlen⟩
theorem dah(a b:List Row)(hl:a.length<1000000000):Bm a b/\(Am a b=true↔a=b):=by
 by_cases hlen:a.length=b.length
 .obtain⟨q,h1,h2⟩:=la.two (step:=λs:Int=>na (Gq a b s).val) (ob:=λs=>(Gq a b s).ob) hlen (no:=.r false) (yes:=.x ())
   (λi x y hx hy=>by
     obtain⟨u1,u2⟩:=ej (t:=.row) hx;obtain⟨v1,v2⟩:=ej (t:=.row) hy;have hj:=(abu.1 hx).1;have hi:cmp .lss (i:Int) (ba .row a)=true:=by rw[Ra];unfold ba;simp;omega
     have hs:ar .add .i64 (i:Int) 1=((i+1:Nat):Int):=by rw[ub (by omega)];omega
     simp only[Gq,aal,aam,ga,hi,u1,v1,hs];refine⟨by simp[u2,v2],?_⟩;by_cases he:x=y
     .rw[(oB x y).2 he];exact .inl ⟨he,rfl⟩
     .rw[show(cmp .eql x.Key y.Key&&(cmp .eql x.Val y.Val&&(cmp .eql x.At.A y.At.A&&(cmp .eql x.At.B y.At.B&&(cmp .eql x.Diff y.Diff&&true)))))=false by rw[<-abN,oB];exact he];exact .inr ⟨he,rfl⟩)
   (by
     have hh:cmp .lss (a.length:Int) (ba .row a)=false:=Ha (t:=.row);simp only[Gq,aal,aam,ga,hh];exact⟨by simp,rfl⟩)
  have b2:(Hq a b).ob:=h1.t
  have hn:cmp .neq (ba .row a) (ba .row b)=false:=by
   show cmp .neq (a.length:Int) (b.length:Int)=false;rw[jf,hlen];simp
  rcases h2 with⟨rfl,h2⟩|⟨rfl,h2⟩
  .have a2:(Hq a b).o=.x ():=h1.v;simp only[Bm,Am,Jq,lM,hn,a2,ocR,Iq,pcT,aal,aam];exact⟨by simp[b2],λ_=>h2,λ_=>trivial⟩
  .have a2:(Hq a b).o=.r false:=h1.v;simp only[Bm,Am,Jq,lM,hn,a2,ocR,Iq,pcT,aal,aam];exact⟨by simp[b2],(λh=>by cases h),λh=>absurd h h2⟩
 .have hn:cmp .neq (ba .row a) (ba .row b)=true:=by
   show cmp .neq (a.length:Int) (b.length:Int)=true;rw[jf];simp;omega
  simp only[Bm,Am,Jq,hn,ocR,Iq,pcT,aal,aam];exact⟨by simp,(λh=>by cases h),λh=>absurd (by rw[h]) hlen⟩
structure Sm(s:Sess):Prop where
 ins:s.Ins.length<=1000
 each:∀a∈s.Ins,a.length<=1000
 front:s.Front.length<=1000
 told:s.Told.length<=1000
structure OkS(s:Sess)(x:List Row):Prop where
 front:De s.Front=true
 flow:Kf s.Plan s.Ins=some x
 told:s.Told=Ia s.Front x
theorem Td(s:Sess):abK (abF s.Plan.Kind s.Plan.Num s.Plan.Kids) s.Ins s.Front s.Told=s:=by
 obtain⟨⟨a,b,c⟩,d,e,f⟩:=s;rfl
theorem eah{s:Sess}(hs:Sm s):Uh s/\(Th s=true↔∃x,OkS s x):=by
 have h1:=hs.ins;have h2:=hs.each;have h3:=hs.front;have h4:=hs.told;obtain⟨f1,f2⟩:=dT s.Front (by omega);obtain⟨g1,g2⟩:=ZS s.Plan s.Ins (by omega) (λa ha=>by have:=h2 a ha;omega);simp only[Uh,Th,SI,aal,aam,ga,Ob,f2,g2];cases hfo:De s.Front with
 |false=>exact⟨by simp[f1],(λh=>by cases h),λ⟨x,h⟩=>by have:=h.front;rw[hfo]at this;cases this⟩
 |true=>
  cases hF:Kf s.Plan s.Ins with
  |none=>exact⟨by simp[f1,g1,Nc],(λh=>by cases h),λ⟨x,h⟩=>by have:=h.flow;rw[hF]at this;cases this⟩
  |some x=>
   have hx:=(Oi hF).short;obtain⟨c1,c2⟩:=iX x s.Front (by omega) (by omega);obtain⟨r1,r2⟩:=cah s.Told (Ia s.Front x) (by omega);simp only[Nc,c2];refine⟨by simp[f1,g1,c1,r1],λh=>⟨x,hfo,hF,r2.1 h⟩,λ⟨y,h⟩=>?_⟩;have hy:=h.flow;rw[hF]at hy;cases hy;exact r2.2 h.told
theorem fah{s:Sess}(hs:Sm s):ci s/\(ai s=true↔∃x,OkS s x):=by
 have h1:=hs.ins;have h2:=hs.each;have h3:=hs.front;have h4:=hs.told;obtain⟨f1,f2⟩:=JF s.Front (by omega);obtain⟨g1,g2⟩:=aT s.Plan s.Ins (by omega) (λa ha=>by have:=h2 a ha;omega);simp only[ci,ai,nM,aal,aam,ga,Ob,f2,g2];cases hfo:De s.Front with
 |false=>exact⟨by simp[f1],(λh=>by cases h),λ⟨x,h⟩=>by have:=h.front;rw[hfo]at this;cases this⟩
 |true=>
  cases hF:Kf s.Plan s.Ins with
  |none=>exact⟨by simp[f1,g1,Nc],(λh=>by cases h),λ⟨x,h⟩=>by have:=h.flow;rw[hF]at this;cases this⟩
  |some x=>
   have hi:=Oi hF;have hx:=hi.short;obtain⟨c1,c2⟩:=sN hfo (λz hz=>Ag ((gb (Pd hi.batch)).2 z hz)) (by omega) (by omega);have hh:=Hk s.Front x;obtain⟨r1,r2⟩:=dah (Ia s.Front x) s.Told (by omega);simp only[Nc,c2];refine⟨by simp[f1,g1,c1,r1],λh=>⟨x,hfo,hF,(r2.1 h).symm⟩,λ⟨y,h⟩=>?_⟩;have hy:=h.flow;rw[hF]at hy;cases hy;exact r2.2 h.told.symm
open Classical in
noncomputable def Xb(s:Sess):Bool:=decide (∃x,OkS s x)
theorem pB{s:Sess}(hs:Sm s):Uh s/\Th s=Xb s:=by
 obtain⟨h1,h2⟩:=eah hs;refine⟨h1,?_⟩;rw[aat,h2];unfold Xb;simp
theorem qB{s:Sess}(hs:Sm s):ci s/\ai s=Xb s:=by
 obtain⟨h1,h2⟩:=fah hs;refine⟨h1,?_⟩;rw[aat,h2];unfold Xb;simp
theorem Ik{s:Sess}:Xb s=true↔∃x,OkS s x:=by unfold Xb;simp
theorem gah:∀(d n:Nat),d<=n->∀p:Plan,okM d p=true->(me n).2 p/\(me n).1 p=p:=by
 intro d
 induction d with
 |zero=>intro n _ p h;cases h
 |succ d ih=>
  intro n hn p hp;obtain⟨m,rfl⟩ : ∃m,n=m+1:=⟨n - 1,by omega⟩;obtain⟨hlen,hk⟩:=lh hp
  have k:ua (λs:LP×Int=>Gu (me m).1 (me m).2 p.Kind p.Num p.Kids (ba .plan p.Kids) s.1 s.2) ([],0) (.x p.Kids):=by
   refine la.fold p.Kids (λi b=>(b,(i:Int))) (λl=>l) rfl (λl x r hx=>?_) ?_
   .obtain⟨hlen2,hm,hi,hl⟩:=La (t:=.plan) hx;obtain⟨i1,i2⟩:=ih m (by omega) x (hk x (by rw[hx];simp));have hj:∀y,lim (ba .plan l) (ba .plan [y]):=λy=>Jb (t:=.plan) (show l.length<1099511627776 by omega);simp only[Gu,aal,aam,ga,hl,hm,Ob,i2,Ea (l:=l) (by omega)];exact⟨by simp[hi,i1,hj],rfl⟩
   .have hh:cmp .lss (p.Kids.length:Int) (ba .plan p.Kids)=false:=Ha (t:=.plan);simp only[Gu,aal,aam,ga,hh];exact⟨by simp,rfl⟩
  have a2:(Hu (me m).1 (me m).2 p.Kind p.Num p.Kids (ba .plan p.Kids)).o=.x p.Kids:=k.v;have b2:(Hu (me m).1 (me m).2 p.Kind p.Num p.Kids (ba .plan p.Kids)).ob:=k.t;simp only[me,So,BG,DT,pcT,aal,aam,a2,ocR,Ob];exact⟨by simp[b2],trivial⟩
theorem hah:∀(d n:Nat),d<=n->∀p:Plan,okM d p=true->(qe n).2 p/\(qe n).1 p=p:=by
 intro d
 induction d with
 |zero=>intro n _ p h;cases h
 |succ d ih=>
  intro n hn p hp;obtain⟨m,rfl⟩ : ∃m,n=m+1:=⟨n - 1,by omega⟩;obtain⟨hlen,hk⟩:=lh hp
  have k:ua (λs:LP×Int=>Kx (qe m).1 (qe m).2 p.Kind p.Num p.Kids s.1 s.2) ([],0) (.x p.Kids):=by
   refine la.fold p.Kids (λi b=>(b,(i:Int))) (λl=>l) rfl (λl x r hx=>?_) ?_
   .obtain⟨hlen2,hm,hi,hl⟩:=La (t:=.plan) hx;obtain⟨i1,i2⟩:=ih m (by omega) x (hk x (by rw[hx];simp));have hj:∀y,lim (ba .plan l) (ba .plan [y]):=λy=>Jb (t:=.plan) (show l.length<1099511627776 by omega);simp only[Kx,aal,aam,ga,hl,hm,Ob,i2,Ea (l:=l) (by omega)];exact⟨by simp[hi,i1,hj],rfl⟩
   .have hh:cmp .lss (p.Kids.length:Int) (ba .plan p.Kids)=false:=Ha (t:=.plan);simp only[Kx,aal,aam,ga,hh];exact⟨by simp,rfl⟩
  have a2:(Lx (qe m).1 (qe m).2 p.Kind p.Num p.Kids).o=.x p.Kids:=k.v;have b2:(Lx (qe m).1 (qe m).2 p.Kind p.Num p.Kids).ob:=k.t;simp only[qe,Yp,BJ,QU,pcT,aal,aam,a2,ocR,Ob];exact⟨by simp[b2],trivial⟩
theorem jX{p:Plan}(h:okM 4 p=true):To p/\Ee p=p:=gah 4 Ya (by decide) p h
theorem kX{p:Plan}(h:okM 4 p=true):Mx p/\Oe p=p:=hah 4 Ya (by decide) p h
theorem lX{f:List Time}(hl:f.length<1000000000):fm f/\Vh f=f:=by
 simp only[fm,Vh,VI,aal,aam,ga,ocR];refine⟨⟨⟨⟨rfl,by unfold ba;omega,by unfold ba;omega⟩,trivial⟩,trivial⟩,?_⟩;unfold ba;simp
theorem mX{s:Sess}(hs:Sm s)(hp:okM 4 s.Plan=true):th s/\Sd s=s:=by
 have h1:=hs.ins;have h2:=hs.each;have h3:=hs.front;have h4:=hs.told;obtain⟨c1,c2⟩:=kX hp;have hn:∀ {t:Ty}{a:List t.T},a.length<=1000->lim (ba t []) (ba t a):=λh=>by unfold lim ba;simp;omega
 have k:ua (λx:List LR×Int=>Oq s.Plan.Kind s.Plan.Num s.Plan.Kids s.Ins s.Front s.Told s.Plan.Kind s.Plan.Num s.Plan.Kids ([]++s.Front) ([]++s.Told) x.1 x.2) ([],0) (.x s.Ins):=by
  refine la.fold s.Ins (λi b=>(b,(i:Int))) (λl=>l) rfl (λl x r hx=>?_) ?_
  .obtain⟨hlen,hm,hi,hl⟩:=La (t:=.lrow) hx;have hk:∀w,lim (ba .lrow l) (ba .lrow [w]):=λw=>Jb (t:=.lrow) (show l.length<1099511627776 by omega);have hj:lim (ba .row []) (ba .row x):=hn (t:=.row) (h2 x (by rw[hx];simp));simp only[Oq,Nq,oA,pcT,aal,aam,ga,hl,hm,Ea (l:=l) (by omega)];exact⟨by simp only[aaN];simp[hi,hj,hk],rfl⟩
  .have hh:cmp .lss (s.Ins.length:Int) (ba .lrow s.Ins)=false:=Ha (t:=.lrow);simp only[Oq,aal,aam,hh];exact⟨by simp,rfl⟩
 have a2:(Pq s.Plan.Kind s.Plan.Num s.Plan.Kids s.Ins s.Front s.Told s.Plan.Kind s.Plan.Num s.Plan.Kids ([]++s.Front) ([]++s.Told)).o=.x s.Ins:=k.v;have b2:(Pq s.Plan.Kind s.Plan.Num s.Plan.Kids s.Ins s.Front s.Told s.Plan.Kind s.Plan.Num s.Plan.Kids ([]++s.Front) ([]++s.Told)).ob:=k.t;simp only[th,Sd,Rq,Mq,nA,Qq,pA,pcT,aal,aam,ga,Ob,c2,a2,ocR];have l1:=hn (t:=.time) h3;have l2:=hn (t:=.row) h4;refine⟨⟨⟨⟨c1,l1,l2,trivial⟩,trivial⟩,λq hq=>?_,by simp⟩,?_⟩
 .cases hq;exact⟨⟨b2,by simp⟩,by simp⟩
 .simp only[aaN]
theorem nX{s:Sess}(hs:Sm s)(hp:okM 4 s.Plan=true):ph s/\Rd s=s:=by
 have h1:=hs.ins;have h2:=hs.each;have h3:=hs.front;have h4:=hs.told;obtain⟨c1,c2⟩:=jX hp;obtain⟨t1,t2⟩:=lX (f:=s.Front) (by omega);obtain⟨r1,r2⟩:=yF (a:=s.Told) (by omega)
 have k:ua (λx:List LR×Int=>Qp s.Plan.Kind s.Plan.Num s.Plan.Kids s.Front s.Told s.Ins (ba .lrow s.Ins) x.1 x.2) ([],0) (.x s.Ins):=by
  refine la.fold s.Ins (λi b=>(b,(i:Int))) (λl=>l) rfl (λl x r hx=>?_) ?_
  .obtain⟨hlen,hl,hi,hk⟩:=La (t:=.lrow) hx;obtain⟨x1,x2⟩:=yF (a:=x) (by have:=h2 x (by rw[hx];simp);omega);have hj:∀w,lim (ba .lrow l) (ba .lrow [w]):=λw=>Jb (t:=.lrow) (show l.length<1099511627776 by omega);simp only[Qp,aal,aam,ga,hk,hl,x2,Ea (l:=l) (by omega)];exact⟨by simp[hi,x1,hj],rfl⟩
  .have hh:cmp .lss (s.Ins.length:Int) (ba .lrow s.Ins)=false:=Ha (t:=.lrow);simp only[Qp,aal,aam,hh];exact⟨by simp,rfl⟩
 have a2:(Rp s.Plan.Kind s.Plan.Num s.Plan.Kids s.Front s.Told s.Ins (ba .lrow s.Ins)).o=.x s.Ins:=k.v;have b2:(Rp s.Plan.Kind s.Plan.Num s.Plan.Kids s.Front s.Told s.Ins (ba .lrow s.Ins)).ob:=k.t;simp only[ph,Rd,Tp,Sp,Pw,pcT,aal,aam,ga,Ob,c2,t2,r2,a2,ocR];exact⟨by simp[c1,t1,r1,b2],trivial⟩
def fj:Sess:=⟨⟨0,0,[]⟩,[],[],[]⟩
def cg:Option Sess->Sess×Bool×Unit
 |some s=>(s,true,())
 |none=>(fj,false,())
def setIn(s:Sess)(i:Int)(both:List Row):Sess:=⟨s.Plan,s.Ins.set i.toNat both,s.Front,s.Told⟩
noncomputable def inS(s:Sess)(i:Int)(rows:List Row):Option Sess:=cond (Xb s&&(decide (0<=i/\i<2)&&(Oa rows&&rows.all λx=>Ma s.Front x.At)))
  (cond (Oa (Pa (rd .lrow s.Ins i++rows))&&Xb (setIn s i (Pa (rd .lrow s.Ins i++rows)))) (some (setIn s i (Pa (rd .lrow s.Ins i++rows)))) none) none
structure OkI(s:Sess)(i:Int)(rows:List Row):Prop where
 plan:okM 4 s.Plan=true
 len:s.Ins.length=2
 each:∀a∈s.Ins,Oa a=true
 front:De s.Front=true
 at':rd .lrow s.Ins i∈s.Ins
 inb:inb i (ba .lrow s.Ins)
theorem oX{s:Sess}{i:Int}{rows:List Row}(h:Xb s=true)(hi:0<=i/\i<2):OkI s i rows:=by
 obtain⟨x,hx⟩:=Ik.1 h;have hf:=Oi hx.flow;have hh:i.toNat<s.Ins.length:=by rw[hf.len];omega
 refine⟨hf.ok,hf.len,hf.every,hx.front,?_,by unfold abS ba;rw[hf.len];omega⟩;unfold rd;rw[aan,aaD hh];exact abj hh
theorem pX{a b:List Row}(ha:Nb a=true)(hb:Nb b=true):(∀x∈a++b,InR x.Diff)/\(Pa (a++b)).length<=800:=by
 obtain⟨l1,m1⟩:=gb ha;obtain⟨l2,m2⟩:=gb hb;have hi:∀x∈a++b,InR x.Diff:=λx hx=>Jf ((aas.1 hx).elim (m1 x) (m2 x));have:=El hi;rw[aao]at this;exact⟨hi,by omega⟩
theorem Sm.setIn{s:Sess}(hs:Sm s)(i:Int){b:List Row}(hb:b.length<=1000):Sm (setIn s i b):=by
 refine⟨by unfold Go.Proofs.YteogppapbognjaaGreatDoor.setIn;rw[List.length_set];exact hs.ins,λa ha=>?_,hs.front,hs.told⟩;rcases List.mem_or_eq_of_mem_set ha with h|rfl
 .exact hs.each a h
 .exact hb
theorem iah{s:Sess}(hs:Sm s)(i:Int){rows:List Row}(hr:rows.length<=1000):Tq s i rows/\Sq s i rows=cg (inS s i rows):=by
 have h1:=hs.ins;have h2:=hs.each;have h3:=hs.front;have h4:=hs.told;obtain⟨o1,o2⟩:=qB hs;obtain⟨b1,b2⟩:=Co rows (by omega);have li:je i 0 1=decide (0<=i/\i<2):=by rw[Hl,aat];simp;omega
 have lp:=Gl i 0 1;simp only[Tq,Sq,sM,rA,qM,sA,rM,pcT,aal,aam,ga,Td,o2,b2,li,inS];cases hok:Xb s with
 |false=>exact⟨by simp[o1],rfl⟩
 |true=>
  by_cases hi:0<=i/\i<2
  .have hj:decide (0<=i/\i<2)=true:=by simp[hi]
   have k:=oX (rows:=rows) hok hi;cases hb:Oa rows with
   |false=>exact⟨by simp[o1,lp,b1,hi],by rw[hj];rfl⟩
   |true=>
    have hl:=Pd hb;obtain⟨l1,l2⟩:=sN k.front (λz hz=>Ag ((gb hl).2 z hz)) (by omega) (by omega);obtain⟨c1,c2⟩:=mX hs k.plan;have hk:=Pd (k.each _ k.at');obtain⟨bi,bl⟩:=pX hk hl;obtain⟨s1,s2⟩:=Mi (rd .lrow s.Ins i++rows) (by rw[aao];have:=(gb hk).1;omega) bi;obtain⟨v1,v2⟩:=Co (Pa (rd .lrow s.Ins i++rows)) (by omega);obtain⟨w1,w2⟩:=qB (hs.setIn i (b:=Pa (rd .lrow s.Ins i++rows)) (by omega));have hm:lim (ba .row []) (ba .row (rd .lrow s.Ins i)):=by unfold lim ba;have:=(gb hk).1;simp;omega
    have hn:lim (ba .row (rd .lrow s.Ins i)) (ba .row rows):=by unfold lim ba;have:=(gb hk).1;omega
    have ho:ci (abK (abF s.Plan.Kind s.Plan.Num s.Plan.Kids) (abL s.Ins (abi i) (Pa (rd .lrow s.Ins i++rows))) s.Front s.Told):=w1;have hp:ai (abK (abF s.Plan.Kind s.Plan.Num s.Plan.Kids) (abL s.Ins (abi i) (Pa (rd .lrow s.Ins i++rows))) s.Front s.Told)=Xb (setIn s i (Pa (rd .lrow s.Ins i++rows))):=w2
    have hh:cmp .gtr (ba .row (Ia s.Front rows)) 0=!(rows.all λx=>Ma s.Front x.At):=by
     rw[Lb,aat];simp only[decide_eq_true_eq,abx,<-abN,aaF];unfold ba Ia;constructor
     .intro h1 h2;rw[abz.2 (λx hx=>by simp[h2 x hx])]at h1;simp at h1
     .intro h1;cases he:rows.filter λx=>!Ma s.Front x.At with
      |nil=>
       refine absurd (λx hx=>?_) h1;have:=abz.1 he x hx;simpa using this
      |cons a r=>simp only[aap];omega
    simp only[l2,c2,s2,v2,hp,hh,hj,aaN];cases (rows.all λx=>Ma s.Front x.At) with
    |false=>exact⟨by simp[o1,lp,b1,l1],rfl⟩
    |true=>
     cases Oa (Pa (rd .lrow s.Ins i++rows)) with
     |false=>exact⟨by simp[o1,lp,b1,l1,c1,k.inb,hm,hn,s1,v1,s2,ho],rfl⟩
     |true=>
      cases hw:Xb (setIn s i (Pa (rd .lrow s.Ins i++rows))) with
      |false=>exact⟨by simp[o1,lp,b1,l1,c1,k.inb,hm,hn,s1,v1,s2,ho],by simp[ocR,cg,fj]⟩
      |true=>exact⟨by simp[o1,lp,b1,l1,c1,k.inb,hm,hn,s1,v1,s2,ho],by simp[ocR,cg,setIn,Ob]⟩
  .have hj:decide (0<=i/\i<2)=false:=by simpa using hi
   rw[hj];exact⟨by simp[o1,lp],rfl⟩
theorem jah{s:Sess}(hs:Sm s)(i:Int){rows:List Row}(hr:rows.length<=1000):Xw s i rows/\Ww s i rows=cg (inS s i rows):=by
 have h1:=hs.ins;have h2:=hs.each;have h3:=hs.front;have h4:=hs.told;obtain⟨o1,o2⟩:=pB hs;obtain⟨b1,b2⟩:=uF rows (by omega)
 have k2:ua (λj:Int=>Sw i rows s.Plan.Kind s.Plan.Num s.Plan.Kids s.Ins s.Front s.Told (ba .row rows) j) 0 (if Kb (λ_ x=>!Ma s.Front x.At) none rows=true then .x () else .r (fj,(false,()))):=by
  refine la.scan rows _ (λl x r hx=>?_) ?_
  .obtain⟨hlen,ho,hl,hm⟩:=La (t:=.row) hx;obtain⟨y1,y2⟩:=br s.Front x.At (by omega);simp only[Sw,aal,aam,ga,hm,ho,y2,Ea (l:=l) (by omega)];refine⟨by simp[hl,y1],?_⟩;cases Ma s.Front x.At<;>rfl
  .have hk:cmp .lss (rows.length:Int) (ba .row rows)=false:=Ha (t:=.row);simp only[Sw,aal,aam,ga,hk];exact⟨by simp,rfl⟩
 rw[Bg]at k2;have a2:(Tw i rows s.Plan.Kind s.Plan.Num s.Plan.Kids s.Ins s.Front s.Told (ba .row rows)).o=_:=k2.v;have d2:(Tw i rows s.Plan.Kind s.Plan.Num s.Plan.Kids s.Ins s.Front s.Told (ba .row rows)).ob:=k2.t
 have hh:cond (cond (!true) true (cmp .lss i 0)) true (cmp .geq i 2)=!decide (0<=i/\i<2):=by
  rw[Ra,vg,aat];by_cases hA:i<0<;>simp[hA]<;>omega
 simp only[Xw,Ww,bJ,YI,FU,Uw,ZI,Vw,aJ,pcT,aal,aam,ga,Td,o2,b2,a2,inS];cases hok:Xb s with
 |false=>exact⟨by simp[o1],rfl⟩
 |true=>
  rw[hh];by_cases hi:0<=i/\i<2
  .have hj:decide (0<=i/\i<2)=true:=by simp[hi]
   have k:=oX (rows:=rows) hok hi;rw[hj];cases hb:Oa rows with
   |false=>exact⟨by simp[o1,b1],rfl⟩
   |true=>
    have hp:=Pd hb;obtain⟨c1,c2⟩:=nX hs k.plan;have hn:=Pd (k.each _ k.at');obtain⟨bi,bl⟩:=pX hn hp;obtain⟨t1,t2⟩:=oS (a:=rd .lrow s.Ins i) (b:=rows) (by have:=(gb hn).1;omega) (by omega);obtain⟨v1,v2⟩:=Kl (xs:=rd .lrow s.Ins i++rows) (by rw[aao];have:=(gb hn).1;omega) bi;obtain⟨w1,w2⟩:=pB (hs.setIn i (b:=Pa (rd .lrow s.Ins i++rows)) (by omega));have hq:Uh (abK (abF s.Plan.Kind s.Plan.Num s.Plan.Kids) (abL s.Ins (abi i) (Pa (rd .lrow s.Ins i++rows))) s.Front s.Told):=w1;have ht:Th (abK (abF s.Plan.Kind s.Plan.Num s.Plan.Kids) (abL s.Ins (abi i) (Pa (rd .lrow s.Ins i++rows))) s.Front s.Told)=Xb (setIn s i (Pa (rd .lrow s.Ins i++rows))):=w2;simp only[c2,t2,v2];cases (rows.all λx=>Ma s.Front x.At) with
    |false=>exact⟨by simp[o1,b1,d2],rfl⟩
    |true=>
     cases hg:Oa (Pa (rd .lrow s.Ins i++rows)) with
     |false=>exact⟨by simp[o1,b1,d2,c1,k.inb,t1,v1],by simp[ocR,cg,fj]⟩
     |true=>
      simp only[if_true,ht];cases hw:Xb (setIn s i (Pa (rd .lrow s.Ins i++rows))) with
      |false=>exact⟨by simp[o1,b1,d2,c1,k.inb,t1,v1,hq],by simp[ocR,cg,fj]⟩
      |true=>exact⟨by simp[o1,b1,d2,c1,k.inb,t1,v1,hq],by simp[ocR,cg,setIn,Ob]⟩
  .have hj:decide (0<=i/\i<2)=false:=by simpa using hi
   rw[hj];exact⟨by simp[o1],rfl⟩
def uh(s:Sess):List Row:=(Kf s.Plan s.Ins).getD []
theorem OkS.all{s:Sess}{x:List Row}(h:OkS s x):uh s=x:=by unfold uh;rw[h.flow];rfl
noncomputable def vh(s:Sess)(f:List Time):Bool:=Xb s&&(De f&&f.all λt=>Ma s.Front t)
def qf(s:Sess)(f:List Time):List Row:=(Ia f (uh s)).filter λx=>Ma s.Front x.At
def onS(s:Sess)(f:List Time):Sess:=⟨s.Plan,s.Ins,f,Ia f (uh s)⟩
noncomputable def onV(s:Sess)(f:List Time):Sess×List Row×Bool×Unit:=cond (vh s f) (onS s f,qf s f,true,()) (fj,[],false,())
theorem kah{s t u:Time}(h:vd s t=true)(k:vd t u=true):vd s u=true:=by
 simp only[vd,aaq,decide_eq_true_eq]at h k⊢;omega
theorem lah{f g:List Time}(h:(f.all λt=>Ma g t)=true){t:Time}(k:Ma f t=true):Ma g t=true:=by
 unfold Ma at k⊢;rw[abC]at k⊢;obtain⟨u,hu,hk⟩:=k;have:=aaF.1 h u hu;unfold Ma at this;rw[abC]at this;obtain⟨v,hv,hw⟩:=this;exact⟨v,hv,kah hw hk⟩
theorem mah{x:List Row}(k:List Int):Eqm (sumT (chR (fb x)) k) (-sumT (chR x) k):=by
 induction x with
 |nil=>exact Eqm.refl _
 |cons y r ih=>
  show Eqm ((if rK (gh y)=k then(gh y).Diff else 0)+sumT (chR (fb r)) k) (-((if rK y=k then y.Diff else 0)+sumT (chR r) k));have e:rK (gh y)=rK y:=rfl;rw[e];by_cases hk:rK y=k
  .rw[if_pos hk,if_pos hk];exact(Eqm.add (QR (n:=y.Diff)) ih).trans (Eqm.of (by omega))
  .rw[if_neg hk,if_neg hk];exact(Eqm.add (Eqm.refl 0) ih).trans (Eqm.of (by omega))
theorem qX(p:Row->Bool)(k:List Int):∀x:List Row,sumT (chR (x.filter p)) k+sumT (chR (x.filter λz=>!p z)) k=sumT (chR x) k
 |[]=>rfl
 |y::r=>by
  have ih:=qX p k r;have e:∀l:List Row,sumT (chR (y::l)) k=(if rK y=k then y.Diff else 0)+sumT (chR l) k:=λl=>rfl;cases h:p y<;>simp only[List.filter_cons,h,if_true,aaO,abp,abX,if_false,e]<;>omega
theorem nah{x y:List Row}(h:Oa x=true)(k:y.Sublist x):Pa y=y:=by
 obtain⟨h1,h2,h3⟩:=Eo h;exact qS (abQ k h1) λz hz=>⟨h2 z (k.subset hz),Jf (h3 z (k.subset hz))⟩
theorem rX{x y:List Row}(h:Oa x=true)(k:y.Sublist x):Oa y=true:=by
 obtain⟨h1,h2,h3⟩:=Eo h;have hl:=(gb (Pd h)).1;have:=k.length_le;unfold Oa;rw[wF y none (abQ k h1) (λz hz=>h2 z (k.subset hz)) (λz hz=>by cases hz),abl];simp only[Nb,aaq,decide_eq_true_eq,aaF];exact⟨λz hz=>h3 z (k.subset hz),by omega⟩
theorem oah{f g:List Time}{x:List Row}(hb:Oa x=true)(h:(f.all λt=>Ma g t)=true) :
  Pa (Ia f x++fb (Ia g x))=(Ia f x).filter λz=>Ma g z.At:=by
 have hh:((Ia f x).filter λz=>Ma g z.At).Sublist x:=(abd).trans abd
 have e2:Ia g x=(Ia f x).filter λz=>!Ma g z.At:=by
  unfold Ia;rw[List.filter_filter];refine List.filter_congr λz _=>?_;cases hk:Ma f z.At with
  |false=>simp
  |true=>rw[lah h hk];rfl
 rw[<-nah hb hh];refine G6 λk=>?_;rw[P6];refine(Eqm.add (Eqm.refl _) (mah k)).trans (Eqm.of ?_);rw[e2];have:=qX (λz=>Ma g z.At) k (Ia f x);omega
theorem pah{s:Sess}(hs:Sm s){f:List Time}(hf:f.length<=1000):AA s f/\zA s f=onV s f:=by
 have h1:=hs.ins;have h2:=hs.each;have h3:=hs.front;have h4:=hs.told;obtain⟨o1,o2⟩:=qB hs;obtain⟨q1,q2⟩:=JF f (by omega);obtain⟨g1,g2⟩:=aT s.Plan s.Ins (by omega) (λa ha=>by have:=h2 a ha;omega);simp only[AA,zA,zM,xM,kW,yA,yM,pcT,aal,aam,ga,Ob,Td,o2,q2,g2,onV,vh];cases hok:Xb s with
 |false=>exact⟨by simp[o1],rfl⟩
 |true=>
  obtain⟨x,hx⟩:=Ik.1 hok;cases hfo:De f with
  |false=>exact⟨by simp[o1,q1],rfl⟩
  |true=>
   have ho:=IF hfo
   have k2:ua (λj:Int=>wA f s.Plan.Kind s.Plan.Num s.Plan.Kids s.Ins s.Front s.Told j) 0 (if Kb (λ_ t=>!Ma s.Front t) none f=true then .x () else .r (fj,([],(false,())))):=by
    refine la.scan f _ (λl t r ht=>?_) ?_
    .obtain⟨hlen,hq,hm,hn⟩:=La (t:=.time) ht;obtain⟨y1,y2⟩:=rN hx.front (ho t (by rw[ht];simp)) (by omega);simp only[wA,aal,aam,ga,hn,hq,y2,Ea (l:=l) (by omega)];refine⟨by simp[hm,y1],?_⟩;cases Ma s.Front t<;>rfl
    .have hk:cmp .lss (f.length:Int) (ba .time f)=false:=Ha (t:=.time);simp only[wA,aal,aam,ga,hk];exact⟨by simp,rfl⟩
   rw[Bg]at k2;have a2:(xA f s.Plan.Kind s.Plan.Num s.Plan.Kids s.Ins s.Front s.Told).o=_:=k2.v;have d2:(xA f s.Plan.Kind s.Plan.Num s.Plan.Kids s.Ins s.Front s.Told).ob:=k2.t;have hl:=Oi hx.flow;have hu:=hl.short;obtain⟨c1,c2⟩:=mX hs hl.ok;have hr:=gb (Pd hl.batch);obtain⟨l1,l2⟩:=sN hfo (λz hz=>Ag (hr.2 z hz)) (by omega) (by omega);have hj:Oa s.Told=true:=by rw[hx.told];exact rX hl.batch abd
   obtain⟨n1,n2⟩:=wS hj;have hh:=Hk f x;have hp:(fb s.Told).length=s.Told.length:=by simp[fb]
   have hi:∀z∈Ia f x++fb s.Told,InR z.Diff:=λz hz=>by
    rcases aas.1 hz with hz|hz
    .exact Jf (hr.2 z ((aaM.1 hz).1))
    .exact HF _ z hz
   obtain⟨s1,s2⟩:=Mi (Ia f x++fb s.Told) (by rw[aao];omega) hi;have hy:lim (ba .time []) (ba .time f):=by unfold lim ba;simp;omega
   have hv:lim (ba .row []) (ba .row (Ia f x)):=by unfold lim ba;simp;omega
   have hw:lim (ba .row (Ia f x)) (ba .row (fb s.Told)):=by unfold lim ba;omega
   simp only[a2,hx.flow,Nc,c2,l2,n2,s2,aaN];cases hall:(f.all λt=>Ma s.Front t) with
   |false=>exact⟨by simp[o1,q1,d2],rfl⟩
   |true=>
    have hg:=oah hl.batch hall;rw[<-hx.told]at hg;refine⟨by simp[o1,q1,d2,g1,c1,l1,n1,hy,hv,hw,s1],?_⟩;simp[ocR,onS,qf,hx.all,hg]
theorem qah{s:Sess}(hs:Sm s){f:List Time}(hf:f.length<=1000):qx s f/\nx s f=onV s f:=by
 have h1:=hs.ins;have h2:=hs.each;have h3:=hs.front;have h4:=hs.told;obtain⟨o1,o2⟩:=pB hs;obtain⟨q1,q2⟩:=dT f (by omega);obtain⟨g1,g2⟩:=ZS s.Plan s.Ins (by omega) (λa ha=>by have:=h2 a ha;omega);simp only[qx,nx,lJ,iJ,IU,kJ,JU,pcT,aal,aam,ga,Ob,Td,o2,q2,g2,onV,vh];cases hok:Xb s with
 |false=>exact⟨by simp[o1],rfl⟩
 |true=>
  obtain⟨x,hx⟩:=Ik.1 hok;cases hfo:De f with
  |false=>exact⟨by simp[o1,q1],rfl⟩
  |true=>
   have k2:ua (λj:Int=>ax f s.Plan.Kind s.Plan.Num s.Plan.Kids s.Ins s.Front s.Told (ba .time f) j) 0 (if Kb (λ_ t=>!Ma s.Front t) none f=true then .x () else .r (fj,([],(false,())))):=by
    refine la.scan f _ (λl t r ht=>?_) ?_
    .obtain⟨hlen,ho,hk,hm⟩:=La (t:=.time) ht;obtain⟨y1,y2⟩:=br s.Front t (by omega);simp only[ax,aal,aam,ga,hm,ho,y2,Ea (l:=l) (by omega)];refine⟨by simp[hk,y1],?_⟩;cases Ma s.Front t<;>rfl
    .have hi:cmp .lss (f.length:Int) (ba .time f)=false:=Ha (t:=.time);simp only[ax,aal,aam,ga,hi];exact⟨by simp,rfl⟩
   rw[Bg]at k2;have a2:(cx f s.Plan.Kind s.Plan.Num s.Plan.Kids s.Ins s.Front s.Told (ba .time f)).o=_:=k2.v;have d2:(cx f s.Plan.Kind s.Plan.Num s.Plan.Kids s.Ins s.Front s.Told (ba .time f)).ob:=k2.t;have hj:=Oi hx.flow;have hp:=hj.short;obtain⟨c1,c2⟩:=nX hs hj.ok;obtain⟨t1,t2⟩:=lX (f:=f) (by omega);obtain⟨l1,l2⟩:=iX x f (by omega) (by omega);have hh:=Hk f x
   have k4:∀w:LR,ua (λq:LR×Int=>fx s.Plan.Kind s.Plan.Num s.Plan.Kids s.Ins s.Front s.Told s.Plan.Kind s.Plan.Num s.Plan.Kids s.Ins f (Ia f x) (ba .row (Ia f x)) q.1 q.2) ([],0) (.x ((Ia f x).filter λz=>Ma s.Front z.At)):=by
    intro _;refine la.fold (Ia f x) (λi b=>(b,(i:Int))) (λl=>l.filter λz=>Ma s.Front z.At) rfl (λl z r hz=>?_) ?_
    .obtain⟨hlen,ho,hk,hm⟩:=La (t:=.row) hz;obtain⟨b1,b2⟩:=br s.Front z.At (by omega);have hl:∀w,lim (ba .row (l.filter λz=>Ma s.Front z.At)) (ba .row [w]):=λw=>Jb (t:=.row) (show(l.filter λz=>Ma s.Front z.At).length<1099511627776 by have:(l.filter λz=>Ma s.Front z.At).length<=l.length:=aav _ _;omega)
     have hn:(l++[z]).filter (λz=>Ma s.Front z.At)=if Ma s.Front z.At=true then(l.filter λz=>Ma s.Front z.At)++[z] else l.filter λz=>Ma s.Front z.At:=by
      rw[aaR];cases h:Ma s.Front z.At<;>simp[h]
     have e:(dx s.Plan.Kind s.Plan.Num s.Plan.Kids s.Ins s.Front s.Told s.Plan.Kind s.Plan.Num s.Plan.Kids s.Ins f (Ia f x) (l.filter λz=>Ma s.Front z.At) (ba .row (Ia f x)) l.length).ob/\(dx s.Plan.Kind s.Plan.Num s.Plan.Kids s.Ins s.Front s.Told s.Plan.Kind s.Plan.Num s.Plan.Kids s.Ins f (Ia f x) (l.filter λz=>Ma s.Front z.At) (ba .row (Ia f x)) l.length).val=.n ((l++[z]).filter λz=>Ma s.Front z.At):=by
      simp only[dx,aal,aam,ga,ho,b2];refine⟨by simp[hk,b1,hl],?_⟩;rw[hn];cases Ma s.Front z.At<;>rfl
     obtain⟨e1,e2⟩:=e;simp only[fx,jJ,pcT,aal,aam,hm,e2,Ea (l:=l) (by omega)];exact⟨by simp[e1],rfl⟩
    .have hi:cmp .lss ((Ia f x).length:Int) (ba .row (Ia f x))=false:=Ha (t:=.row);simp only[fx,aal,aam,hi];exact⟨by simp,rfl⟩
   have a4:(jx s.Plan.Kind s.Plan.Num s.Plan.Kids s.Ins s.Front s.Told s.Plan.Kind s.Plan.Num s.Plan.Kids s.Ins f (Ia f x) (ba .row (Ia f x))).o=_:=(k4 []).v;have d4:(jx s.Plan.Kind s.Plan.Num s.Plan.Kids s.Ins s.Front s.Told s.Plan.Kind s.Plan.Num s.Plan.Kids s.Ins f (Ia f x) (ba .row (Ia f x))).ob:=(k4 []).t;simp only[a2,hx.flow,Nc,c2,t2,l2,a4];cases hall:(f.all λt=>Ma s.Front t) with
   |false=>exact⟨by simp[o1,q1,d2],rfl⟩
   |true=>
    refine⟨by simp[o1,q1,d2,g1,c1,t1,l1,d4],?_⟩;simp[ocR,onS,qf,hx.all]
end
def bl(s:ByteArray):List UInt8:=s.data.toList
def mkB(l:List UInt8):ByteArray:=⟨l.toArray⟩
@[simp] theorem vf (l:List UInt8):bl (mkB l)=l:=rfl
@[simp] theorem tc (l:List UInt8):bl (bs l)=l:=rfl
@[simp] theorem Gm (s:ByteArray):mkB (bl s)=s:=by cases s;rfl
theorem Mg{a b:ByteArray}(h:bl a=bl b):a=b:=by rw[<-Gm a,<-Gm b,h]
@[simp] theorem Pb (a b:ByteArray):bl (a++b)=bl a++bl b:=by
  show(a++b).data.toList=_;rw[ByteArray.data_append,Array.toList_append];rfl
@[simp] theorem xh:bl aar=[]:=rfl
theorem uc(s:ByteArray):fa s=((bl s).length:Int):=by show((s.data.size:Nat):Int)=_;rw[<-Array.length_toList];rfl
theorem NN(s:ByteArray):s.toList=bl s:=Lib.toList_data s
theorem mai{a b:ByteArray}:seq a b=true↔a=b:=by
 unfold seq;rw[NN,NN,beq_iff_eq];exact⟨Mg,λh=>by rw[h]⟩
theorem fg(a b:ByteArray):seq a b=decide (a=b):=by
 rw[aat,mai,decide_eq_true_eq]
theorem mr(s:ByteArray)(i:Int):Tc s i=(((bl s).getD i.toNat 0).toNat:Int):=by unfold Tc;rw[NN]
theorem nr(s:ByteArray)(i j:Int):bl (Jc s i j)=((bl s).take j.toNat).drop i.toNat:=by
 show(s.extract i.toNat j.toNat).data.toList=_;rw[ByteArray.data_extract,Array.toList_extract,List.drop_take];rfl
theorem Lk(a b c:ByteArray):a++b++c=a++(b++c):=Mg (by simp)
theorem zB(a:ByteArray):a++aar=a:=Mg (by simp)
def spl(c:UInt8):List UInt8->List (List UInt8)
 |[]=>[[]]
 |x::r=>if x=c then []::spl c r else match spl c r with
  |h::t=>(x::h)::t
  |[]=>[[x]]
theorem gi(c x:UInt8)(r:List UInt8):spl c (x::r)=if x=c then []::spl c r else match spl c r with
 |h::t=>(x::h)::t
 |[]=>[[x]]:=rfl
theorem pr(c:UInt8):∀l,spl c l≠[]
 |[]=>by simp[spl]
 |x::r=>by
  unfold spl;split
  .simp
  .split<;>simp
theorem PN{c:UInt8}:∀ {l:List UInt8},c ∉ l->spl c l=[l]
 |[],_=>rfl
 |x::r,h=>by
  simp only[aaL,not_or]at h;rw[gi,if_neg (λe=>h.1 e.symm),PN h.2]
theorem ii{c:UInt8}:∀ {l r:List UInt8},c ∉ l->spl c (l++c::r)=l::spl c r
 |[],r,_=>by simp[spl]
 |x::l,r,h=>by
  simp only[aaL,not_or]at h;rw[aaI,gi,if_neg (λe=>h.1 e.symm),ii h.2]
theorem gY(c:UInt8):∀l,spl c (l++[c])=spl c l++[[]]
 |[]=>by simp[spl]
 |x::r=>by
  rw[aaI,gi,gi,gY c r];split
  .simp
  .cases h:spl c r with
   |nil=>exact absurd h (pr c r)
   |cons a t=>simp
theorem AB{c x:UInt8}(hx:x≠c):∀ {l:List UInt8}{A:List (List UInt8)}{b:List UInt8},spl c l=A++[b]->spl c (l++[x])=A++[b++[x]]
 |[],A,b,h=>by
  have h : [[]]=A++[b]:=h;cases A with
  |nil=>simp at h;subst h;simp[spl,hx]
  |cons a t=>simp at h
 |y::r,A,b,h=>by
  rw[aaI,gi];rw[gi]at h;split
  .rename_i hy;rw[if_pos hy]at h;cases A with
   |nil=>simp at h;exact absurd h.2 (pr c r)
   |cons a t=>
    simp only[aaI,abb]at h;rw[AB hx h.2,h.1];rfl
  .rename_i hy;rw[if_neg hy]at h;cases hr:spl c r with
   |nil=>exact absurd hr (pr c r)
   |cons a t=>
    rw[hr]at h;cases A with
    |nil=>
     simp only[aaN,abb]at h;obtain⟨rfl,rfl⟩:=h;rw[AB hx (A:=[]) (b:=a) (by rw[hr];rfl)];simp
    |cons a' t'=>
     simp only[aaI,abb]at h;obtain⟨rfl,rfl⟩:=h;rw[AB hx (A:=a::t') (b:=b) (by rw[hr];rfl)];simp
theorem Hm(c:UInt8):∀l,(spl c l).length<=l.length+1
 |[]=>aaS _
 |x::r=>by
  have:=Hm c r;unfold spl;split
  .simp;exact this
  .split
   .rename_i h;rw[h]at this;simp at this⊢;omega
   .simp
theorem QN(c:UInt8):∀l:List UInt8,(abA l c=-1/\l.count c=0/\spl c l=[l])\/∃i:Nat,abA l c=i/\i<l.length/\l.count c=(l.drop (i+1)).count c+1/\spl c l=l.take i::spl c (l.drop (i+1))
 |[]=>.inl ⟨rfl,rfl,rfl⟩
 |x::r=>by
  by_cases hx:x=c
  .subst hx;refine .inr ⟨0,?_,by simp,?_,?_⟩
   .simp[abA]
   .simp
   .simp[spl]
  .have hc:(x::r).count c=r.count c:=by rw[List.count_cons];simp[hx]
   rcases QN c r with⟨h1,h2,h3⟩|⟨i,h1,h2,h3,h4⟩
   .refine .inl ⟨?_,by rw[hc];exact h2,?_⟩
    .simp[abA,hx,h1]
    .rw[gi,if_neg hx,h3]
   .refine .inr ⟨i+1,?_,by simp;omega,by rw[hc];exact h3,?_⟩
    .simp only[abA,h1];simp[hx]
    .rw[gi,if_neg hx,h4];simp
theorem hY(c:UInt8):∀(n:Nat) (l:List UInt8),l.count c=n->Lib.splitK [c] 0 n l=spl c l
 |0,l,h=>by
  rcases QN c l with⟨_,_,h3⟩|⟨i,_,_,h3,_⟩
  .rw[h3];rfl
  .omega
 |n+1,l,h=>by
  rcases QN c l with⟨_,h2,_⟩|⟨i,h1,_,h3,h4⟩
  .omega
  .unfold Lib.splitK;rw[Lib.index_one,h1,if_neg (by simp),h4];simp only[aaG,Nat.add_zero,aaz];rw[hY c n _ (by omega)]
theorem nai(s:ByteArray)(c:UInt8):se s (bs [c])=(spl c (bl s)).map mkB:=by
 unfold se;have h:=Lib.splitB_data (bs [c]) 0 (Lib.countB s (bs [c])) s;have hc:Lib.countB s (bs [c])=(bl s).count c:=by show Lib.count (bl s) [c]=_;exact Lib.count_one _ _
 rw[show(bs [c]).data.toList=[c] from rfl,show s.data.toList=bl s from rfl,hY c _ _ hc.symm]at h;rw[show spl c (bl s)=_ from h.symm,abD];have:(mkB ∘ λ(x:ByteArray)=>x.data.toList)=id:=funext λx=>Gm x;rw[this,aca]
theorem split_ok{s:ByteArray}(c:UInt8)(h:(bl s).length<4294967281):Em s (bs [c])/\se s (bs [c])=(spl c (bl s)).map mkB:=⟨⟨rfl,by have:=uc s;unfold fa at this;omega⟩,nai s c⟩
theorem iY{n:Int}(h:0<=n/\n<10):Fe n=bs [abe (48+n.toNat)]:=by
 unfold Fe abO;rw[if_neg (by omega)];unfold aaE;rw[dif_pos (by omega)]
theorem oai{n:Int}(h:0<=n/\n<10):tf n:=⟨by omega,by omega⟩
def dig(n:Int):ByteArray:=bs [abe (48+n.toNat)]
def nameB(k n:Int):ByteArray:=if k=1 then bs [105,110]++dig n else if k=2 then bs [101,97,99,104]++dig n else if k=3 then bs [98,111,116,104] else if k=4 then bs [108,101,115,115] else if k=5 then bs [106,111,105,110] else bs [115,117,109]++dig n
def Wa:List (Int×Int):=[(1,0),(1,1),(2,1),(2,2),(2,3),(2,4),(2,5),(2,6),(2,7),(3,0),(4,0),(5,0),(6,1),(6,2),(6,3)]
theorem jY{k n:Int}(h0:0<=(kd k).1)(h1:(kd k).2.1<=n)(h2:n<=(kd k).2.2):(k,n)∈Wa:=by
 rcases Ho k with rfl|rfl|rfl|rfl|rfl|rfl|⟨g1,g2,g3,g4,g5,g6⟩
 .have h1:0<=n:=h1;have h2:n<=1:=h2;rcases (show n=0\/n=1 by omega) with rfl|rfl<;>decide
 .have h1:1<=n:=h1;have h2:n<=7:=h2;rcases (show n=1\/n=2\/n=3\/n=4\/n=5\/n=6\/n=7 by omega) with rfl|rfl|rfl|rfl|rfl|rfl|rfl<;>decide
 .have h1:0<=n:=h1;have h2:n<=0:=h2;obtain rfl:n=0:=by omega
  decide
 .have h1:0<=n:=h1;have h2:n<=0:=h2;obtain rfl:n=0:=by omega
  decide
 .have h1:0<=n:=h1;have h2:n<=0:=h2;obtain rfl:n=0:=by omega
  decide
 .have h1:1<=n:=h1;have h2:n<=3:=h2;rcases (show n=1\/n=2\/n=3 by omega) with rfl|rfl|rfl<;>decide
 .exfalso
  unfold kd at h0;rw[if_neg g1,if_neg g2,if_neg (by omega),if_neg g4,if_neg g6]at h0;simp at h0
theorem qr:∀h∈Wa,0<=(kd h.1).1/\(kd h.1).2.1<=h.2/\h.2<=(kd h.1).2.2/\0<=h.2/\h.2<10:=by decide
theorem ji{p:Plan}(h:Bc p=true):(p.Kind,p.Num)∈Wa:=by
 simp only[Bc,decide_eq_true_eq]at h;exact jY (by omega) h.2.1 h.2.2
theorem BB:∀h∈Wa,32 ∉ bl (nameB h.1 h.2)/\0<(bl (nameB h.1 h.2)).length/\(bl (nameB h.1 h.2)).length<=5:=by decide +kernel
theorem kY{p:Plan}(h:0<=p.Num/\p.Num<10):Uo p/\Vl p=nameB p.Kind p.Num:=by
 have hd:Fe p.Num=dig p.Num:=iY h;have hp:=oai h
 have hl:∀l:List UInt8,l.length<=10->lim (fa (bs l)) (fa (dig p.Num)):=λl h=>by
  unfold lim;rw[uc,uc,tc];show(l.length:Int)+((1:Nat):Int)<=_;omega
 have h1:=hl [105,110] (by decide);have h2:=hl [101,97,99,104] (by decide);have h3:=hl [115,117,109] (by decide);simp only[Uo,Vl,EG,aal,aam,ga,mb,hd,nameB];by_cases e1:p.Kind=1
 .simp[e1,hp,h1,ocR]
 .by_cases e2:p.Kind=2
  .simp[e2,hp,h2,ocR]
  .by_cases e3:p.Kind=3
   .simp[e3,ocR]
   .by_cases e4:p.Kind=4
    .simp[e4,ocR]
    .by_cases e5:p.Kind=5
     .simp[e5,ocR]
     .simp[e1,e2,e3,e4,e5,hp,h3,ocR]
def Rc:Nat->Plan->List ByteArray
 |0,_=>[]
 |d+1,p=>nameB p.Kind p.Num::p.Kids.flatMap (Rc d)
def ig(l:List ByteArray):ByteArray:=l.foldl (·++·) aar
theorem lY:∀(l:List ByteArray) (a:ByteArray),bl (l.foldl (·++·) a)=bl a++l.flatMap bl
 |[],a=>by simp
 |x::r,a=>by rw[abg,lY,Pb,abc,abo]
theorem RN(l:List ByteArray):bl (ig l)=l.flatMap bl:=by unfold ig;rw[lY];rfl
def Qa:Nat->Plan->ByteArray
 |0,_=>aar
 |d+1,p=>nameB p.Kind p.Num++ig (p.Kids.map λk=>bs [32]++Qa d k)
def sz:Nat->Nat
 |0=>0
 |d+1=>5+2*(1+sz d)
theorem SN{d:Nat}:∀ {l:List Plan},(∀x∈l,(bl (Qa d x)).length<=sz d)->((l.map λk=>bs [32]++Qa d k).flatMap bl).length<=l.length*(1+sz d)
 |[],_=>by simp
 |a::r,h=>by
  have h1:=h a (by simp);have h2:=SN (l:=r) (λx hx=>h x (by simp[hx]));simp only[abh,abc,aao,Pb,aap,tc,aay];rw[Nat.add_mul];omega
theorem Im:∀ {d:Nat}{p:Plan},okM d p=true->(bl (Qa d p)).length<=sz d/\0<(bl (Qa d p)).length
 |0,_,h=>by cases h
 |d+1,p,h=>by
  obtain⟨hlen,hk⟩:=lh h;have hr:Bc p=true:=by simp only[okM,aaq]at h;exact h.1
  obtain⟨_,n1,n2⟩:=BB _ (ji hr);have ih:∀x∈p.Kids,(bl (Qa d x)).length<=sz d:=λx hx=>(Im (hk x hx)).1;simp only[Qa,Pb,aao,RN];have:=SN ih;have h2:p.Kids.length*(1+sz d)<=2*(1+sz d):=Nat.mul_le_mul_right _ hlen;show _<=5+2*(1+sz d)/\_;simp only[]at n1 n2;constructor<;>omega
theorem mY{d:Nat}(ih:∀p:Plan,okM d p=true->∀r,spl 32 (bl (Qa d p)++32::r)=(Rc d p).map bl++spl 32 r)(ih2:∀p:Plan,okM d p=true->spl 32 (bl (Qa d p))=(Rc d p).map bl) :
  ∀ (ks:List Plan),(∀x∈ks,okM d x=true)->∀nm:List UInt8,32 ∉ nm ->
    (∀r,spl 32 (nm++(ks.map λk=>bs [32]++Qa d k).flatMap bl++32::r)=nm::(ks.flatMap (Rc d)).map bl++spl 32 r)/\spl 32 (nm++(ks.map λk=>bs [32]++Qa d k).flatMap bl)=nm::(ks.flatMap (Rc d)).map bl
 |[],_,nm,hn=>⟨λr=>by simp[ii hn],by simp[PN hn]⟩
 |a::ks,hk,nm,hn=>by
  have ha:=hk a (by simp);have hh:∀x∈ks,okM d x=true:=λx hx=>hk x (by simp[hx]);have key:∀q,(∀r',spl 32 (bl (Qa d a)++(ks.map λk=>bs [32]++Qa d k).flatMap bl++q)=r'->spl 32 (nm++(32::(bl (Qa d a)++(ks.map λk=>bs [32]++Qa d k).flatMap bl++q))) =nm::r'):=λq r' h=>by rw[ii hn,h]
  have body:(∀r,spl 32 (bl (Qa d a)++(ks.map λk=>bs [32]++Qa d k).flatMap bl++32::r)=(Rc d a).map bl++(ks.flatMap (Rc d)).map bl++spl 32 r)/\spl 32 (bl (Qa d a)++(ks.map λk=>bs [32]++Qa d k).flatMap bl)=(Rc d a).map bl++(ks.flatMap (Rc d)).map bl:=by
   cases ks with
   |nil=>exact⟨λr=>by simp[ih a ha],by simp[ih2 a ha]⟩
   |cons b ks'=>
    obtain⟨h1,h2⟩:=mY ih ih2 (b::ks') hh [] (by simp);simp only[abh,abc,Pb,tc,aaN,aaI,abo]at h1 h2⊢;constructor
    .intro r;have:=h1 r;rw[show(32:UInt8)::(bl (Qa d b)++((ks'.map λk=>bs [32]++Qa d k).flatMap bl++32::r))=[]++32::(bl (Qa d b)++((ks'.map λk=>bs [32]++Qa d k).flatMap bl++32::r)) from rfl,ii (by simp)]at this;rw[ih a ha];simp only[abb,true_and]at this;rw[this]
    .rw[show(32:UInt8)::(bl (Qa d b)++(ks'.map λk=>bs [32]++Qa d k).flatMap bl)=[]++32::(bl (Qa d b)++(ks'.map λk=>bs [32]++Qa d k).flatMap bl) from rfl,ii (by simp)]at h2;rw[ih a ha];simp only[abb,true_and]at h2;rw[h2]
  simp only[abh,abc,Pb,tc,aaI,aaN,abo,aba]at body key⊢;exact⟨λr=>by rw[ii hn,body.1 r],by rw[ii hn,body.2]⟩
theorem VN:∀(d:Nat) (p:Plan),okM d p=true->(∀r,spl 32 (bl (Qa d p)++32::r)=(Rc d p).map bl++spl 32 r)/\spl 32 (bl (Qa d p))=(Rc d p).map bl
 |0,_,h=>by cases h
 |d+1,p,h=>by
  obtain⟨_,hk⟩:=lh h;have hr:Bc p=true:=by simp only[okM,aaq]at h;exact h.1
  obtain⟨n0,_,_⟩:=BB _ (ji hr);obtain⟨h1,h2⟩:=mY (d:=d) (λp h=>(VN d p h).1) (λp h=>(VN d p h).2) p.Kids hk _ n0;simp only[Qa,Rc,Pb,RN,abh];exact⟨λr=>h1 r,h2⟩
theorem ur{p:Plan}{d:Nat}(h:okM d p=true):(spl 32 (bl (Qa d p))).map mkB=Rc d p:=by
 rw[(VN d p h).2,abD];have:(mkB ∘ bl)=id:=funext Gm;rw[this,aca]
theorem nY(l:List ByteArray)(x:ByteArray):ig (l++[x])=ig l++x:=by unfold ig;rw[aaK];rfl
theorem oY{d:Nat}{l:List Plan}(h:∀x∈l,okM d x=true):(bl (ig (l.map λk=>bs [32]++Qa d k))).length<=l.length*(1+sz d):=by
 rw[RN];exact SN λx hx=>(Im (h x hx)).1
theorem pai:∀(d n:Nat),d<=n->d<=4->∀p:Plan,okM d p=true->(oe n).2 p/\(oe n).1 p=Qa d p:=by
 intro d
 induction d with
 |zero=>intro n _ _ p h;cases h
 |succ d ih=>
  intro n hn hd p hp;obtain⟨m,rfl⟩ : ∃m,n=m+1:=⟨n - 1,by omega⟩;obtain⟨hlen,hk⟩:=lh hp;have hr:Bc p=true:=by simp only[okM,aaq]at hp;exact hp.1
  obtain⟨_,_,_,q1,q2⟩:=qr _ (ji hr);obtain⟨n1,n2⟩:=kY (p:=p) ⟨q1,q2⟩;have n3:(bl (nameB p.Kind p.Num)).length<=5:=(BB _ (ji hr)).2.2
  have hs:sz d<=2000:=by
   rcases (show d=0\/d=1\/d=2\/d=3 by omega) with rfl|rfl|rfl|rfl<;>decide
  have k:ua (λs:ByteArray×Int=>Tu (oe m).1 (oe m).2 (nameB p.Kind p.Num) p.Kids (ba .plan p.Kids) s.1 s.2) (nameB p.Kind p.Num,0) (.x (Qa (d+1) p)):=by
   refine la.fold p.Kids (λi b=>(b,(i:Int))) (λl=>nameB p.Kind p.Num++ig (l.map λk=>bs [32]++Qa d k)) (by show(nameB p.Kind p.Num++aar,_)=_;rw[zB];rfl) (λl x r hx=>?_) ?_
   .obtain⟨hlen2,ho,hi,hm⟩:=La (t:=.plan) hx;obtain⟨i1,i2⟩:=ih m (by omega) (by omega) x (hk x (by rw[hx];simp));have hx1:=(Im (hk x (by rw[hx];simp))).1
    have hj:lim (fa (bs [32])) (fa (Qa d x)):=by
     unfold lim;rw[uc,uc,tc];show((1:Nat):Int)+_<=_;omega
    have hl:lim (fa (nameB p.Kind p.Num++ig (l.map λk=>bs [32]++Qa d k))) (fa (bs [32]++Qa d x)):=by
     have hc:=oY (d:=d) (l:=l) (λy hy=>hk y (by rw[hx];simp[hy]));have:l.length*(1+sz d)<=2*2001:=abP (by omega) (by omega);unfold lim;simp only[uc,Pb,tc,aao,aap,aay];omega
    simp only[Tu,aal,aam,ga,hm,ho,Ob,i2,Ea (l:=l) (by omega),aba,abh,abE,nY,<-Lk];rw[Lk _ (bs [32])];exact⟨by simp[hi,i1,hj,hl],rfl⟩
   .have hh:cmp .lss (p.Kids.length:Int) (ba .plan p.Kids)=false:=Ha (t:=.plan);simp only[Tu,aal,aam,ga,hh];exact⟨by simp,rfl⟩
  have a2:(Uu (oe m).1 (oe m).2 (nameB p.Kind p.Num) p.Kids (ba .plan p.Kids)).o=.x (Qa (d+1) p):=k.v;have b2:(Uu (oe m).1 (oe m).2 (nameB p.Kind p.Num) p.Kids (ba .plan p.Kids)).ob:=k.t;simp only[oe,Xo,LG,JT,pcT,aal,aam,ga,Ob,n2,a2,ocR];exact⟨by simp[b2,n1],trivial⟩
def He(p:Plan):ByteArray:=if okM 4 p=true then Qa 4 p else aar
theorem qai(p:Plan):Wu p/\Vu p=He p:=by
 obtain⟨h1,h2⟩:=Ut p;simp only[Wu,Vu,RG,aal,aam,ga,Ob,h2,He];cases h:okM 4 p with
 |false=>exact⟨by simp[h1],rfl⟩
 |true=>
  obtain⟨t1,t2⟩:=pai 4 Ya (by decide) (aaS _) p h;have t1:QG p:=t1;have t2:MG p=Qa 4 p:=t2;simp only[aaO,ocR,t2];exact⟨by simp[h1,t1],by simp⟩
theorem Jm{n:Int}(h:0<=n/\n<10):Ld n/\xd n=dig n:=by
 have e1:cmp .lss n (-9223372036854775807)=false:=by rw[Ra];simp;omega
 have e2:cmp .lss n 0=false:=by rw[Ra];simp;omega
 have e3:cmp .lss n 10=true:=by rw[Ra];simp;omega
 have e4:ui [aaQ .u8 (ar .add .i64 48 n)]=dig n:=by
  rw[ub (by omega)];rcases (show n=0\/n=1\/n=2\/n=3\/n=4\/n=5\/n=6\/n=7\/n=8\/n=9 by omega) with rfl|rfl|rfl|rfl|rfl|rfl|rfl|rfl|rfl|rfl<;>rfl
 have key:∀m,(Qd (m+1)).2 n/\(Qd (m+1)).1 n=dig n:=λm=>by
  simp only[Qd,Qi,aal,aam,ga,e1,e2,e3,e4,ocR];exact⟨by simp,trivial⟩
 exact key 2097199
theorem rai{k n:Int}(h:(k,n)∈Wa)(T:List ByteArray)(hT:T=[aar,bs [105,110],bs [101,97,99,104],bs [98,111,116,104],bs [108,101,115,115],bs [106,111,105,110],bs [115,117,109]]) :
  inb k (ba .str T)/\(bl (rd .str T k)).length<=4/\(if 0<(kd k).2.2 then rd .str T k++dig n else rd .str T k)=nameB k n:=by
 subst hT
 have key:∀h∈Wa,(0<=h.1/\h.1<7)/\(bl (rd .str [aar,bs [105,110],bs [101,97,99,104],bs [98,111,116,104],bs [108,101,115,115],bs [106,111,105,110],bs [115,117,109]] h.1)).length<=4 /\
  bl (if 0<(kd h.1).2.2 then rd .str [aar,bs [105,110],bs [101,97,99,104],bs [98,111,116,104],bs [108,101,115,115],bs [106,111,105,110],bs [115,117,109]] h.1++dig h.2 else rd .str [aar,bs [105,110],bs [101,97,99,104],bs [98,111,116,104],bs [108,101,115,115],bs [106,111,105,110],bs [115,117,109]] h.1)=bl (nameB h.1 h.2):=by decide +kernel
 obtain⟨h1,h2,h3⟩:=key _ h;exact⟨h1,h2,Mg h3⟩
theorem sai:∀(d n:Nat),d<=n->d<=4->∀p:Plan,okM d p=true->(qd n).2 p/\(qd n).1 p=Qa d p:=by
 intro d
 induction d with
 |zero=>intro n _ _ p h;cases h
 |succ d ih=>
  intro n hn hd p hp;obtain⟨m,rfl⟩ : ∃m,n=m+1:=⟨n - 1,by omega⟩;obtain⟨hlen,hk⟩:=lh hp;have hr:Bc p=true:=by simp only[okM,aaq]at hp;exact hp.1
  obtain⟨_,_,_,q1,q2⟩:=qr _ (ji hr);obtain⟨d1,d2⟩:=Jm (n:=p.Num) ⟨q1,q2⟩;obtain⟨l1,l2⟩:=Tt p.Kind;have n3:(bl (nameB p.Kind p.Num)).length<=5:=(BB _ (ji hr)).2.2
  have hs:sz d<=2000:=by
   rcases (show d=0\/d=1\/d=2\/d=3 by omega) with rfl|rfl|rfl|rfl<;>decide
  generalize hT : [aar,bs [105,110],bs [101,97,99,104],bs [98,111,116,104],bs [108,101,115,115],bs [106,111,105,110],bs [115,117,109]]=T;obtain⟨s1,s2,s3⟩:=rai (ji hr) T hT.symm
  have hi:(pu (qd m).1 (qd m).2 p.Kind p.Num p.Kids (rd .str T p.Kind) (kd p.Kind).2.2).ob/\(pu (qd m).1 (qd m).2 p.Kind p.Num p.Kids (rd .str T p.Kind) (kd p.Kind).2.2).val=.n (nameB p.Kind p.Num):=by
   simp only[pu,aal,aam,ga,Lb,d2];rw[<-s3];by_cases hg:0<(kd p.Kind).2.2
   .have hl:lim (fa (rd .str T p.Kind)) (fa (dig p.Num)):=by
     unfold lim;rw[uc,uc];show _+((1:Nat):Int)<=_;omega
    simp[hg,d1,hl]
   .simp[hg]
  have k:ua (λs:ByteArray×Int=>qu (qd m).1 (qd m).2 p.Kind p.Num p.Kids (nameB p.Kind p.Num) s.1 s.2) (nameB p.Kind p.Num,0) (.x (Qa (d+1) p)):=by
   refine la.fold p.Kids (λi b=>(b,(i:Int))) (λl=>nameB p.Kind p.Num++ig (l.map λk=>bs [32]++Qa d k)) (by show(nameB p.Kind p.Num++aar,_)=_;rw[zB];rfl) (λl x r hx=>?_) ?_
   .obtain⟨hlen2,ht,hj,hq⟩:=La (t:=.plan) hx;obtain⟨i1,i2⟩:=ih m (by omega) (by omega) x (hk x (by rw[hx];simp));have hx1:=(Im (hk x (by rw[hx];simp))).1;have hc:=oY (d:=d) (l:=l) (λy hy=>hk y (by rw[hx];simp[hy]));have:l.length*(1+sz d)<=2*2001:=abP (by omega) (by omega)
    have hm:lim (fa (nameB p.Kind p.Num++ig (l.map λk=>bs [32]++Qa d k))) (fa (bs [32])):=by
     unfold lim;simp only[uc,Pb,tc,aao,aap,aay];omega
    have ho:lim (fa (nameB p.Kind p.Num++ig (l.map λk=>bs [32]++Qa d k)++bs [32])) (fa (Qa d x)):=by
     unfold lim;simp only[uc,Pb,tc,aao,aap,aay];omega
    simp only[qu,aal,aam,ga,hq,ht,Ob,i2,Ea (l:=l) (by omega),aba,abh,abE,nY,<-Lk];exact⟨by simp[hj,i1,hm,ho],rfl⟩
   .have hh:cmp .lss (p.Kids.length:Int) (ba .plan p.Kids)=false:=Ha (t:=.plan);simp only[qu,aal,aam,ga,hh];exact⟨by simp,rfl⟩
  have a3:(ru (qd m).1 (qd m).2 p.Kind p.Num p.Kids (nameB p.Kind p.Num)).o=.x (Qa (d+1) p):=k.v;have b3:(ru (qd m).1 (qd m).2 p.Kind p.Num p.Kids (nameB p.Kind p.Num)).ob:=k.t;simp only[qd,Mo,fG,gG,uT,pcT,aal,aam,ga,hT,l2,hi.2,a3,ocR];exact⟨by simp[b3,s1,l1,hi.1],trivial⟩
theorem pY(p:Plan):Po p/\Oo p=He p:=by
 obtain⟨h1,h2⟩:=EF p;simp only[Po,Oo,kG,aal,aam,ga,Ob,h2,He];cases h:okM 4 p with
 |false=>exact⟨by simp[h1],rfl⟩
 |true=>
  obtain⟨t1,t2⟩:=sai 4 Ya (by decide) (aaS _) p h;have t1:jG p:=t1;have t2:iG p=Qa 4 p:=t2;simp only[aaO,ocR,t2];exact⟨by simp[h1,t1],by simp⟩
theorem Km(A B:Prop)[Decidable A][Decidable B]:cond (decide A) true (decide B)=decide (A\/B):=by
 by_cases a:A<;>simp[a]
def itB(n:Int):ByteArray:=mkB (abO n)
theorem qY(n:Int):Fe n=itB n:=rfl
theorem CB:∀ {L u:Nat},1<=L->u<10 ^ L->(aaE u).length<=L
 |0,_,h,_=>by omega
 |L+1,u,_,h=>by
  unfold aaE;split
  .simp
  .rename_i h10;rw[Nat.pow_succ]at h
   have h1:1<=L:=by
    rcases abY L with rfl|h
    .simp at h;omega
    .exact h
   have:=CB h1 (u:=u / 10) (by omega);simp;omega
theorem rY{n:Int}(h:0<=n/\n<10):ui [aaQ .u8 (ar .add .i64 48 n)]=mkB [abe (48+n.toNat)]:=by
 rw[ub (by omega)];rcases (show n=0\/n=1\/n=2\/n=3\/n=4\/n=5\/n=6\/n=7\/n=8\/n=9 by omega) with rfl|rfl|rfl|rfl|rfl|rfl|rfl|rfl|rfl|rfl<;>rfl
theorem sY:∀(L m u:Nat),1<=L->L<=100->u<10 ^ L->u<=9223372036854775807->L<=m->(Qd m).2 (u:Int)/\(Qd m).1 (u:Int)=mkB (aaE u):=by
 intro L
 induction L with
 |zero=>intro m u h;omega
 |succ L ih=>
  intro m u _ hL hu hh hm;obtain⟨k,rfl⟩ : ∃k,m=k+1:=⟨m - 1,by omega⟩;have e1:cmp .lss (u:Int) (-9223372036854775807)=false:=by rw[Ra];exact decide_eq_false (by omega)
  have e2:cmp .lss (u:Int) 0=false:=by rw[Ra];exact decide_eq_false (by omega)
  have hm:(u:Int).tmod 10=((u % 10:Nat):Int):=by rw[abI (by omega)];rfl
  have hq:ar .quo .i64 (u:Int) 10=((u / 10:Nat):Int):=by rw[fo (by omega)];rfl
  by_cases h10:u<10
  .have e3:cmp .lss (u:Int) 10=true:=by rw[Ra];exact decide_eq_true (by omega)
   have e4:=rY (n:=(u:Int)) (by omega);simp only[Qd,Qi,aal,aam,ga,e1,e2,e3,e4,ocR];refine⟨by simp,?_⟩;unfold aaE;rw[dif_pos h10];rfl
  .have e3:cmp .lss (u:Int) 10=false:=by rw[Ra];exact decide_eq_false (by omega)
   rw[Nat.pow_succ]at hu
   have h1:1<=L:=by
    rcases abY L with rfl|h
    .simp at hu;omega
    .exact h
   obtain⟨i1,i2⟩:=ih k (u / 10) h1 (by omega) (by omega) (by omega) (by omega);have hlen:=CB h1 (u:=u / 10) (by omega);have e4:ui [aaQ .u8 (ar .add .i64 48 ((u % 10:Nat):Int))]=mkB [abe (48+u % 10)]:=rY (n:=((u % 10:Nat):Int)) (by omega)
   have hl:lim (fa (mkB (aaE (u / 10)))) (fa (mkB [abe (48+u % 10)])):=by
    unfold lim;simp only[uc,vf,aap,aay];omega
   simp only[Qd,Qi,aal,aam,ga,e1,e2,e3,hq,Xj,hm,e4,i2,ocR];generalize ((u / 10:Nat):Int)=U at i1;generalize hW:mkB [abe (48+u % 10)]=W at hl;refine⟨by simp[i1,hl],?_⟩
   conv=>rhs;rw[aaE,dif_neg h10]
   rw[<-hW];apply Mg;simp only[Pb,vf]
theorem tY{n:Int}(h : -9223372036854775807<=n/\n<=9223372036854775807):Ld n/\xd n=itB n:=by
 by_cases h0:0<=n
 .obtain⟨u,rfl⟩ : ∃u:Nat,n=u:=⟨n.toNat,by omega⟩;obtain⟨h1,h2⟩:=sY 19 Ya u (by decide) (by decide) (by omega) (by omega) (by decide);refine⟨h1,h2.trans ?_⟩;unfold itB abO;rw[if_neg (by omega)];rfl
 .have e1:cmp .lss n (-9223372036854775807)=false:=by rw[Ra];exact decide_eq_false (by omega)
  have e2:cmp .lss n 0=true:=by rw[Ra];exact decide_eq_true (by omega)
  obtain⟨u,hu⟩ : ∃u:Nat,-n=u:=⟨(-n).toNat,by omega⟩;have hw:aaQ .i64 (0 - n)=(u:Int):=by rw[abw _ (by omega)];omega
  have key:∀m,19<=m->(Qd (m+1)).2 n/\(Qd (m+1)).1 n=itB n:=λm hm=>by
   obtain⟨i1,i2⟩:=sY 19 m u (by decide) (by decide) (by omega) (by omega) hm;have hlen:=CB (L:=19) (by decide) (u:=u) (by omega)
   have hl:lim (fa (bs [45])) (fa (mkB (aaE u))):=by
    unfold lim;simp only[uc,vf,tc,aap,aay];omega
   simp only[Qd,Qi,aal,aam,ga,e1,e2,hw,i2,ocR];refine⟨by simp[i1,hl],?_⟩;unfold itB abO;rw[if_pos (by omega),show n.natAbs=u by omega];apply Mg;simp
  exact key 2097199 (by decide)
theorem tai{n:Int}(h:0<=n/\n<10):itB n=dig n:=iY h
def Zb:List UInt8->Int->Option Int
 |[],n=>some n
 |x::r,n=>if x.toNat<48\/57<x.toNat then none else Zb r (n*10+((x.toNat:Int) - 48))
def frm(l:List UInt8):Nat:=if 1<l.length/\l.head? = some 45 then 1 else 0
def sgn(l:List UInt8)(n:Int):Int:=if 0<frm l then -n else n
def xf(l:List UInt8):Int×Bool:=if l.length<1\/frm l+2<l.length then(0,false) else match Zb (l.drop (frm l)) 0 with
  |none=>(0,false)
  |some n=>(sgn l n,decide (itB (sgn l n)=mkB l))
theorem WN:∀(l:List UInt8) (n m:Int) (k:Nat),0<=n->n<10 ^ k->Zb l n=some m->0<=m/\m<10 ^ (k+l.length)
 |[],n,m,k,h0,h1,h=>by cases h;exact⟨h0,h1⟩
 |x::r,n,m,k,h0,h1,h=>by
  unfold Zb at h;split at h
  .cases h
  .rename_i hx;have:=WN r _ m (k+1) (by omega) (by rw[abZ];omega) h;rw[aap,show k+(r.length+1)=k+1+r.length by omega];exact this
theorem uY(s:ByteArray)(hs:(bl s).length<1000000000):im s/\gm s=((xf (bl s)).1,(xf (bl s)).2,()):=by
 have hsz:=uc s;generalize hl:bl s=l at hsz hs
 have c1:(Qx s).ob/\(Qx s).val=.n (frm l:Int):=by
  simp only[Qx,aal,aam,ga,hsz,Lb,mb,mr,hl];by_cases h1:1<l.length
  .have hh:(1:Int)<(l.length:Int):=by omega
   have hr:inb 0 (l.length:Int):=⟨by omega,by omega⟩;cases l with
   |nil=>simp at h1
   |cons x r=>
    have e:(((List.getD (x::r) (abi 0) 0).toNat:Int)=45)↔x=45:=by
     show((x.toNat:Int)=45)↔x=45;constructor
     .intro h;have:x.toNat=45:=by omega
      exact abm.1 (by rw[this];rfl)
     .rintro rfl;rfl
    by_cases hx:x=45
    .have hf:frm (x::r)=1:=if_pos ⟨h1,by rw[hx];rfl⟩;simp only[decide_eq_true (e.2 hx),decide_eq_true hh,Bool.and_true,cond_true,hf];exact⟨by simpa using hr,rfl⟩
    .have hf:frm (x::r)=0:=if_neg (by simp[hx]);simp only[decide_eq_false (mt e.1 hx),decide_eq_true hh,Bool.and_true,cond_true,hf];exact⟨by simpa using hr,rfl⟩
  .have hh:¬ (1:Int)<(l.length:Int):=by omega
   simp only[hh,decide_false,abG,cond_false,frm];rw[if_neg (by simp[h1])];exact⟨by simp,rfl⟩
 have hf:frm l<=1:=by unfold frm;split<;>simp
 have hj:ar .add .i64 (frm l:Int) 2=((frm l+2:Nat):Int):=by rw[ub (by omega)];rfl
 have hg:cond (cmp .lss (fa s) 1) true (cmp .gtr (fa s) (ar .add .i64 (frm l:Int) 2))=decide (l.length<1\/frm l+2<l.length):=by
  rw[hsz,hj,Ra,Lb,Km];exact decide_eq_decide.2 (by omega)
 by_cases hbad:l.length<1\/frm l+2<l.length
 .simp only[im,gm,Vx,Rx,pcT,aal,aam,ga,c1.2,Oc.n.injEq,forall_eq',hg,hbad,decide_true,ocR,xf,if_true];exact⟨by simp[c1.1],trivial⟩
 .have k3:∃q,ua (λs':Int×Int=>Sx s (frm l:Int) s'.1 s'.2) (0,(frm l:Int)) q/\q=(match Zb (l.drop (frm l)) 0 with
    |none=>.r (0,(false,()))
    |some n=>.x n):=by
   refine la.list (l.drop (frm l)) (λi n=>(n,((frm l+i:Nat):Int))) (λa n=>Zb (l.drop (frm l)) 0=Zb ((l.drop (frm l)).drop a.length) n/\0<=n/\n<10 ^ a.length) (b0:=0) rfl ⟨rfl,by omega,by simp⟩ (λa x r n hx hI=>?_) (λn hI=>?_)
   .obtain⟨i1,i2,i3⟩:=hI;have hlen:=congrArg aaY hx;simp only[abk,aao,aap]at hlen;have hr:inb ((frm l+a.length:Nat):Int) (l.length:Int):=⟨by omega,by omega⟩;have ht:inb ((frm l:Int)+(a.length:Int)) (l.length:Int):=⟨by omega,by omega⟩;have hu:cmp .lss ((frm l+a.length:Nat):Int) (fa s)=true:=by rw[hsz,Ra];exact decide_eq_true (by omega)
    have he:Tc s ((frm l+a.length:Nat):Int)=(x.toNat:Int):=by
     rw[mr,hl,aaG,aan];have:(l.drop (frm l))[a.length]? = some x:=by rw[hx];simp
     rw[List.getElem?_drop]at this;rw[this];rfl
    have hk:(l.drop (frm l)).drop a.length=x::r:=by rw[hx];simp
    have hm:(l.drop (frm l)).drop (a++[x]).length=r:=by rw[hx];simp
    rw[hk]at i1;have ih:=x.toNat_lt
    have hc:cond (cmp .lss (x.toNat:Int) 48) true (cmp .gtr (x.toNat:Int) 57)=decide (x.toNat<48\/57<x.toNat):=by
     rw[Ra,Lb,Km];exact decide_eq_decide.2 (by omega)
    have hi:a.length<=2:=by omega
    have hp:(10:Int) ^ a.length<=100:=by
     rcases (show a.length=0\/a.length=1\/a.length=2 by omega) with h|h|h<;>rw[h]<;>decide
    have hy:ar .add .i64 ((frm l+a.length:Nat):Int) 1=((frm l+(a.length+1):Nat):Int):=by rw[ub (by omega)];omega
    simp only[Sx,aal,aam,ga,hu,he,hc];rw[hsz];by_cases hbx:x.toNat<48\/57<x.toNat
    .rw[decide_eq_true hbx];refine⟨by simp[ht],.inr ⟨_,rfl,?_⟩⟩;rw[i1];unfold Zb;rw[if_pos hbx]
    .have hw:ar .add .i64 (ar .mul .i64 n 10) (aaQ .i64 (ar .sub .u8 (x.toNat:Int) 48))=n*10+((x.toNat:Int) - 48):=by
      have h1:ar .sub .u8 (x.toNat:Int) 48=(x.toNat:Int) - 48:=by
       show IntKind.u8.wrap ((x.toNat:Int) - 48)=_;exact IntWalk.u8_in _ (by omega)
      rw[h1,abw _ (by omega),wg (by omega),ub (by omega)]
     rw[decide_eq_false hbx];refine⟨by simp[ht],.inl ⟨n*10+((x.toNat:Int) - 48),?_,?_,by omega,?_⟩⟩
     .simp only[hw,hy,na]
     .rw[i1,hm]
      conv=>lhs;unfold Zb
      rw[if_neg hbx]
     .rw[aao,aaz,abZ];omega
   .obtain⟨i1,i2,i3⟩:=hI;have ho:cmp .lss ((frm l+(l.drop (frm l)).length:Nat):Int) (fa s)=false:=by rw[hsz,Ra,abk];exact decide_eq_false (by omega)
    rw[abr]at i1;simp only[Sx,aal,aam,ga,ho];exact⟨by simp,_,rfl,by rw[i1];rfl⟩
  obtain⟨q,k3,hq⟩:=k3;have a3:(Tx s (frm l:Int)).o=q:=k3.v;have b3:(Tx s (frm l:Int)).ob:=k3.t;simp only[im,gm,Vx,Rx,IJ,UU,pcT,aal,aam,ga,c1.2,Oc.n.injEq,forall_eq',hg,hbad,decide_false,a3,xf,if_false];cases hd:Zb (l.drop (frm l)) 0 with
  |none=>
   rw[hd]at hq;subst hq;simp only[ocR];exact⟨by simp[c1.1,b3],trivial⟩
  |some n=>
   rw[hd]at hq;subst hq;have hb:=WN _ 0 n 0 (by omega) (by decide) hd;rw[abk]at hb
   have hn:0<=n/\n<1000:=by
    have:(10:Int) ^ (0+(l.length - frm l))<=1000:=by
     rcases (show l.length - frm l=0\/l.length - frm l=1\/l.length - frm l=2 by omega) with h|h|h<;>rw[h]<;>decide
    omega
   have c4:(Ux s n (frm l:Int)).ob/\(Ux s n (frm l:Int)).val=.n (sgn l n):=by
    simp only[Ux,aal,aam,Lb,sgn];by_cases hz:0<frm l
    .have io:(0:Int)<(frm l:Int):=by omega
     have hw:aaQ .i64 (-n)=-n:=abw _ (by omega);simp[hz,hw]
    .have io:¬ (0:Int)<(frm l:Int):=by omega
     simp[hz]
   have ha : -9223372036854775807<=sgn l n/\sgn l n<=9223372036854775807:=by unfold sgn;split<;>omega
   obtain⟨d1,d2⟩:=tY ha;have hv:mkB l=s:=by rw[<-hl];exact Gm s
   simp only[JJ,pcT,c4.2,d2,ocR,fg,hv];exact⟨by simp[c1.1,b3,c4.1,c4.2,d1],trivial⟩
theorem uai{n:Int}(h:0<=n/\n<10):xf (bl (dig n))=(n,true):=by
 rcases (show n=0\/n=1\/n=2\/n=3\/n=4\/n=5\/n=6\/n=7\/n=8\/n=9 by omega) with rfl|rfl|rfl|rfl|rfl|rfl|rfl|rfl|rfl|rfl <;>
  (simp only[xf,dig,tc,frm,sgn];simp[Zb,tai,dig,mkB,bs])
theorem XN(s:ByteArray)(c:UInt8)(hs:(bl s).length<1000000000):Xh s (c.toNat:Int)/\Wh s (c.toNat:Int)=(spl c (bl s)).map mkB:=by
 have hsz:=uc s;generalize hl:bl s=l at hsz hs;have hh:∀(i j:Nat),bl (Jc s i j)=(l.take j).drop i:=λi j=>by rw[nr,hl];rfl
 have k2:∃q,ua (λt:(List ByteArray)×Int×Int=>Ox s (c.toNat:Int) t.1 t.2.1 t.2.2) ([],0,0) q/\∃(out:List ByteArray) (f:Nat),q=.x (out,(f:Int))/\spl c l=out.map bl++[l.drop f]/\f<=l.length/\out.length<=l.length:=by
  refine la.list l (λi (b:List ByteArray×Nat)=>(b.1,(b.2:Int),(i:Int))) (λa b=>spl c a=b.1.map bl++[a.drop b.2]/\b.2<=a.length/\b.1.length<=a.length) (b0:=([],0)) rfl ⟨rfl,aaS _,aaS _⟩ (λa x r b hx hI=>?_) (λb hI=>?_)
  .obtain⟨out,f⟩:=b;obtain⟨i1,i2,i3⟩:=hI;simp only[]at i1 i2 i3;have hlen:l.length=a.length+(r.length+1):=by rw[hx];simp
   have hn:cmp .lss (a.length:Int) (fa s)=true:=by rw[hsz,Ra];exact decide_eq_true (by omega)
   have hj:inb (a.length:Int) (fa s):=by rw[hsz];exact⟨by omega,by omega⟩
   have hp:Tc s (a.length:Int)=(x.toNat:Int):=by rw[mr,hl,hx];simp
   have hk:le3 (f:Int) (a.length:Int) (fa s):=by rw[hsz];exact⟨by omega,by omega,by omega⟩
   have hm:∀y,lim (ba .str out) (ba .str [y]):=λy=>Jb (t:=.str) (show out.length<1099511627776 by omega)
   have e:(cmp .eql (x.toNat:Int) (c.toNat:Int))=decide (x=c):=by
    rw[mb];exact decide_eq_decide.2 ⟨λh=>abm.1 (by omega),λh=>by rw[h]⟩
   have ho:ar .add .i64 (a.length:Int) 1=((a.length+1:Nat):Int):=Ea (l:=a) (by omega);simp only[Ox,FJ,RU,pcT,aal,aam,ga,hn,hp,e];by_cases hxc:x=c
   .rw[decide_eq_true hxc];refine⟨by simp[hj,hk,hm],.inl ⟨(out++[Jc s f a.length],a.length+1),by simp only[ho,na],?_,by simp,by simp;omega⟩⟩;simp only[aba,abh,abE];rw[hh,hxc,gY,i1,hx];simp
   .rw[decide_eq_false hxc];refine⟨by simp[hj],.inl ⟨(out,f),by simp only[ho,na],?_,by simp;omega,by simp;omega⟩⟩;rw[AB hxc i1,List.drop_append_of_le_length i2]
  .obtain⟨out,f⟩:=b;obtain⟨i1,i2,i3⟩:=hI;have hi:cmp .lss (l.length:Int) (fa s)=false:=by rw[hsz,Ra];exact decide_eq_false (by omega)
   simp only[Ox,aal,aam,hi];exact⟨by simp,_,rfl,out,f,rfl,i1,i2,i3⟩
 obtain⟨_,k2,out,f,rfl,k3,k4,k5⟩:=k2;have a2:(Px s (c.toNat:Int)).o=.x (out,(f:Int)):=k2.v;have b2:(Px s (c.toNat:Int)).ob:=k2.t;have hk:le3 (f:Int) (fa s) (fa s):=by rw[hsz];exact⟨by omega,by omega,by omega⟩
 have hm:∀y,lim (ba .str out) (ba .str [y]):=λy=>Jb (t:=.str) (show out.length<1099511627776 by omega);simp only[Xh,Wh,HJ,GJ,SU,pcT,aal,aam,ga,a2,ocR];refine⟨by simp[b2,hk,hm],?_⟩;rw[k3,aba,abD,abh,abE];have:(mkB ∘ bl)=id:=funext Gm;rw[this,aca]
 congr 2
 apply Mg;rw[hsz,hh,vf,abt]
theorem vai:∀a∈Wa,∀b∈Wa,bl (nameB a.1 a.2)=bl (nameB b.1 b.2)->a=b:=by decide +kernel
theorem vr:∀h∈Wa,(kd h.1).1<=2/\1<=h.1/\h.1<=6:=by decide
abbrev Re(d:Nat)(ks:List Plan):List ByteArray:=ks.flatMap (Rc d)
theorem drop_cons{α:Type}{l:List α}{i:Nat}(h:i<l.length):∃x,l[i]? = some x/\l.drop i=x::l.drop (i+1)/\x∈l:=⟨l[i],aaD h,List.drop_eq_getElem_cons h,abj h⟩
section
variable {d m:Nat} (ih:∀w:List ByteArray,w.length<=1000000->(nb m).2 w (d:Int)/\((nb m).1 w (d:Int)).2.1.length<=w.length/\∀p r,okM d p=true->w=Rc d p++r->(nb m).1 w (d:Int)=(p,r,true,()))
 {D:Int} (hsub:ar .sub .i64 D 1=(d:Int)) {w1:List ByteArray} (hw:w1.length<=1000000)
include ih hsub hw
def YN(d:Nat)(w1:List ByteArray)(k j:Int)(v:Plan×(List ByteArray)×Bool×Unit):Prop:=v.2.1.length<=w1.length/\∀ks r,(ks.length:Int)=(kd k).1->(∀x∈ks,okM d x=true)->w1=Re d ks++r->v=(⟨k,j,ks⟩,r,true,())
theorem wai{many:Nat}(hm:many<=2)(k j:Int):∃q,ua (λs:LP×(List ByteArray)×Int=>Lu (nb m).1 (nb m).2 D (many:Int) k j w1 s.1 s.2.1 s.2.2) ([],w1,0) q /\
  ((∃ks' r',q=.x (ks',r')/\r'.length<=w1.length/\∀ks r,ks.length=many->(∀x∈ks,okM d x=true)->w1=Re d ks++r->ks'=ks/\r'=r) \/
   (q=.r (⟨0,0,[]⟩,[],false,())/\∀ks r,ks.length=many->(∀x∈ks,okM d x=true)->w1=Re d ks++r->False)):=by
 refine la.list (aaT many ()) (λi (b:LP×List ByteArray)=>(b.1,b.2,(i:Int))) (λl b=>b.2.length<=w1.length/\b.1.length=l.length/\∀ks r,ks.length=many->(∀x∈ks,okM d x=true)->w1=Re d ks++r->b.1=ks.take l.length/\b.2=Re d (ks.drop l.length)++r) (b0:=([],w1)) rfl ⟨aaS _,rfl,λks r _ _ h=>⟨rfl,h⟩⟩ (λl x r b hx hI=>?_) (λb hI=>?_)
 .obtain⟨ks',r'⟩:=b;obtain⟨i1,i0,i2⟩:=hI;simp only[]at i0 i1 i2;have hlen:=congrArg aaY hx;simp only[aaw,aao,aap]at hlen;have hj:cmp .lss (l.length:Int) (many:Int)=true:=by rw[Ra];exact decide_eq_true (by omega)
  obtain⟨h1,h2,h3⟩:=ih r' (by omega);have hk:ar .add .i64 (l.length:Int) 1=((l.length+1:Nat):Int):=Ea (l:=l) (by omega);have hi:∀y,lim (ba .plan ks') (ba .plan [y]):=λy=>Jb (t:=.plan) (show ks'.length<1099511627776 by omega);simp only[Lu,aal,aam,ga,hj,hsub,Ob]
  have key:∀ks rr,ks.length=many->(∀x∈ks,okM d x=true)->w1=Re d ks++rr->∃y,ks.drop l.length=y::ks.drop (l.length+1)/\ks.take (l.length+1)=ks.take l.length++[y]/\(nb m).1 r' (d:Int)=(y,Re d (ks.drop (l.length+1))++rr,true,()):=λks rr g1 g2 g3=>by
   obtain⟨y,y0,y1,y2⟩:=drop_cons (l:=ks) (i:=l.length) (by omega);refine⟨y,y1,by rw[aby,y0];rfl,h3 y _ (g2 y y2) ?_⟩;rw[(i2 ks rr g1 g2 g3).2,y1];simp[Re]
  cases hok:((nb m).1 r' (d:Int)).2.2.1 with
  |false=>
   refine⟨by simp[h1],.inr ⟨_,rfl,.inr ⟨rfl,λks rr g1 g2 g3=>?_⟩⟩⟩;obtain⟨y,_,_,y2⟩:=key ks rr g1 g2 g3;rw[y2]at hok;cases hok
  |true=>
   refine⟨by simp[h1,hi],.inl ⟨(ks'++[((nb m).1 r' (d:Int)).1],((nb m).1 r' (d:Int)).2.1),by simp only[aaO,hk,na],by simp only[];omega,by simp[i0],λks rr g1 g2 g3=>?_⟩⟩;obtain⟨y,y1,y2,y3⟩:=key ks rr g1 g2 g3;rw[y3];simp only[aao,aaz];exact⟨by rw[y2,(i2 ks rr g1 g2 g3).1],trivial⟩
 .obtain⟨ks',r'⟩:=b;obtain⟨i1,i0,i2⟩:=hI;have hh:cmp .lss (((aaT many ()).length:Nat):Int) (many:Int)=false:=by rw[aaw,Ra];exact decide_eq_false (by omega)
  simp only[Lu,aal,aam,hh];refine⟨by simp,_,rfl,.inl ⟨ks',r',rfl,i1,λks rr g1 g2 g3=>?_⟩⟩;have:=i2 ks rr g1 g2 g3;simp only[aaw]at this;rw[<-g1,abt,abr]at this;exact⟨this.1,this.2⟩
variable {w0:ByteArray}
theorem xai{k j:Int}(h:(k,j)∈Wa)(high:Int) :
  (Vo (nb m).1 (nb m).2 (w0::w1) D k (kd k).1 high j).ob /\
  (if nameB k j=w0 then ∃v,(Vo (nb m).1 (nb m).2 (w0::w1) D k (kd k).1 high j).val=.r v/\YN d w1 k j v else(Vo (nb m).1 (nb m).2 (w0::w1) D k (kd k).1 high j).val=.n ()):=by
 obtain⟨q0,_,_,q1,q2⟩:=qr _ h;have q3:(kd k).1<=2:=(vr _ h).1;obtain⟨n1,n2⟩:=kY (p:=⟨k,j,[]⟩) ⟨q1,q2⟩;have n2:Vl ⟨k,j,[]⟩=nameB k j:=n2;obtain⟨many,hj⟩ : ∃many:Nat,(kd k).1=many:=⟨(kd k).1.toNat,by simp only[]at q0;omega⟩;obtain⟨q,k7,hq⟩:=wai ih hsub hw (many:=many) (by omega) k j;have a7:(Mu (nb m).1 (nb m).2 D (many:Int) k j w1).o=q:=k7.v;have b7:(Mu (nb m).1 (nb m).2 D (many:Int) k j w1).ob:=k7.t;have hh:inb 0 (ba .str (w0::w1)):=⟨by omega,by show(0:Int)<((w1.length+1:Nat):Int);omega⟩;have hi:le3 1 (ba .str (w0::w1)) (ba .str (w0::w1)):=⟨by omega,by show(1:Int)<=((w1.length+1:Nat):Int);omega,aaZ _⟩;have hk:rd .str (w0::w1) 0=w0:=rfl;have hdr:List.drop (abi 1) (w0::w1)=w1:=rfl;simp only[Vo,FG,ET,pcT,aal,aam,ga,n2,hk,hdr,hj,a7,fg];by_cases hn:nameB k j=w0
 .rw[if_pos hn,decide_eq_true hn];rcases hq with⟨hl,r',rfl,g1,g2⟩|⟨rfl,g2⟩
  .refine⟨by simp[n1,hh,hi,b7],_,rfl,g1,λks r e1 e2 e3=>?_⟩;obtain⟨rfl,rfl⟩:=g2 ks r (by omega) e2 e3;rfl
  .refine⟨by simp[n1,hh,hi,b7],_,rfl,aaX _,λks r e1 e2 e3=>(g2 ks r (by omega) e2 e3).elim⟩
 .rw[if_neg hn,decide_eq_false hn];exact⟨by simp[n1,hh],rfl⟩
theorem yai{k:Int}(hk:1<=k/\k<=6):∃q,ua (λs:Int=>Wo (nb m).1 (nb m).2 (w0::w1) D k (kd k).1 (kd k).2.2 (kd k).2.1 s) (kd k).2.1 q /\
  ((q=.x ()/\∀j,(k,j)∈Wa->nameB k j≠w0)\/∃v j,q=.r v/\(k,j)∈Wa/\nameB k j=w0/\YN d w1 k j v):=by
 have hb:0<=(kd k).1/\0<=(kd k).2.1/\(kd k).2.1<=(kd k).2.2/\(kd k).2.2<=10:=by
  rcases (show k=1\/k=2\/k=3\/k=4\/k=5\/k=6 by omega) with rfl|rfl|rfl|rfl|rfl|rfl<;>decide
 generalize hlo:(kd k).2.1=low at hb⊢;generalize hhi:(kd k).2.2=high at hb⊢;refine la.list (aaT (high - low+1).toNat ()) (λi (_:Unit)=>low+(i:Int)) (λl _=>∀j,low<=j->j<low+l.length->nameB k j≠w0) (b0:=()) (by simp) (λj h1 h2=>by simp at h2;omega) (λl x r _ hx hI=>?_) (λ_ hI=>?_)
 .have hlen:=congrArg aaY hx;simp only[aaw,aao,aap]at hlen;have hl:cmp .leq (low+(l.length:Int)) high=true:=by rw[de];exact decide_eq_true (by omega)
  have hh:(k,low+(l.length:Int))∈Wa:=jY hb.1 (by omega) (by omega);obtain⟨c1,c2⟩:=xai ih hsub hw (w0:=w0) hh high;have hm:ar .add .i64 (low+(l.length:Int)) 1=low+((l.length+1:Nat):Int):=by rw[ub (by omega)];omega
  by_cases hn:nameB k (low+(l.length:Int))=w0
  .rw[if_pos hn]at c2;obtain⟨v,c2,c3⟩:=c2;simp only[Wo,Nu,pcT,aal,aam,hl,c2];exact⟨by simp[c1],.inr ⟨_,rfl,.inr ⟨v,_,rfl,hh,hn,c3⟩⟩⟩
  .rw[if_neg hn]at c2;simp only[Wo,Nu,pcT,aal,aam,hl,c2];refine⟨by simp[c1],.inl ⟨(),by simp only[hm,na],λj h1 h2=>?_⟩⟩;simp only[aao,aaz]at h2;by_cases hj:j=low+(l.length:Int)
   .rw[hj];exact hn
   .exact hI j h1 (by omega)
 .have hi:cmp .leq (low+(((aaT (high - low+1).toNat ()).length:Nat):Int)) high=false:=by rw[aaw,de];exact decide_eq_false (by omega)
  simp only[Wo,aal,aam,hi];refine⟨by simp,_,rfl,.inl ⟨rfl,λj hj=>?_⟩⟩;obtain⟨_,g1,g2,_,_⟩:=qr _ hj;simp only[]at g1 g2;exact hI j (by omega) (by simp;omega)
theorem zai:∃q,ua (λs:Int=>Pu (nb m).1 (nb m).2 (w0::w1) D s) 1 q /\
  ((q=.x ()/\∀k j,(k,j)∈Wa->nameB k j≠w0)\/∃v k j,q=.r v/\(k,j)∈Wa/\nameB k j=w0/\YN d w1 k j v):=by
 refine la.list (aaT 6 ()) (λi (_:Unit)=>1+(i:Int)) (λl _=>∀k j,(k,j)∈Wa->k<1+l.length->nameB k j≠w0) (b0:=()) (by simp) (λk j h1 h2=>by have:=(vr _ h1).2.1;simp at h2 this;omega) (λl x r _ hx hI=>?_) (λ_ hI=>?_)
 .have hlen:=congrArg aaY hx;simp only[aaw,aao,aap]at hlen;have hi:cmp .leq (1+(l.length:Int)) 6=true:=by rw[de];exact decide_eq_true (by omega)
  obtain⟨o1,o2⟩:=CF (1+(l.length:Int));obtain⟨q,k4,hq⟩:=yai ih hsub hw (w0:=w0) (k:=1+(l.length:Int)) (by omega);generalize hK:1+(l.length:Int)=K at *;have a4:(Ou (nb m).1 (nb m).2 (w0::w1) D K (kd K).1 (kd K).2.2 (kd K).2.1).o=q:=k4.v;have b4:(Ou (nb m).1 (nb m).2 (w0::w1) D K (kd K).1 (kd K).2.2 (kd K).2.1).ob:=k4.t;have hj:ar .add .i64 K 1=1+((l.length+1:Nat):Int):=by rw[ub (by omega)];omega
  simp only[Pu,GG,GT,pcT,aal,aam,ga,hi,o2,a4];rcases hq with⟨rfl,hq⟩|⟨v,j,rfl,h1,h2,h3⟩
  .refine⟨by simp[o1,b4],.inl ⟨(),by simp only[hj,na],λk j g1 g2=>?_⟩⟩;simp only[aao,aaz]at g2;by_cases hkk:k=K
   .subst hkk;exact hq j g1
   .exact hI k j g1 (by omega)
  .exact⟨by simp[o1,b4],.inr ⟨_,rfl,.inr ⟨v,_,j,rfl,h1,h2,h3⟩⟩⟩
 .have hh:cmp .leq (1+(((aaT 6 ()).length:Nat):Int)) 6=false:=by decide
  simp only[Pu,aal,aam,hh];refine⟨by simp,_,rfl,.inl ⟨rfl,λk j g1=>hI k j g1 ?_⟩⟩;have:=(vr _ g1).2.2;simp only[aaw]at this⊢;omega
end
theorem vY:∀(d m:Nat),d<m->d<=1000->∀w:List ByteArray,w.length<=1000000 ->
  (nb m).2 w (d:Int)/\((nb m).1 w (d:Int)).2.1.length<=w.length/\∀p r,okM d p=true->w=Rc d p++r->(nb m).1 w (d:Int)=(p,r,true,()):=by
 intro d
 induction d with
 |zero=>
  intro m hm _ w _;obtain⟨m,rfl⟩ : ∃k,m=k+1:=⟨m - 1,by omega⟩;have hl:cmp .lss ((0:Nat):Int) 1=true:=rfl;have hc:cond (cmp .eql (ba .str w) 0) true true=true:=by cases cmp .eql (ba .str w) 0<;>rfl
  simp only[nb,sk,aal,aam,hl,hc,ocR];exact⟨by simp,aaX _,λp r h=>by cases h⟩
 |succ d ih=>
  intro m hm hd w hw;obtain⟨m,rfl⟩ : ∃k,m=k+1:=⟨m - 1,by omega⟩;generalize hD:((d+1:Nat):Int)=D;have hh:ar .sub .i64 D 1=(d:Int):=by rw[fh (by omega)];omega
  have hl:cmp .lss D 1=false:=by rw[Ra];exact decide_eq_false (by omega)
  cases w with
  |nil=>
   simp only[nb,sk,aal,aam,show cmp .eql (ba .str []) 0=true from rfl,cond_true,ocR];refine⟨by simp,aaX _,λp r h e=>?_⟩;cases e
  |cons w0 w1=>
   have hi:w1.length<=1000000:=by simp at hw;omega
   obtain⟨q,k2,hq⟩:=zai (λw hw=>ih m (by omega) (by omega) w hw) hh hi (w0:=w0);have a2:(Qu (nb m).1 (nb m).2 (w0::w1) D).o=q:=k2.v;have b2:(Qu (nb m).1 (nb m).2 (w0::w1) D).ob:=k2.t
   have hc:cond (cmp .eql (ba .str (w0::w1)) 0) true (cmp .lss D 1)=false:=by
    rw[hl,mb,show decide (ba .str (w0::w1)=0)=false from decide_eq_false (by show((w1.length+1:Nat):Int)≠0;omega)];rfl
   simp only[nb,sk,HG,HT,pcT,aal,aam,hc,a2]
   have fin:∀p r,okM (d+1) p=true->w0::w1=Rc (d+1) p++r->(p.Kind,p.Num)∈Wa/\nameB p.Kind p.Num=w0/\(p.Kids.length:Int)=(kd p.Kind).1/\(∀x∈p.Kids,okM d x=true)/\w1=Re d p.Kids++r:=λp r h e=>by
    have hr:Bc p=true:=by simp only[okM,aaq]at h;exact h.1
    simp only[Rc,aaI,abb]at e;have h2:=hr;simp only[Bc,decide_eq_true_eq]at h2;exact⟨ji hr,e.1.symm,h2.1,(lh h).2,e.2⟩
   rcases hq with⟨rfl,hq⟩|⟨v,k,j,rfl,h1,h2,h3,h4⟩
   .refine⟨by simp[b2],aaX _,λp r h e=>?_⟩;obtain⟨g1,g2,_⟩:=fin p r h e;exact absurd g2 (hq _ _ g1)
   .refine⟨by simp[b2],abq h3 (by simp),λp r h e=>?_⟩;obtain⟨g1,g2,g3,g4,g5⟩:=fin p r h e;have:=vai _ h1 _ g1 (by simp only[];rw[h2,g2]);simp only[abT]at this;obtain⟨rfl,rfl⟩:=this;exact(show _=v from rfl).trans ((h4 p.Kids r g3 g4 g5).trans (by rw[Ob]))
abbrev nmT:List ByteArray:=[aar,bs [105,110],bs [101,97,99,104],bs [98,111,116,104],bs [108,101,115,115],bs [106,111,105,110],bs [115,117,109]]
def DB(w:List UInt8)(i:Nat):Bool:=(w.take (bl (rd .str nmT i)).length == bl (rd .str nmT i))
def Lm(w:List UInt8)(i:Nat):List UInt8:=w.drop (bl (rd .str nmT i)).length
theorem Aai:∀h∈Wa,∀i∈[1,2,3,4,5,6],DB (bl (nameB h.1 h.2)) i=decide ((i:Int)=h.1):=by decide +kernel
theorem Bai:∀h∈Wa,Lm (bl (nameB h.1 h.2)) h.1.toNat=if 0<(kd h.1).2.2 then bl (dig h.2) else []:=by decide +kernel
theorem Cai:∀h∈Wa,(kd h.1).2.2<=0->h.2=0:=by decide
theorem Dai:∀i∈[1,2,3,4,5,6],(bl (rd .str nmT (i:Nat))).length<=4:=by decide +kernel
section
variable {d m:Nat}{D:Int}{w0:ByteArray}{w1:List ByteArray} (h0:(bl w0).length<=1000000)
include h0
theorem Eai(i:Nat)(hi:1<=i/\i<=6)(k n:Int) :
  (dq (xb m).1 (xb m).2 (w0::w1) D k n nmT (i:Int)).ob /\
  (dq (xb m).1 (xb m).2 (w0::w1) D k n nmT (i:Int)).val =
    .n (if DB (bl w0) i=true then((i:Int),if 0<(Lm (bl w0) i).length then(xf (Lm (bl w0) i)).1 else n) else(k,n)):=by
 have ho:i∈[1,2,3,4,5,6]:=by
  rcases (show i=1\/i=2\/i=3\/i=4\/i=5\/i=6 by omega) with rfl|rfl|rfl|rfl|rfl|rfl<;>simp
 have ht:=Dai i ho;have hh:inb (i:Int) (ba .str nmT):=⟨by omega,by show(i:Int)<7;omega⟩;have hj:inb 0 (ba .str (w0::w1)):=⟨by omega,by show(0:Int)<((w1.length+1:Nat):Int);omega⟩;have hr:rd .str (w0::w1) 0=w0:=rfl;unfold DB Lm;generalize hT:nmT=T at *;generalize hN:rd .str T (i:Int)=N at *;have hz:=uc w0;have hu:=uc N;generalize hl:bl w0=l at *;generalize hn:bl N=b at *;have hs:Jc w0 (fa N) (fa w0)=mkB (l.drop b.length):=Mg (by rw[nr,hz,hu,hl,vf];simp)
 have hpre:cond (cmp .geq (fa w0) (fa N)) (seq (Jc w0 0 (fa N)) N) false=(l.take b.length == b):=by
  rw[hz,hu,vg,fg,aat]
  have e:Jc w0 0 (b.length:Int)=N↔l.take b.length=b:=by
   constructor
   .intro h;have:=congrArg bl h;rw[nr,hl,hn]at this;simpa using this
   .intro h;apply Mg;rw[nr,hl,hn];simpa using h
  by_cases hb:(b.length:Int)<=(l.length:Int)
  .simp[hb,e]
  .simp only[decide_eq_false hb,cond_false,beq_iff_eq,abX,false_iff];intro h;have:=congrArg aaY h;rw[abM]at this;omega
 obtain⟨d1,d2⟩:=uY (mkB (l.drop b.length)) (by rw[vf,abk];omega);rw[vf]at d2;simp only[dq,aal,aam,ga,hN,hr,hpre,hs,d2]
 have hg:cmp .gtr (fa w0) (fa N)=decide (0<(l.drop b.length).length):=by
  rw[hz,hu,Lb,abk];exact decide_eq_decide.2 (by omega)
 have hm:cmp .geq (fa w0) (fa N)=true->le3 0 (fa N) (fa w0):=λh=>by
  rw[vg,decide_eq_true_eq]at h;exact⟨by omega,by omega,h⟩
 cases hp:(l.take b.length == b) with
 |false=>exact⟨by simp[hh,hj];exact hm,rfl⟩
 |true=>
  have hb:b.length<=l.length:=by
   have:=congrArg aaY (beq_iff_eq.1 hp);rw[abM]at this;omega
  have hk:le3 (fa N) (fa w0) (fa w0):=⟨by omega,by rw[hz,hu];omega,aaZ _⟩;rw[hg];by_cases hq:0<(l.drop b.length).length
  .rw[decide_eq_true hq,if_pos hq];exact⟨by simp[hh,hj,hk,d1];exact hm,rfl⟩
  .rw[decide_eq_false hq,if_neg hq];exact⟨by simp[hh,hj];exact hm,rfl⟩
theorem Fai:∃q,ua (λs:Int×Int×Int=>jm (xb m).1 (xb m).2 (w0::w1) D nmT s.1 s.2.1 s.2.2) (0,0,1) q /\
  ∃k n,q=.x (k,n)/\(0<=k/\k<=6)/\∀h∈Wa,w0=nameB h.1 h.2->k=h.1/\n=h.2:=by
 refine la.list (aaT 6 ()) (λi (b:Int×Int)=>(b.1,b.2,((i+1:Nat):Int))) (λl b=>(0<=b.1/\b.1<=6)/\∀h∈Wa,w0=nameB h.1 h.2->b=if h.1<=l.length then h else(0,0)) (b0:=(0,0)) rfl ⟨by simp,λh hh _=>?_⟩ (λl x r b hx hI=>?_) (λb hI=>?_)
 .have:=(vr _ hh).2.1;rw[if_neg (by simp;omega)]
 .obtain⟨k,n⟩:=b;obtain⟨i1,i2⟩:=hI;simp only[]at i1;have hlen:=congrArg aaY hx;simp only[aaw,aao,aap]at hlen;have hn:cmp .leq ((l.length+1:Nat):Int) 6=true:=by rw[de];exact decide_eq_true (by omega)
  obtain⟨c1,c2⟩:=Eai (m:=m) (D:=D) (w1:=w1) h0 (l.length+1) (by omega) k n;have ho:ar .add .i64 ((l.length+1:Nat):Int) 1=(((l.length+1)+1:Nat):Int):=by rw[ub (by omega)];omega
  obtain⟨b',hj,c2⟩ : ∃b',b'=(if DB (bl w0) (l.length+1)=true then(((l.length+1:Nat):Int),if 0<(Lm (bl w0) (l.length+1)).length then(xf (Lm (bl w0) (l.length+1))).1 else n) else(k,n))/\(dq (xb m).1 (xb m).2 (w0::w1) D k n nmT ((l.length+1:Nat):Int)).val=.n b':=⟨_,rfl,c2⟩
  have key:∀I,I=((l.length+1:Nat):Int)->(jm (xb m).1 (xb m).2 (w0::w1) D nmT k n I).ob/\na (jm (xb m).1 (xb m).2 (w0::w1) D nmT k n I).val=.go (b'.1,b'.2,((l.length+1+1:Nat):Int)):=λI hI=>by
   rw[<-hI]at c1 c2 hn ho;simp only[jm,LJ,pcT,aal,aam,hn,c2,ho];exact⟨by simp[c1],rfl⟩
  refine⟨(key _ rfl).1,.inl ⟨b',(key _ rfl).2,?_,λh hh hw=>?_⟩⟩
  all_goals rw[hj]
  .split
   .exact⟨by simp only[];omega,by simp only[];omega⟩
   .exact i1
  .have hb:=Aai h hh (l.length+1) (by rcases (show l.length=0\/l.length=1\/l.length=2\/l.length=3\/l.length=4\/l.length=5 by omega) with h|h|h|h|h|h<;>rw[h]<;>simp);have hi:=i2 h hh hw;rw[<-hw]at hb;rw[hb];obtain⟨_,_,_,q1,q2⟩:=qr _ hh;simp only[aao,aaz];by_cases e:((l.length+1:Nat):Int)=h.1
   .have hm:h.1<=((l.length+1:Nat):Int):=by omega
    rw[decide_eq_true e,if_pos rfl,if_pos hm];have ht:=Bai h hh;rw[<-hw,show h.1.toNat=l.length+1 by omega]at ht;rw[ht];rw[if_neg (by omega)]at hi;simp only[abT]at hi;by_cases hp:0<(kd h.1).2.2
    .rw[if_pos hp,if_pos (show 0<(bl (dig h.2)).length from Nat.one_pos),uai ⟨q1,q2⟩,e]
    .rw[if_neg hp,if_neg (by simp),e,hi.2];exact Prod.ext rfl (Cai h hh (by omega)).symm
   .rw[decide_eq_false e,if_neg (by simp),hi];by_cases g:h.1<=(l.length:Int)
    .rw[if_pos g,if_pos (by omega)]
    .rw[if_neg g,if_neg (by omega)]
 .obtain⟨k,n⟩:=b;obtain⟨i1,i2⟩:=hI;have hl:cmp .leq ((((aaT 6 ()).length+1:Nat)):Int) 6=false:=by decide
  simp only[jm,aal,aam,hl];refine⟨by simp,_,rfl,k,n,rfl,i1,λh hh hw=>?_⟩;have:=i2 h hh hw;have hk:=(vr _ hh).2.2;rw[aaw,if_pos (by omega)]at this;rw[<-this];exact⟨rfl,rfl⟩
end
section
variable {d m:Nat} (ih:∀w:List ByteArray,w.length<=1000000->(∀x∈w,(bl x).length<=1000000)->(xb m).2 w (d:Int)/\(∃k,((xb m).1 w (d:Int)).2.1=w.drop k)/\∀p r,okM d p=true->w=Rc d p++r->(xb m).1 w (d:Int)=(p,r,()))
 {D:Int} (hsub:ar .sub .i64 D 1=(d:Int)) {w1:List ByteArray} (hw:w1.length<=1000000) (hb:∀x∈w1,(bl x).length<=1000000)
include ih hsub hw hb
theorem Gai(many:Nat)(hm:many<=2)(k n:Int):∃q,ua (λs:LP×(List ByteArray)×Int=>yk (xb m).1 (xb m).2 D k n (many:Int) w1 s.1 s.2.1 s.2.2) ([],w1,0) q /\
  ∃ks' j,q=.x (ks',w1.drop j)/\∀ks r,ks.length=many->(∀x∈ks,okM d x=true)->w1=Re d ks++r->ks'=ks/\w1.drop j=r:=by
 refine la.list (aaT many ()) (λi (b:LP×Nat)=>(b.1,w1.drop b.2,(i:Int))) (λl b=>b.1.length=l.length/\∀ks r,ks.length=many->(∀x∈ks,okM d x=true)->w1=Re d ks++r->b.1=ks.take l.length/\w1.drop b.2=Re d (ks.drop l.length)++r) (b0:=([],0)) rfl ⟨rfl,λks r _ _ h=>⟨rfl,h⟩⟩ (λl x r b hx hI=>?_) (λb hI=>?_)
 .obtain⟨ks',j⟩:=b;obtain⟨i0,i2⟩:=hI;simp only[]at i0 i2;have hlen:=congrArg aaY hx;simp only[aaw,aao,aap]at hlen;have hj:cmp .lss (l.length:Int) (many:Int)=true:=by rw[Ra];exact decide_eq_true (by omega)
  obtain⟨h1,⟨j',h2⟩,h3⟩:=ih (w1.drop j) (by rw[abk];omega) (λx hx=>hb x (List.mem_of_mem_drop hx));have hk:ar .add .i64 (l.length:Int) 1=((l.length+1:Nat):Int):=Ea (l:=l) (by omega);have hi:∀y,lim (ba .plan ks') (ba .plan [y]):=λy=>Jb (t:=.plan) (show ks'.length<1099511627776 by omega);simp only[yk,aal,aam,ga,hj,hsub,Ob];refine⟨by simp[h1,hi],.inl ⟨(ks'++[((xb m).1 (w1.drop j) (d:Int)).1],j+j'),by simp only[hk,na,h2,List.drop_drop],by simp[i0],λks rr g1 g2 g3=>?_⟩⟩;obtain⟨y,y0,y1,y2⟩:=drop_cons (l:=ks) (i:=l.length) (by omega);have hv:=h3 y (Re d (ks.drop (l.length+1))++rr) (g2 y y2) (by rw[(i2 ks rr g1 g2 g3).2,y1];simp[Re]);rw[hv]at h2⊢;simp only[aao,aaz];rw[List.drop_drop]at h2;exact⟨by rw[aby,y0,(i2 ks rr g1 g2 g3).1];rfl,h2.symm⟩
 .obtain⟨ks',j⟩:=b;obtain⟨i0,i2⟩:=hI;have hh:cmp .lss (((aaT many ()).length:Nat):Int) (many:Int)=false:=by rw[aaw,Ra];exact decide_eq_false (by omega)
  simp only[yk,aal,aam,hh];refine⟨by simp,_,rfl,ks',j,rfl,λks rr g1 g2 g3=>?_⟩;have:=i2 ks rr g1 g2 g3;simp only[aaw]at this;rw[<-g1,abt,abr]at this;exact⟨this.1,this.2⟩
end
theorem Hai:∀(d m:Nat),d<m->d<=1000->∀w:List ByteArray,w.length<=1000000->(∀x∈w,(bl x).length<=1000000) ->
  (xb m).2 w (d:Int)/\(∃k,((xb m).1 w (d:Int)).2.1=w.drop k)/\∀p r,okM d p=true->w=Rc d p++r->(xb m).1 w (d:Int)=(p,r,()):=by
 intro d
 induction d with
 |zero=>
  intro m hm _ w _ _;obtain⟨m,rfl⟩ : ∃k,m=k+1:=⟨m - 1,by omega⟩;have hl:cmp .lss ((0:Nat):Int) 1=true:=rfl;have hc:cond (cmp .eql (ba .str w) 0) true true=true:=by cases cmp .eql (ba .str w) 0<;>rfl
  simp only[xb,zk,aal,aam,hl,hc,ocR];exact⟨by simp,⟨0,rfl⟩,λp r h=>by cases h⟩
 |succ d ih=>
  intro m hm hd w hw hb;obtain⟨m,rfl⟩ : ∃k,m=k+1:=⟨m - 1,by omega⟩;generalize hD:((d+1:Nat):Int)=D;have hq:ar .sub .i64 D 1=(d:Int):=by rw[fh (by omega)];omega
  have hl:cmp .lss D 1=false:=by rw[Ra];exact decide_eq_false (by omega)
  cases w with
  |nil=>
   simp only[xb,zk,aal,aam,show cmp .eql (ba .str []) 0=true from rfl,cond_true,ocR];refine⟨by simp,⟨0,rfl⟩,λp r h e=>?_⟩;cases e
  |cons w0 w1=>
   have hs:w1.length<=1000000:=by simp at hw;omega
   have hi:∀x∈w1,(bl x).length<=1000000:=λx hx=>hb x (by simp[hx]);obtain⟨_,k2,k,n,rfl,hk,hh⟩:=Fai (m:=m) (D:=D) (w1:=w1) (hb w0 (by simp));have a2:(Yx (xb m).1 (xb m).2 (w0::w1) D nmT).o=.x (k,n):=k2.v;have b2:(Yx (xb m).1 (xb m).2 (w0::w1) D nmT).ob:=k2.t;obtain⟨l1,l2⟩:=Tt k
   have hn : -1<=(kd k).1/\(kd k).1<=2:=by
    rcases (show k=0\/k=1\/k=2\/k=3\/k=4\/k=5\/k=6 by omega) with rfl|rfl|rfl|rfl|rfl|rfl|rfl<;>decide
   have hc:cond (cmp .eql (ba .str (w0::w1)) 0) true (cmp .lss D 1)=false:=by
    rw[hl,mb,show decide (ba .str (w0::w1)=0)=false from decide_eq_false (by show((w1.length+1:Nat):Int)≠0;omega)];rfl
   have ho:le3 1 (ba .str (w0::w1)) (ba .str (w0::w1)):=⟨by omega,by show(1:Int)<=((w1.length+1:Nat):Int);omega,aaZ _⟩;have hdr:List.drop (abi 1) (w0::w1)=w1:=rfl
   have key:∃q,ua (λs:LP×(List ByteArray)×Int=>yk (xb m).1 (xb m).2 D k n (kd k).1 w1 s.1 s.2.1 s.2.2) ([],w1,0) q /\
     ∃ht j,q=.x (ht,w1.drop j)/\∀ks r,(ks.length:Int)=(kd k).1->(∀x∈ks,okM d x=true)->w1=Re d ks++r->ht=ks/\w1.drop j=r:=by
    by_cases hz:0<=(kd k).1
    .obtain⟨hu,hp⟩ : ∃hu:Nat,(kd k).1=hu:=⟨(kd k).1.toNat,by omega⟩;rw[hp];obtain⟨q,g1,ht,j,g2,g3⟩:=Gai (λw hw hb=>ih m (by omega) (by omega) w hw hb) hq hs hi hu (by omega) k n;exact⟨q,g1,ht,j,g2,λks r e=>g3 ks r (by omega)⟩
    .have hj:cmp .lss 0 (kd k).1=false:=by rw[Ra];exact decide_eq_false (by omega)
     exact⟨.x ([],w1),.out (by simp only[yk,aam,hj];simp) (by simp only[yk,aal,hj];rfl),[],0,rfl,λks r e=>by omega⟩
   obtain⟨_,k5,ht,j,rfl,h5⟩:=key;have a5:(Zx (xb m).1 (xb m).2 D k n (kd k).1 w1).o=.x (ht,w1.drop j):=k5.v;have b5:(Zx (xb m).1 (xb m).2 D k n (kd k).1 w1).ob:=k5.t;simp only[xb,zk,MJ,VU,NJ,WU,pcT,aal,aam,ga,hc,a2,l2,hdr,a5,ocR];refine⟨by simp[b2,l1,l2,ho,b5],⟨j+1,rfl⟩,λp r h e=>?_⟩;have hr:Bc p=true:=by simp only[okM,aaq]at h;exact h.1
   simp only[Rc,aaI,abb]at e;have h2:=hr;simp only[Bc,decide_eq_true_eq]at h2;obtain⟨rfl,rfl⟩:=hh _ (ji hr) e.1;obtain⟨rfl,h7⟩:=h5 p.Kids r h2.1 (lh h).2 e.2;rw[h7,Ob]
open Classical in
noncomputable def Ud(s:ByteArray):Option Plan:=if h:∃p,okM 4 p=true/\Qa 4 p=s then some h.choose else none
theorem Iai{p q:Plan}(hp:okM 4 p=true)(hq:okM 4 q=true)(h:Qa 4 p=Qa 4 q):p=q:=by
 have e:Rc 4 p=Rc 4 q:=by rw[<-ur hp,<-ur hq,h]
 have h4:=(Im hp).1
 obtain⟨_,_,h1⟩:=vY 4 Ya (by decide) (by decide) (Rc 4 p) (by
  rw[<-ur hp,aaA];have:=Hm 32 (bl (Qa 4 p));have:sz 4=105:=rfl;omega)
 have a:=h1 p [] hp (by simp);have b:=h1 q [] hq (by rw[e];simp);rw[a]at b;simp only[abT]at b;exact b.1
theorem wY{p:Plan}(hp:okM 4 p=true):Ud (Qa 4 p)=some p:=by
 have h:∃q,okM 4 q=true/\Qa 4 q=Qa 4 p:=⟨p,hp,rfl⟩;unfold Ud;rw[dif_pos h];exact congrArg some (Iai h.choose_spec.1 hp h.choose_spec.2)
theorem Mm{s:ByteArray}{p:Plan}(h:Ud s=some p):okM 4 p=true/\Qa 4 p=s:=by
 unfold Ud at h;split at h
 .rename_i hh;cases h;exact hh.choose_spec
 .cases h
def Nm:Option Plan->Plan×Bool×Unit
 |some p=>(p,true,())
 |none=>(⟨0,0,[]⟩,false,())
theorem Om{c:UInt8}:∀ {l x:List UInt8},x∈spl c l->x.length<=l.length
 |[],x,h=>by simp[spl]at h;rw[h];exact aaS _
 |y::r,x,h=>by
  rw[gi]at h;split at h
  .rcases aaL.1 h with rfl|h
   .exact aaX _
   .exact Nat.le_succ_of_le (Om h)
  .cases hr:spl c r with
   |nil=>rw[hr]at h;simp at h;rw[h];simp
   |cons a t=>
    rw[hr]at h;rcases aaL.1 h with rfl|h
    .have:=Om (c:=c) (l:=r) (x:=a) (by rw[hr];simp);simp;exact this
    .exact Nat.le_succ_of_le (Om (by rw[hr];simp[h]))
theorem FB{p:Plan}(hp:okM 4 p=true):(bl (Qa 4 p)).length<=105/\Qa 4 p≠aar:=by
 obtain⟨h1,h2⟩:=Im hp;exact⟨h1,λe=>by rw[e]at h2;simp[xh]at h2⟩
theorem Jai(s:ByteArray)(hs:(bl s).length<1000000000):Zo s/\Yo s=Nm (Ud s):=by
 have hz:=uc s;by_cases hbig:2000<(bl s).length
 .have hg:cmp .gtr (fa s) 2000=true:=by rw[Lb,hz];exact decide_eq_true (by omega)
  have hi:Ud s=none:=by
   cases h:Ud s with
   |none=>rfl
   |some p=>
    obtain⟨h1,h2⟩:=Mm h;have:=(FB h1).1;rw[h2]at this;omega
  simp only[Zo,Yo,Xu,aal,aam,hg,ocR,hi];exact⟨by simp,rfl⟩
 .have hg:cmp .gtr (fa s) 2000=false:=by rw[Lb,hz];exact decide_eq_false (by omega)
  obtain⟨s1,s2⟩:=split_ok (s:=s) 32 (by omega);have hj:((spl 32 (bl s)).map mkB).length<=1000000:=by rw[aaA];have:=Hm 32 (bl s);omega
  obtain⟨r1,r2,r3⟩:=vY 4 Ya (by decide) (by decide) _ hj;have r1:IG ((spl 32 (bl s)).map mkB) 4:=r1;have hv:(nb Ya).1 ((spl 32 (bl s)).map mkB) ((4:Nat):Int)=Ru ((spl 32 (bl s)).map mkB) 4:=rfl;rw[hv]at r2 r3;simp only[Zo,Yo,Xu,aal,aam,ga,hg,s2,Ob,fg];generalize Ru ((spl 32 (bl s)).map mkB) 4=V at r2 r3⊢;obtain⟨p1,p2⟩:=Ut V.1;obtain⟨t1,t2⟩:=qai V.1;simp only[p2,t2];refine⟨by simp[s1,r1,p1,t1],?_⟩;cases hr:Ud s with
  |some p=>
   obtain⟨h1,h2⟩:=Mm hr;have e:=r3 p [] h1 (by rw[<-h2,ur h1,aaU]);rw[e];simp only[h1,He,if_true,h2];rfl
  |none=>
   have hh:¬ (okM 4 V.1=true/\He V.1=s):=λ⟨h1,h2⟩=>by
    unfold He at h2;rw[if_pos h1]at h2;rw[<-h2,wY h1]at hr;cases hr
   have hA:cond (cond (cond (!V.2.2.1) true (cmp .gtr (ba .str V.2.1) 0)) true (!okM 4 V.1)) true (!decide (He V.1=s))=true:=by
    cases V.2.2.1<;>cases cmp .gtr (ba .str V.2.1) 0<;>cases ho:okM 4 V.1<;>simp;exact λh=>hh ⟨ho,h⟩
   rw[hA];rfl
theorem Kai(s:ByteArray)(hs:(bl s).length<1000000000):gq s/\fq s=Nm (Ud s):=by
 have hz:=uc s;by_cases hbig:2000<(bl s).length
 .have hg:cmp .gtr (fa s) 2000=true:=by rw[Lb,hz];exact decide_eq_true (by omega)
  have hj:Ud s=none:=by
   cases h:Ud s with
   |none=>rfl
   |some p=>
    obtain⟨h1,h2⟩:=Mm h;have:=(FB h1).1;rw[h2]at this;omega
  simp only[gq,fq,cy,aal,aam,hg,ocR,hj];exact⟨by simp,rfl⟩
 .have hg:cmp .gtr (fa s) 2000=false:=by rw[Lb,hz];exact decide_eq_false (by omega)
  obtain⟨s1,s2⟩:=XN s 32 (by omega);have s1:Xh s 32:=s1;have s2:Wh s 32=(spl 32 (bl s)).map mkB:=s2;have hl:((spl 32 (bl s)).map mkB).length<=1000000:=by rw[aaA];have:=Hm 32 (bl s);omega
  have hk:∀x∈(spl 32 (bl s)).map mkB,(bl x).length<=1000000:=λx hx=>by
   obtain⟨y,hy,rfl⟩:=aaP.1 hx;have:=Om hy;rw[vf];omega
  obtain⟨r1,_,r3⟩:=Hai 4 Ya (by decide) (by decide) _ hl hk;have r1:PJ ((spl 32 (bl s)).map mkB) 4:=r1;have hv:(xb Ya).1 ((spl 32 (bl s)).map mkB) ((4:Nat):Int)=ay ((spl 32 (bl s)).map mkB) 4:=rfl;rw[hv]at r3;simp only[gq,fq,cy,aal,aam,ga,hg,s2,Ob,fg];generalize ay ((spl 32 (bl s)).map mkB) 4=V at r3⊢;obtain⟨t1,t2⟩:=pY V.1;simp only[t2];refine⟨by simp[s1,r1,t1],?_⟩;cases hr:Ud s with
  |some p=>
   obtain⟨h1,h2⟩:=Mm hr;have e:=r3 p [] h1 (by rw[<-h2,ur h1,aaU]);have hi:=(FB h1).2;rw[h2]at hi;rw[e,decide_eq_false hi];simp only[h1,He,if_true,h2];rfl
  |none=>
   have hA:cond (decide (s=aar)) true (!decide (He V.1=s))=true:=by
    by_cases h0:s=aar
    .rw[decide_eq_true h0];rfl
    .have hh:¬ He V.1=s:=λh2=>by
      unfold He at h2;split at h2
      .rename_i h1;rw[<-h2,wY h1]at hr;cases hr
      .exact h0 h2.symm
     rw[decide_eq_false h0,decide_eq_false hh];rfl
   rw[hA];rfl
def Bv:Nat->Int
 |0=>2
 |d+1=>2*Bv d+4
theorem xY:∀d,2<=Bv d
 |0=>aaZ _
 |d+1=>by have:=xY d;simp only[Bv];omega
theorem Mk{d:Nat}{k n:Int}{ks:List Plan}(h1:(ks.length:Int)=(kd k).1)(h2:(kd k).2.1<=n/\n<=(kd k).2.2)(h3:∀x∈ks,okM d x=true):okM (d+1) ⟨k,n,ks⟩=true:=by
 simp only[okM,aaq,aaF,Bc,decide_eq_true_eq];exact⟨⟨h1,h2⟩,h3⟩
theorem Lai{b:List Int}(hb:Yj b):∀(d n:Nat),d<n->d<=4->∀p:Int,0<=p/\p+Bv d<=500000 ->
  (Jd n).2 (b,p) d/\p<=((Jd n).1 (b,p) d).2/\((Jd n).1 (b,p) d).2<=p+Bv d/\okM (max d 1) ((Jd n).1 (b,p) d).1=true:=by
 intro d
 induction d with
 |zero=>
  intro n hn _ p hp;obtain⟨m,rfl⟩ : ∃m,n=m+1:=⟨n - 1,by omega⟩;have hB:Bv 0=2:=rfl;obtain⟨x1,x2,x3,x4⟩:=ee hb (p:=p) (n:=2) (by omega) (by omega);have hl:cmp .lss ((0:Nat):Int) 2=true:=rfl;simp only[Jd,Nl,aal,aam,ga,hl,cond_true,aaO,abG,cond_false,ocR,x2];exact⟨by simp[x1],by omega,by omega,Mk (d:=0) rfl ⟨x3,by show _<=(1:Int);omega⟩ (by simp)⟩
 |succ d ih=>
  intro n hn hd p hp;obtain⟨m,rfl⟩ : ∃m,n=m+1:=⟨n - 1,by omega⟩;have hh:=xY d;have hB:Bv (d+1)=2*Bv d+4:=rfl;generalize hD:((d+1:Nat):Int)=D;have hj:ar .sub .i64 D 1=(d:Int):=by rw[fh (by omega)];omega
  obtain⟨x1,x2,_,_⟩:=ee hb (p:=p) (n:=6) (by omega) (by omega)
  have hP:p<=cond ((!(cmp .lss D 2))&&true) (ib (b,p) 6).2 p/\cond ((!(cmp .lss D 2))&&true) (ib (b,p) 6).2 p<=p+1:=by
   rw[x2];cases cmp .lss D 2<;>simp<;>omega
  simp only[Jd,Nl,aal,aam,ga,hj];generalize cond ((!(cmp .lss D 2))&&true) (ib (b,p) 6).2 p=P at hP⊢;obtain⟨y1,y2,y3,y4⟩:=ee hb (p:=P) (n:=2) (by omega) (by omega);obtain⟨z1,z2,_,_⟩:=ee hb (p:=P) (n:=6) (by omega) (by omega);obtain⟨u1,u2,u3,u4⟩:=ee hb (p:=P+1) (n:=7) (by omega) (by omega);obtain⟨w1,w2,w3,w4⟩:=ee hb (p:=P+1) (n:=3) (by omega) (by omega)
  have R:∀q,P+1<=q->q<=P+2+Bv d->(Jd m).2 (b,q) d/\q<=((Jd m).1 (b,q) d).2/\((Jd m).1 (b,q) d).2<=q+Bv d/\okM (max d 1) ((Jd m).1 (b,q) d).1=true:=λq h1 h2=>ih m (by omega) (by omega) q (by omega)
  obtain⟨r1,r2,r3,r4⟩:=R (P+1) (by omega) (by omega);obtain⟨s1,s2,s3,s4⟩:=R (P+1+1) (by omega) (by omega);obtain⟨t1,t2,t3,t4⟩:=R ((Jd m).1 (b,P+1) d).2 (by omega) (by omega);have hm:max (d+1) 1=d+1:=by omega
  rw[hm];simp only[z2,u2,w2,y2,Ob];cases hc:cond (cmp .lss D 2) true (cmp .eql (ib (b,p) 6).1 0) with
  |true=>exact⟨by simp[x1,y1],by simp only[ocR];omega,by simp only[ocR];omega,Mk rfl ⟨y3,by show _<=(1:Int);omega⟩ (by simp)⟩
  |false=>
   have hi:max d 1=d:=by
    cases h2:cmp .lss D 2 with
    |true=>rw[h2]at hc;cases hc
    |false=>rw[Ra]at h2;have:=of_decide_eq_false h2;omega
   rw[hi]at r4 s4 t4;have a7:ar .add .i64 1 (ib (b,P+1) 7).1=1+(ib (b,P+1) 7).1:=ub (by omega);have a3:ar .add .i64 1 (ib (b,P+1) 3).1=1+(ib (b,P+1) 3).1:=ub (by omega);simp only[a7,a3];cases cmp .eql (ib (b,P) 6).1 0 with
   |true=>exact⟨by simp[x1,z1,u1,s1],by simp only[ocR];omega,by simp only[ocR];omega,Mk rfl ⟨by show(1:Int)<=_;omega,by show _<=(7:Int);omega⟩ (by simp[s4])⟩
   |false=>
    cases cmp .eql (ib (b,P) 6).1 1 with
    |true=>exact⟨by simp[x1,z1,r1,t1],by simp only[ocR];omega,by simp only[ocR];omega,Mk rfl ⟨aaZ _,aaZ _⟩ (by simp[r4,t4])⟩
    |false=>
     cases cmp .eql (ib (b,P) 6).1 2 with
     |true=>exact⟨by simp[x1,z1,r1],by simp only[ocR];omega,by simp only[ocR];omega,Mk rfl ⟨aaZ _,aaZ _⟩ (by simp[r4])⟩
     |false=>
      cases cmp .eql (ib (b,P) 6).1 3 with
      |true=>exact⟨by simp[x1,z1,r1,t1],by simp only[ocR];omega,by simp only[ocR];omega,Mk rfl ⟨aaZ _,aaZ _⟩ (by simp[r4,t4])⟩
      |false=>exact⟨by simp[x1,z1,w1,s1],by simp only[ocR];omega,by simp only[ocR];omega,Mk rfl ⟨by show(1:Int)<=_;omega,by show _<=(3:Int);omega⟩ (by simp[s4])⟩
theorem GB{b:List Int}(hb:Yj b){p:Int}(hp:0<=p/\p<=100000){l:List ByteArray}(h0:0<l.length)(h1:l.length<=100):jk (b,p) l/\(Lf (b,p) l).2=p+1/\(Lf (b,p) l).1∈l:=by
 have hl:ba .str l=(l.length:Int):=rfl;obtain⟨x1,x2,x3,x4⟩:=ee hb (p:=p) (n:=(l.length:Int)) (by omega) (by omega);simp only[jk,Lf,lG,aal,aam,ga,hl,ocR];refine⟨⟨⟨x1,⟨x3,x4⟩,trivial⟩,trivial⟩,x2,?_⟩;show l.getD _ _∈l;rw[aan,aaD (by omega)];exact abj _
def Nk(p:Plan):Sess:=⟨p,[[],[]],[⟨0,0⟩],[]⟩
def noS:Sess:=⟨⟨0,0,[]⟩,[],[],[]⟩
theorem yY(p:Plan):Ul p/\nh p=(if okM 4 p=true then(Nk p,true,()) else(noS,false,())):=by
 obtain⟨h1,h2⟩:=Ut p;simp only[Ul,nh,DG,aal,aam,ga,Ob,h2];cases h:okM 4 p with
 |false=>exact⟨by simp[h1],rfl⟩
 |true=>
  obtain⟨c1,c2⟩:=jX h;have hm:ni 2 2:=by simp[ni]
  simp only[aaO,ocR,c2];exact⟨by simp[h1,c1,hm],rfl⟩
theorem zY(p:Plan):aq p/\Zp p=(if okM 4 p=true then(Nk p,true,()) else(noS,false,())):=by
 obtain⟨h1,h2⟩:=EF p;simp only[aq,Zp,DJ,aal,aam,ga,Ob,h2];cases h:okM 4 p with
 |false=>exact⟨by simp[h1],rfl⟩
 |true=>
  obtain⟨c1,c2⟩:=kX h;simp only[aaO,ocR,c2];exact⟨by simp[h1,c1],rfl⟩
def isD(x:UInt8):Prop:=48<=x.toNat/\x.toNat<=57
instance (x:UInt8):Decidable (isD x):=inferInstanceAs (Decidable (_/\_))
def vD(x:UInt8):Int:=(x.toNat:Int) - 48
def jg(l:List UInt8):Option Int:=match l with
 |[a]=>if isD a then some (vD a) else none
 |[a,b]=>if a=45 then(if isD b/\b≠48 then some (-vD b) else none) else if isD a/\isD b/\a≠48 then some (vD a*10+vD b) else none
 |[a,b,c]=>if a=45/\isD b/\isD c/\b≠48 then some (-(vD b*10+vD c)) else none
 |_=>none
theorem ZN{n:Nat}(h:n<10):aaE n=[abe (48+n)]:=by
 unfold aaE;rw[dif_pos h]
theorem AY{n:Nat}(h0:10<=n)(h:n<100):aaE n=[abe (48+n / 10),abe (48+n % 10)]:=by
 unfold aaE;rw[dif_neg (by omega),ZN (by omega)];rfl
theorem Pm{x:UInt8}{n:Nat}(h:48+n=x.toNat):abe (48+n)=x:=by rw[h];simp
theorem aO{n:Int}(h:0<=n):bl (itB n)=aaE n.toNat:=by
 unfold itB abO;rw[if_neg (by omega)];rfl
theorem bO{n:Int}(h:n<0):bl (itB n)=45::aaE n.natAbs:=by
 unfold itB abO;rw[if_pos h];rfl
theorem CY{n:Int}{l:List UInt8}:itB n=mkB l↔bl (itB n)=l:=⟨λh=>by rw[h];rfl,λh=>Mg h⟩
theorem cO{a:UInt8}{r:List UInt8}{n:Int}:Zb (a::r) n=if isD a then Zb r (n*10+vD a) else none:=by
 have hd:isD a↔¬ (a.toNat<48\/57<a.toNat):=by unfold isD;omega
 by_cases h:isD a
 .rw[if_pos h,Zb,if_neg (hd.1 h)];rfl
 .rw[if_neg h,Zb,if_pos (Classical.not_not.1 λk=>h (hd.2 k))]
theorem HB{a:UInt8}:Zb [a] 0=if isD a then some (vD a) else none:=by
 rw[cO];by_cases h:isD a
 .rw[if_pos h,if_pos h];simp[Zb]
 .rw[if_neg h,if_neg h]
theorem IB{a b:UInt8}:Zb [a,b] 0=if isD a/\isD b then some (vD a*10+vD b) else none:=by
 rw[cO];by_cases h:isD a
 .rw[if_pos h,cO];by_cases k:isD b
  .rw[if_pos k,if_pos ⟨h,k⟩];simp[Zb]
  .rw[if_neg k,if_neg λx=>k x.2]
 .rw[if_neg h,if_neg λx=>h x.1]
theorem JB{a:UInt8}(h:isD a):bl (itB (vD a))=[a]:=by
 unfold isD at h;rw[aO (by unfold vD;omega),ZN (by unfold vD;omega)];exact congrArg (λx=>[x]) (Pm (by unfold vD;omega))
theorem Mai{a b:UInt8}(ha:isD a)(hb:isD b)(h:a≠48):bl (itB (vD a*10+vD b))=[a,b]:=by
 unfold isD at ha hb;have hh:a.toNat≠48:=λe=>h (by rw[<-abm];exact e);rw[aO (by unfold vD;omega),AY (by unfold vD;omega) (by unfold vD;omega),Pm (x:=a) (by unfold vD;omega),Pm (x:=b) (by unfold vD;omega)]
theorem Nai{b:UInt8}(hb:isD b):bl (itB (vD b))≠[48,b]:=by
 rw[JB hb];simp
def Ok(o:Option Int)(l:List UInt8):Int×Bool:=match o with
 |none=>(0,false)
 |some n=>(n,decide (itB n=mkB l))
theorem MB{n:Int}{l:List UInt8}(h:bl (itB n)=l):Ok (some n) l=(n,true):=by
 unfold Ok;simp only[CY,h,decide_true]
theorem dO{n:Int}{l:List UInt8}(h:bl (itB n)≠l):(Ok (some n) l).2=false:=decide_eq_false (λe=>h (CY.1 e))
theorem PB(l:List UInt8):xf l=if l.length<1\/frm l+2<l.length then(0,false) else Ok ((Zb (l.drop (frm l)) 0).map (sgn l)) l:=by
 unfold xf Ok;split
 .rfl
 .cases Zb (l.drop (frm l)) 0<;>rfl
theorem DY{b:UInt8}(hb:isD b)(h:b≠48):bl (itB (-vD b))=[45,b]:=by
 have hh:=hb;unfold isD at hb;have hi:b.toNat≠48:=λe=>h (by rw[<-abm];exact e);rw[bO (by unfold vD;omega),show(-vD b).natAbs=(vD b).toNat by unfold vD;omega,ZN (by unfold vD;omega),Pm (x:=b) (by unfold vD;omega)]
theorem Oai{b c:UInt8}(hb:isD b)(hc:isD c)(h:b≠48):bl (itB (-(vD b*10+vD c)))=[45,b,c]:=by
 unfold isD at hb hc;have hh:b.toNat≠48:=λe=>h (by rw[<-abm];exact e);rw[bO (by unfold vD;omega),show(-(vD b*10+vD c)).natAbs=(vD b*10+vD c).toNat by unfold vD;omega,AY (by unfold vD;omega) (by unfold vD;omega),Pm (x:=b) (by unfold vD;omega),Pm (x:=c) (by unfold vD;omega)]
theorem EY{l:List UInt8}(h:frm l=0)(h1:1<=l.length/\l.length<=2):xf l=Ok (Zb l 0) l:=by
 have hs:sgn l=id:=funext λn=>by unfold sgn;rw[h];rfl
 rw[PB,if_neg (by omega),h,hs,abU];rfl
theorem FY{l:List UInt8}(h:frm l=1)(h1:1<=l.length/\l.length<=3):xf l=Ok ((Zb (l.drop 1) 0).map λn=>-n) l:=by
 have hs:sgn l=λn=>-n:=funext λn=>by unfold sgn;rw[h];rfl
 rw[PB,if_neg (by omega),h,hs]
def Alike(l:List UInt8):Prop:=(jg l=none/\(xf l).2=false)\/∃n,jg l=some n/\xf l=(n,true)
theorem Pai(a:UInt8):Alike [a]:=by
 unfold Alike;rw[EY (l:=[a]) (by simp[frm]) (by simp),HB];by_cases h:isD a
 .rw[if_pos h];exact .inr ⟨_,if_pos h,MB (JB h)⟩
 .rw[if_neg h];exact .inl ⟨if_neg h,rfl⟩
theorem Qai(a b:UInt8):Alike [a,b]:=by
 unfold Alike;by_cases h:a=45
 .subst h;rw[FY (l:=[45,b]) (by simp[frm]) (by simp),show([45,b]:List UInt8).drop 1=[b] from rfl,HB];have hn:jg [45,b]=if isD b/\b≠48 then some (-vD b) else none:=rfl
  rw[hn];by_cases hb:isD b
  .rw[if_pos hb];by_cases h0:b=48
   .subst h0;rw[if_neg (λx=>x.2 rfl)];refine .inl ⟨rfl,dO ?_⟩;show bl (itB (-vD 48))≠[45,48];rw[show -vD 48=vD 48 by decide,JB (by decide)];decide
   .rw[if_pos ⟨hb,h0⟩];exact .inr ⟨_,rfl,MB (DY hb h0)⟩
  .rw[if_neg hb,if_neg (λx=>hb x.1)];exact .inl ⟨rfl,rfl⟩
 .rw[EY (l:=[a,b]) (by simp[frm,h]) (by simp),IB];have hn:jg [a,b]=if isD a/\isD b/\a≠48 then some (vD a*10+vD b) else none:=if_neg h
  rw[hn];by_cases hd:isD a/\isD b
  .rw[if_pos hd];by_cases h0:a=48
   .subst h0;rw[if_neg (λx=>x.2.2 rfl)];refine .inl ⟨rfl,dO ?_⟩;rw[show vD 48*10+vD b=vD b by simp[vD]];exact Nai hd.2
   .rw[if_pos ⟨hd.1,hd.2,h0⟩];exact .inr ⟨_,rfl,MB (Mai hd.1 hd.2 h0)⟩
  .rw[if_neg hd,if_neg λx=>hd ⟨x.1,x.2.1⟩];exact .inl ⟨rfl,rfl⟩
theorem Rai(a b c:UInt8):Alike [a,b,c]:=by
 unfold Alike;have hn:jg [a,b,c]=if a=45/\isD b/\isD c/\b≠48 then some (-(vD b*10+vD c)) else none:=rfl
 by_cases h:a=45
 .subst h;rw[FY (l:=[45,b,c]) (by simp[frm]) (by simp),show([45,b,c]:List UInt8).drop 1=[b,c] from rfl,IB,hn];by_cases hd:isD b/\isD c
  .rw[if_pos hd];by_cases h0:b=48
   .subst h0;rw[if_neg (λx=>x.2.2.2 rfl)];refine .inl ⟨rfl,dO ?_⟩;show bl (itB (-(vD 48*10+vD c)))≠[45,48,c];rw[show vD 48*10+vD c=vD c by simp[vD]];by_cases hc:c=48
    .subst hc;rw[show -vD 48=vD 48 by decide,JB (by decide)];simp
    .rw[DY hd.2 hc];simp
   .rw[if_pos ⟨rfl,hd.1,hd.2,h0⟩];exact .inr ⟨_,rfl,MB (Oai hd.1 hd.2 h0)⟩
  .rw[if_neg hd,if_neg λx=>hd ⟨x.2.1,x.2.2.1⟩];exact .inl ⟨rfl,rfl⟩
 .refine .inl ⟨by rw[hn,if_neg λx=>h x.1],?_⟩;rw[PB,if_pos (by simp[frm,h])]
theorem Sai:∀l:List UInt8,Alike l
 |[]=>.inl ⟨rfl,rfl⟩
 |[a]=>Pai a
 |[a,b]=>Qai a b
 |[a,b,c]=>Rai a b c
 |a::b::c::d::r=>by
  refine .inl ⟨rfl,?_⟩;rw[PB,if_pos];refine .inr ?_;have:frm (a::b::c::d::r)<=1:=by unfold frm;split<;>omega
  simp only[aap];omega
def yf(l:List UInt8):List UInt8:=match l with
 |45::r=>r
 |l=>l
theorem Tai(s:ByteArray):bl (uB s (bs [45]))=yf (bl s):=by
 show abR (bl s) [45]=yf (bl s);generalize bl s=l
 match l with
 |[]=>rfl
 |a::r=>
  by_cases h:a=45
  .subst h;simp[abR,Lib.hasPrefix,yf]
  .have h1:yf (a::r)=a::r:=by
    unfold yf;split
    .rename_i e;cases e;exact(h rfl).elim
    .rfl
   rw[h1];simp[abR,Lib.hasPrefix,List.isPrefixOf,Ne.symm h]
theorem Uai(s u:ByteArray)(hl:(bl u).length<=2):∃q,ua (λs':Int×Int=>bv s u s'.1 s'.2) (0,0) q/\q=(match Zb (bl u) 0 with
  |none=>.r (0,(false,()))
  |some n=>.x n):=by
 have hsz:=uc u;generalize hl':bl u=l at hl hsz;refine la.list l (λi n=>(n,(i:Int))) (λa n=>Zb l 0=Zb (l.drop a.length) n/\0<=n/\n<10 ^ a.length) (b0:=0) rfl ⟨rfl,by omega,by simp⟩ (λa x r n hx hI=>?_) (λn hI=>?_)
 .obtain⟨i1,i2,i3⟩:=hI;have hlen:=congrArg aaY hx;simp only[aao,aap]at hlen;have hm:inb (a.length:Int) (l.length:Int):=⟨by omega,by omega⟩;have hn:cmp .lss (a.length:Int) (fa u)=true:=by rw[hsz,Ra];exact decide_eq_true (by omega)
  have hq:Tc u (a.length:Int)=(x.toNat:Int):=by
   rw[mr,hl',aaG,aan,hx];simp
  have hi:l.drop a.length=x::r:=by rw[hx];simp
  have hj:l.drop (a++[x]).length=r:=by rw[hx];simp
  rw[hi]at i1;have hr:=x.toNat_lt
  have hc:cond (cmp .lss (x.toNat:Int) 48) true (cmp .gtr (x.toNat:Int) 57)=decide (x.toNat<48\/57<x.toNat):=by
   rw[Ra,Lb,Km];exact decide_eq_decide.2 (by omega)
  have hh:a.length<=2:=by omega
  have hp:(10:Int) ^ a.length<=100:=by
   rcases (show a.length=0\/a.length=1\/a.length=2 by omega) with h|h|h<;>rw[h]<;>decide
  have ho:ar .add .i64 (a.length:Int) 1=((a.length+1:Nat):Int):=by rw[ub (by omega)];omega
  simp only[bv,aal,aam,ga,hn,hq,hc];rw[hsz];by_cases hbx:x.toNat<48\/57<x.toNat
  .rw[decide_eq_true hbx];refine⟨by simp[hm],.inr ⟨_,rfl,?_⟩⟩;rw[i1];unfold Zb;rw[if_pos hbx]
  .have hw:ar .add .i64 (ar .mul .i64 10 n) (aaQ .i64 (ar .sub .u8 (x.toNat:Int) 48))=n*10+((x.toNat:Int) - 48):=by
    have h1:ar .sub .u8 (x.toNat:Int) 48=(x.toNat:Int) - 48:=by
     show IntKind.u8.wrap ((x.toNat:Int) - 48)=_;exact IntWalk.u8_in _ (by omega)
    rw[h1,abw _ (by omega),wg (by omega),ub (by omega)];omega
   rw[decide_eq_false hbx];refine⟨by simp[hm],.inl ⟨n*10+((x.toNat:Int) - 48),?_,?_,by omega,?_⟩⟩
   .simp only[hw,ho,na]
   .rw[i1,hj]
    conv=>lhs;unfold Zb
    rw[if_neg hbx]
   .rw[aao,aaz,abZ];omega
 .obtain⟨i1,i2,i3⟩:=hI;have hk:cmp .lss (l.length:Int) (fa u)=false:=by rw[hsz,Ra];exact decide_eq_false (by omega)
  rw[abr]at i1;simp only[bv,aal,aam,ga,hk];exact⟨by simp,_,rfl,by rw[i1];rfl⟩
def jj(l u:List UInt8):Prop:=(u.length<1\/2<u.length)\/(u.getD 0 0=48/\(1<u.length\/u.length<l.length))
instance (l u:List UInt8):Decidable (jj l u):=inferInstanceAs (Decidable (_\/_))
def sgN(l u:List UInt8)(n:Int):Int:=if u.length<l.length then -n else n
theorem eO(r:List UInt8):yf (45::r)=r:=rfl
theorem RB{a:UInt8}(h:a≠45)(r:List UInt8):yf (a::r)=a::r:=by
 unfold yf;split
 .rename_i e;cases e;exact(h rfl).elim
 .rfl
theorem Vai(l:List UInt8):jg l=if jj l (yf l) then none else(Zb (yf l) 0).map (sgN l (yf l)):=by
 have pos:∀ {u:List UInt8},yf u=u->sgN u (yf u)=id:=λh=>funext λn=>by unfold sgN;rw[h,if_neg (by omega)];rfl
 match l with
 |[]=>rfl
 |[a]=>
  by_cases h:a=45
  .subst h;rfl
  .have ho:=RB h [];rw[pos ho,ho,HB,abU,if_neg]
   .rfl
   .rintro (h|⟨_,h⟩)<;>simp at h
 |[a,b]=>
  by_cases h:a=45
  .subst h;have hs:sgN [45,b] [b]=λn=>-n:=funext λn=>if_pos (by simp);rw[eO,hs,HB];show(if isD b/\b≠48 then some (-vD b) else none)=_;by_cases h0:b=48
   .subst h0;rw[if_neg (λx=>x.2 rfl),if_pos (.inr ⟨rfl,.inr (by simp)⟩)]
   .rw[if_neg (c:=jj _ _)]
    .by_cases hd:isD b
     .rw[if_pos ⟨hd,h0⟩,if_pos hd];rfl
     .rw[if_neg (λx=>hd x.1),if_neg hd];rfl
    .rintro (h|⟨h,_⟩)
     .simp at h
     .exact h0 h
  .have ho:=RB h [b];rw[pos ho,ho,IB,abU];show(if a=45 then _ else _)=_;rw[if_neg h];by_cases h0:a=48
   .subst h0;rw[if_neg (λx=>x.2.2 rfl),if_pos (.inr ⟨rfl,.inl (by simp)⟩)]
   .rw[if_neg (c:=jj _ _)]
    .by_cases hd:isD a/\isD b
     .rw[if_pos ⟨hd.1,hd.2,h0⟩,if_pos hd];rfl
     .rw[if_neg (λx=>hd ⟨x.1,x.2.1⟩),if_neg hd];rfl
    .rintro (h|⟨h,_⟩)
     .simp at h
     .exact h0 h
 |[a,b,c]=>
  have hn:jg [a,b,c]=if a=45/\isD b/\isD c/\b≠48 then some (-(vD b*10+vD c)) else none:=rfl
  rw[hn];by_cases h:a=45
  .subst h;have hs:sgN [45,b,c] [b,c]=λn=>-n:=funext λn=>if_pos (by simp);rw[eO,hs,IB];by_cases h0:b=48
   .subst h0;rw[if_neg (λx=>x.2.2.2 rfl),if_pos (.inr ⟨rfl,.inl (by simp)⟩)]
   .rw[if_neg (c:=jj _ _)]
    .by_cases hd:isD b/\isD c
     .rw[if_pos ⟨rfl,hd.1,hd.2,h0⟩,if_pos hd];rfl
     .rw[if_neg (λx=>hd ⟨x.2.1,x.2.2.1⟩),if_neg hd];rfl
    .rintro (h|⟨h,_⟩)
     .simp at h
     .exact h0 h
  .rw[if_neg (λx=>h x.1),RB h,if_pos (.inl (.inr (by simp)))]
 |a::b::c::d::r=>
  rw[if_pos]
  .rfl
  .refine .inl (.inr ?_);by_cases h:a=45
   .subst h;rw[eO];simp
   .rw[RB h];simp
theorem Wai(s:ByteArray):dp s/\cp s=(match jg (bl s) with
  |none=>(0,false,())
  |some n=>(n,true,())):=by
 generalize hu:uB s (bs [45])=u;have hk:bl u=yf (bl s):=by rw[<-hu];exact Tai s
 rw[Vai,<-hk];have hsz:=uc u;have ho:=uc s
 have hh:Tc u 0=48↔(bl u).getD 0 0=48:=by
  rw[mr];show(((bl u).getD 0 0).toNat:Int)=48↔_;constructor
  .intro h;exact abm.1 (by show _=48;omega)
  .intro h;rw[h];rfl
 have hi:cond (cmp .lss (fa u) 1) true (cmp .gtr (fa u) 2)=decide ((bl u).length<1\/2<(bl u).length):=by
  rw[Ra,Lb,Km,hsz];exact decide_eq_decide.2 (by omega)
 have hj:cond (decide ((bl u).length<1\/2<(bl u).length)) true (cond (cmp .eql (Tc u 0) 48) (cond (cmp .gtr (fa u) 1) true (cmp .gtr (fa s) (fa u))) false)=decide (jj (bl s) (bl u)):=by
  rw[mb,Lb,Lb,Km,hsz,ho]
  have:cond (decide (Tc u 0=48)) (decide (1<((bl u).length:Int)\/((bl u).length:Int)<((bl s).length:Int))) false=decide ((bl u).getD 0 0=48/\(1<(bl u).length\/(bl u).length<(bl s).length)):=by
   by_cases h:Tc u 0=48
   .rw[decide_eq_true h,cond_true];exact decide_eq_decide.2 ⟨λk=>⟨hh.1 h,by omega⟩,λk=>by omega⟩
   .rw[decide_eq_false h,cond_false];exact(decide_eq_false λk=>h (hh.2 k.1)).symm
  rw[this,Km];exact decide_eq_decide.2 Iff.rfl
 have hm:¬ bl u=[]->(bl u).length<=2->inb 0 (fa u):=λh _=>⟨aaZ _,by rw[hsz];have:=List.length_pos_iff.2 h;omega⟩;by_cases hbad:jj (bl s) (bl u)
 .rw[if_pos hbad];simp only[dp,cp,ev,aal,aam,ga,hu,hi,hj,hbad,decide_true,ocR];exact⟨by simp[gr];exact hm,trivial⟩
 .rw[if_neg hbad]
  have hl:(bl u).length<=2:=by
   unfold jj at hbad;omega
  obtain⟨q,k3,hq⟩:=Uai s u hl;have a3:(cv s u).o=q:=k3.v;have b3:(cv s u).ob:=k3.t;simp only[dp,cp,ev,XG,NT,pcT,aal,aam,ga,hu,hi,hj,hbad,decide_false,a3];cases hd:Zb (bl u) 0 with
  |none=>
   rw[hd]at hq;subst hq;simp only[ocR];exact⟨by simp[gr,b3];exact hm,rfl⟩
  |some n=>
   rw[hd]at hq;subst hq;have hb:=WN _ 0 n 0 (by omega) (by decide) hd
   have hn:0<=n/\n<1000:=by
    have:(10:Int) ^ (0+(bl u).length)<=1000:=by
     rcases (show(bl u).length=0\/(bl u).length=1\/(bl u).length=2 by omega) with h|h|h<;>rw[h]<;>decide
    omega
   have c3:(dv s u n).ob/\(dv s u n).val=.n (sgN (bl s) (bl u) n):=by
    simp only[dv,aal,aam,Lb,hsz,ho,sgN];by_cases hz:(bl u).length<(bl s).length
    .have hp:((bl u).length:Int)<((bl s).length:Int):=by omega
     have hw:aaQ .i64 (-n)=-n:=abw _ (by omega);simp[hz,hw]
    .simp[hz]
   simp only[YG,pcT,c3.2,ocR];exact⟨by simp[gr,b3,c3.1];exact hm,rfl⟩
section
open Go Tg
noncomputable def atV(s:Sess)(t:Time):List Item×Bool×Unit:=cond (Xb s&&(xa t&&!Ma s.Front t)) (qc s.Told t,true,()) ([],false,())
structure On(s:Sess)(f:List Time)(x:List Row):Prop where
 ok:OkS s x
 flow:BF s.Plan s.Ins x
 front:De f=true
 all:(f.all λt=>Ma s.Front t)=true
 told:s.Told=Ia s.Front x
 new:(onS s f).Told=Ia f x
 fresh:qf s f=(Ia f x).filter λz=>Ma s.Front z.At
theorem Xai{s:Sess}{f:List Time}(h:vh s f=true):∃x,On s f x:=by
 unfold vh at h;simp only[aaq]at h;obtain⟨x,hx⟩:=Ik.1 h.1;exact⟨x,hx,Oi hx.flow,h.2.1,h.2.2,hx.told,by unfold onS;rw[hx.all],by unfold qf;rw[hx.all]⟩
theorem GY(f:List Time)(x:List Row):(Ia f x).Sublist x:=abd
theorem Yai{s:Sess}{f:List Time}{x:List Row}(h:On s f x):(qf s f).Sublist x:=by rw[h.fresh];exact abd.trans (GY f x)
theorem On.sess{s:Sess}{f:List Time}{x:List Row}(h:On s f x):Xb (onS s f)=true:=Ik.2 ⟨x,h.front,h.ok.flow,h.new⟩
theorem HY(s:Sess):(uh s).length<=400:=by
 unfold uh;cases h:Kf s.Plan s.Ins with
 |none=>exact aaX _
 |some x=>exact(Oi h).short
theorem Zai{s s':Sess}{i:Int}{rows:List Row}(h:inS s i rows=some s') :
  Xb s=true/\(0<=i/\i<2)/\Oa rows=true/\(rows.all λx=>Ma s.Front x.At)=true/\Oa (Pa (rd .lrow s.Ins i++rows))=true/\Xb s'=true/\s'=setIn s i (Pa (rd .lrow s.Ins i++rows)):=by
 unfold inS at h;cases hA:(Xb s&&(decide (0<=i/\i<2)&&(Oa rows&&rows.all λx=>Ma s.Front x.At))) with
 |false=>rw[hA]at h;exact nomatch h
 |true=>
  rw[hA,cond_true]at h;cases hB:(Oa (Pa (rd .lrow s.Ins i++rows))&&Xb (setIn s i (Pa (rd .lrow s.Ins i++rows)))) with
  |false=>rw[hB]at h;exact nomatch h
  |true=>
   rw[hB,cond_true]at h;have h7:=acb h;simp only[aaq,decide_eq_true_eq]at hA hB;exact⟨hA.1,hA.2.1,hA.2.2.1,hA.2.2.2,hB.1,by rw[<-h7];exact hB.2,h7.symm⟩
theorem aaj{a:List Row}(h:Oa a=true):a.length<=400:=(gb (Pd h)).1
theorem baj{s:Sess}(hs:Sm s){f:List Time}(hf:f.length<=1000):Sm (onS s f):=⟨hs.ins,hs.each,hf,by have:=Hk f (uh s);have:=HY s;show(Ia f (uh s)).length<=1000;omega⟩
theorem gO(s:Sess)(f:List Time):(qf s f).length<=400:=by
 have h1:=Hk f (uh s);have h2:=HY s;have h3:(qf s f).length<=(Ia f (uh s)).length:=aav _ _;omega
theorem caj{s s':Sess}{i:Int}{rows:List Row}(hs:Sm s)(h:inS s i rows=some s'):Sm s':=by
 obtain⟨_,_,_,_,h5,_,h7⟩:=Zai h;rw[h7];exact hs.setIn i (by have:=aaj h5;omega)
theorem SB{s:Sess}(h:Xb s=true):Nb s.Told=true:=by
 obtain⟨x,hx⟩:=Ik.1 h;rw[hx.told];exact Pd (rX (Oi hx.flow).batch (GY _ x))
theorem daj(t:Time):Qh t:=by simp[Qh,aH,aam]
theorem eaj{s:Sess}(hs:Sm s)(t:Time):Bx s t/\Ax s t=atV s t:=by
 have h3:=hs.front;have h4:=hs.told;obtain⟨o1,o2⟩:=pB hs;obtain⟨b1,b2⟩:=br s.Front t (by omega);obtain⟨p1,p2⟩:=vF s.Told t (by omega);have tp:=daj t;have tv:Eg t=xa t:=Bo t;simp only[Bx,Ax,rJ,aal,aam,ga,Td,o2,b2,p2,tv,atV];refine⟨by simp[o1,b1,p1,tp],?_⟩;cases Xb s<;>cases xa t<;>cases Ma s.Front t<;>rfl
theorem faj{s:Sess}(hs:Sm s)(t:Time):HA s t/\GA s t=atV s t:=by
 have h3:=hs.front;have h4:=hs.told;obtain⟨o1,o2⟩:=qB hs;obtain⟨c1,_⟩:=eT s.Front t (by omega);obtain⟨p1,p2⟩:=fS s.Told t (by omega);have tp:=Lh t;have tv:re t=xa t:=Ni t;simp only[HA,GA,EM,aal,aam,ga,Td,o2,tv,atV];refine⟨by simp[o1,c1,p1,tp],?_⟩;cases hok:Xb s with
 |false=>rfl
 |true=>
  cases ht:xa t with
  |false=>rfl
  |true=>
   obtain⟨x,hx⟩:=Ik.1 hok;rw[(rN hx.front ht (by omega)).2,p2,if_pos ⟨SB hok,ht⟩];cases Ma s.Front t<;>rfl
theorem IY{u:Nat}(h:u<10000000000):(aaE u).length<=10:=CB (L:=10) (by omega) h
def sm9(n:Int):Prop:=-1000000000<n/\n<1000000000
theorem Sc{n:Int}(h:sm9 n):(bl (itB n)).length<=11:=by
 unfold sm9 at h;by_cases h0:0<=n
 .rw[aO h0];have:=IY (u:=n.toNat) (by omega);omega
 .rw[bO (by omega),aap];have:=IY (u:=n.natAbs) (by omega);omega
theorem lj{n:Int}(h:sm9 n):Ld n/\xd n=itB n:=tY (by unfold sm9 at h;omega)
theorem mj{n:Int}(h:sm9 n):tf n:=by unfold sm9 at h;exact⟨by omega,by omega⟩
def nj(r:Row):ByteArray:=bs [32]++itB r.Key++bs [58]++itB r.Val++bs [64]++itB r.At.A++bs [44]++itB r.At.B++bs [61]++itB r.Diff
def pj(r:Item):ByteArray:=bs [32]++itB r.Key++bs [58]++itB r.Val++bs [61]++itB r.Count
def Vd(l:List Row)(a:ByteArray):ByteArray:=l.foldl (λa r=>a++nj r) a
def Wd(l:List Item)(a:ByteArray):ByteArray:=l.foldl (λa r=>a++pj r) a
structure SmR(r:Row):Prop where
 k:sm9 r.Key
 v:sm9 r.Val
 a:sm9 r.At.A
 b:sm9 r.At.B
 d:sm9 r.Diff
structure SmI(r:Item):Prop where
 k:sm9 r.Key
 v:sm9 r.Val
 d:sm9 r.Count
theorem VB{r:Row}(h:SmR r):(bl (nj r)).length<=100:=by
 have h1:=Sc h.k;have h2:=Sc h.v;have h3:=Sc h.a;have h4:=Sc h.b;have h5:=Sc h.d;simp only[nj,Pb,tc,aao,aap,aay];omega
theorem WB{r:Item}(h:SmI r):(bl (pj r)).length<=100:=by
 have h1:=Sc h.k;have h2:=Sc h.v;have h5:=Sc h.d;simp only[pj,Pb,tc,aao,aap,aay];omega
theorem mi{α:Type}{f:α->ByteArray}:∀(l:List α) (a:ByteArray),(∀x∈l,(bl (f x)).length<=100)->(bl (l.foldl (λa r=>a++f r) a)).length<=(bl a).length+100*l.length
 |[],_,_=>by simp
 |x::r,a,h=>by
  have h1:=h x (by simp);have h2:=mi r (a++f x) λy hy=>h y (by simp[hy]);rw[Pb,aao]at h2;rw[abg,aap];omega
theorem iO{α:Type}{f:α->ByteArray}:∀(l:List α) (a b:ByteArray),l.foldl (λa r=>a++f r) (a++b)=a++l.foldl (λa r=>a++f r) b
 |[],_,_=>rfl
 |x::r,a,b=>by rw[abg,abg,Lk,iO]
theorem XB{α:Type}{f:α->ByteArray}(l:List α)(x:α)(a:ByteArray):(l++[x]).foldl (λa r=>a++f r) a=l.foldl (λa r=>a++f r) a++f x:=by
 rw[aaK];rfl
theorem zf{a b:ByteArray}(h:(bl a).length+(bl b).length<=1000000000):lim (fa a) (fa b):=by
 unfold lim;rw[uc,uc];omega
theorem gaj(a b:Int)(c:LP)(d:List LR)(e:List Time)(f:LR)(T:ByteArray){rows:List Row}(hr:∀x∈rows,SmR x)(hT:(bl T).length<=100)(hl:rows.length<=1000) :
  (yx a b c d e f T rows (ba .row rows)).o=.x (Vd rows T)/\(yx a b c d e f T rows (ba .row rows)).ob:=by
 have k:ua (λs:ByteArray×Int=>ux a b c d e f T rows (ba .row rows) s.1 s.2) (T,0) (.x (Vd rows T)):=by
  refine la.fold rows (λi b=>(b,(i:Int))) (λl=>Vd l T) rfl (λl x r hx=>?_) ?_
  .obtain⟨hlen,hk,hi,hj⟩:=La (t:=.row) hx;have hs:=hr x (by rw[hx];simp);have hf:=mi (f:=nj) l T λy hy=>VB (hr y (by rw[hx];simp[hy]));have h1:=Sc hs.k;have h2:=Sc hs.v;have h3:=Sc hs.a;have h4:=Sc hs.b;have h5:=Sc hs.d;have p1:=mj hs.k;have p2:=mj hs.v;have p3:=mj hs.a;have p4:=mj hs.b;have p5:=mj hs.d;have L:∀u v:ByteArray,(bl u).length<=200000->(bl v).length<=200000->lim (fa u) (fa v):=λu v h1 h2=>zf (by omega);simp only[ux,aal,aam,ga,hj,hk,qY,Ea (l:=l) (by omega)];refine⟨?_,?_⟩
   .simp only[hi,p1,p2,p3,p4,p5,true_and,and_true,forall_const,implies_true];refine⟨L _ _ ?_ ?_,L _ _ ?_ ?_,L _ _ ?_ ?_,L _ _ ?_ ?_,L _ _ ?_ ?_,L _ _ ?_ ?_,L _ _ ?_ ?_,L _ _ ?_ ?_,L _ _ ?_ ?_,L _ _ ?_ ?_⟩<;>(try simp only[Vd,Pb,tc,aao,aap,aay])<;>omega
   .unfold Vd;rw[XB];rfl
  .have hh:cmp .lss (rows.length:Int) (ba .row rows)=false:=Ha (t:=.row);simp only[ux,aal,aam,hh];exact⟨by simp,rfl⟩
 exact⟨k.v,k.t⟩
theorem iaj{rows:List Row}(hr:∀x∈rows,SmR x)(hl:rows.length<=1000):FA rows/\Vq rows=Vd rows aar:=by
 have k:ua (λs:ByteArray×Int=>CA rows s.1 s.2) (aar,0) (.x (Vd rows aar)):=by
  refine la.fold rows (λi b=>(b,(i:Int))) (λl=>Vd l aar) rfl (λl x r hx=>?_) ?_
  .obtain⟨hlen,hk,hi,hj⟩:=La (t:=.row) hx;have hs:=hr x (by rw[hx];simp);have hf:=mi (f:=nj) l aar λy hy=>VB (hr y (by rw[hx];simp[hy]));have h1:=Sc hs.k;have h2:=Sc hs.v;have h3:=Sc hs.a;have h4:=Sc hs.b;have h5:=Sc hs.d;obtain⟨p1,q1⟩:=lj hs.k;obtain⟨p2,q2⟩:=lj hs.v;obtain⟨p3,q3⟩:=lj hs.a;obtain⟨p4,q4⟩:=lj hs.b;obtain⟨p5,q5⟩:=lj hs.d;have L:∀u v:ByteArray,(bl u).length<=200000->(bl v).length<=200000->lim (fa u) (fa v):=λu v h1 h2=>zf (by omega);rw[xh,aay]at hf;simp only[CA,aal,aam,ga,hj,hk,q1,q2,q3,q4,q5,Ea (l:=l) (by omega)];refine⟨?_,?_⟩
   .simp only[hi,p1,p2,p3,p4,p5,true_and,and_true,forall_const,implies_true];refine⟨L _ _ ?_ ?_,L _ _ ?_ ?_,L _ _ ?_ ?_,L _ _ ?_ ?_,L _ _ ?_ ?_,L _ _ ?_ ?_,L _ _ ?_ ?_,L _ _ ?_ ?_,L _ _ ?_ ?_,L _ _ ?_ ?_⟩<;>(try simp only[Vd,Pb,tc,aao,aap,aay])<;>omega
   .unfold Vd;rw[XB];simp only[nj,Lk];rfl
  .have hh:cmp .lss (rows.length:Int) (ba .row rows)=false:=Ha (t:=.row);simp only[CA,aal,aam,hh];exact⟨by simp,rfl⟩
 have a2:(DA rows).o=_:=k.v;have b2:(DA rows).ob:=k.t;simp only[FA,Vq,CM,BM,lW,pcT,aal,aam,a2,ocR];exact⟨by simp[b2],trivial⟩
theorem jaj(a b:Int)(c:LP)(d:List LR)(e:List Time)(f:LR)(T:ByteArray){rows:List Item}(hr:∀x∈rows,SmI x)(hT:(bl T).length<=100)(hl:rows.length<=1000) :
  (Dx a b c d e f T rows (ba .item rows)).o=.x (Wd rows T)/\(Dx a b c d e f T rows (ba .item rows)).ob:=by
 have k:ua (λs:ByteArray×Int=>Cx a b c d e f T rows (ba .item rows) s.1 s.2) (T,0) (.x (Wd rows T)):=by
  refine la.fold rows (λi b=>(b,(i:Int))) (λl=>Wd l T) rfl (λl x r hx=>?_) ?_
  .obtain⟨hlen,hk,hi,hj⟩:=La (t:=.item) hx;have hs:=hr x (by rw[hx];simp);have hf:=mi (f:=pj) l T λy hy=>WB (hr y (by rw[hx];simp[hy]));have h1:=Sc hs.k;have h2:=Sc hs.v;have h5:=Sc hs.d;have p1:=mj hs.k;have p2:=mj hs.v;have p5:=mj hs.d;have L:∀u v:ByteArray,(bl u).length<=200000->(bl v).length<=200000->lim (fa u) (fa v):=λu v h1 h2=>zf (by omega);simp only[Cx,aal,aam,ga,hj,hk,qY,Ea (l:=l) (by omega)];refine⟨?_,?_⟩
   .simp only[hi,p1,p2,p5,true_and,and_true,forall_const,implies_true];refine⟨L _ _ ?_ ?_,L _ _ ?_ ?_,L _ _ ?_ ?_,L _ _ ?_ ?_,L _ _ ?_ ?_,L _ _ ?_ ?_⟩<;>(try simp only[Wd,Pb,tc,aao,aap,aay])<;>omega
   .unfold Wd;rw[XB];rfl
  .have hh:cmp .lss (rows.length:Int) (ba .item rows)=false:=Ha (t:=.item);simp only[Cx,aal,aam,hh];exact⟨by simp,rfl⟩
 exact⟨k.v,k.t⟩
theorem kaj{rows:List Item}(hr:∀x∈rows,SmI x)(hl:rows.length<=1000):PA rows/\Wq rows=Wd rows aar:=by
 have k:ua (λs:ByteArray×Int=>IA rows s.1 s.2) (aar,0) (.x (Wd rows aar)):=by
  refine la.fold rows (λi b=>(b,(i:Int))) (λl=>Wd l aar) rfl (λl x r hx=>?_) ?_
  .obtain⟨hlen,hk,hi,hj⟩:=La (t:=.item) hx;have hs:=hr x (by rw[hx];simp);have hf:=mi (f:=pj) l aar λy hy=>WB (hr y (by rw[hx];simp[hy]));have h1:=Sc hs.k;have h2:=Sc hs.v;have h5:=Sc hs.d;obtain⟨p1,q1⟩:=lj hs.k;obtain⟨p2,q2⟩:=lj hs.v;obtain⟨p5,q5⟩:=lj hs.d;have L:∀u v:ByteArray,(bl u).length<=200000->(bl v).length<=200000->lim (fa u) (fa v):=λu v h1 h2=>zf (by omega);rw[xh,aay]at hf;simp only[IA,aal,aam,ga,hj,hk,q1,q2,q5,Ea (l:=l) (by omega)];refine⟨?_,?_⟩
   .simp only[hi,p1,p2,p5,true_and,and_true,forall_const,implies_true];refine⟨L _ _ ?_ ?_,L _ _ ?_ ?_,L _ _ ?_ ?_,L _ _ ?_ ?_,L _ _ ?_ ?_,L _ _ ?_ ?_⟩<;>(try simp only[Wd,Pb,tc,aao,aap,aay])<;>omega
   .unfold Wd;rw[XB];simp only[pj,Lk];rfl
  .have hh:cmp .lss (rows.length:Int) (ba .item rows)=false:=Ha (t:=.item);simp only[IA,aal,aam,hh];exact⟨by simp,rfl⟩
 have a2:(JA rows).o=_:=k.v;have b2:(JA rows).ob:=k.t;simp only[PA,Wq,HM,GM,mW,pcT,aal,aam,a2,ocR];exact⟨by simp[b2],trivial⟩
def Ec:List ByteArray->Option (List Int)
 |[]=>some []
 |x::r=>match jg (bl x) with
  |none=>none
  |some n=>(Ec r).map (n::·)
theorem yr:∀(l m:List ByteArray),Ec (l++m)=(Ec l).bind λa=>(Ec m).map (a++·)
 |[],m=>by simp[Ec]
 |x::l,m=>by
  rw[aaI,Ec,Ec,yr l m];cases jg (bl x) with
  |none=>rfl
  |some n=>cases Ec l with
   |none=>rfl
   |some a=>cases Ec m<;>rfl
theorem Qm:∀ {l:List ByteArray}{n:List Int},Ec l=some n->n.length=l.length
 |[],n,h=>by cases h;rfl
 |x::l,n,h=>by
  rw[Ec]at h;cases hx:jg (bl x) with
  |none=>rw[hx]at h;cases h
  |some k=>
   rw[hx]at h;cases hl:Ec l with
   |none=>rw[hl]at h;cases h
   |some a=>
    rw[hl]at h;cases h;rw[aap,aap,Qm hl]
theorem laj(a b:Int)(c:LP)(d:List LR)(e:List Time)(f:LR)(w0 w:List ByteArray)(hl:w.length<=1000000) :
  (Hx a b c d e f w0 w (ba .str w)).o=(match Ec w with|none=>.r (abK (abF a b c) d e f,(bs [110,111],()))|some n=>.x n)/\(Hx a b c d e f w0 w (ba .str w)).ob:=by
 have k:∃q,ua (λs:LB×Int=>Gx a b c d e f w0 w (ba .str w) s.1 s.2) ([],0) q/\q=(match Ec w with|none=>.r (abK (abF a b c) d e f,(bs [110,111],()))|some n=>.x n):=by
  refine la.list w (λi n=>(n,(i:Int))) (λl n=>Ec l=some n) (b0:=[]) rfl rfl (λl x r n hx hI=>?_) (λn hI=>?_)
  .obtain⟨hlen,hm,hi,hk⟩:=La (t:=.str) hx;obtain⟨n1,n2⟩:=Wai x;have hn:=Qm hI;have hj:∀y:Int,lim (ba .int n) (ba .int [y]):=λy=>Jb (t:=.int) (show n.length<1099511627776 by omega);simp only[Gx,aal,aam,ga,hk,hm,n2,Ea (l:=l) (by omega)];cases hv:jg (bl x) with
   |none=>
    refine⟨by simp[hi,n1],.inr ⟨_,rfl,?_⟩⟩;rw[hx,yr,hI,Ec,hv];rfl
   |some k=>
    refine⟨by simp[hi,n1,hj],.inl ⟨n++[k],rfl,?_⟩⟩;rw[yr,hI,Ec,hv];rfl
  .have hh:cmp .lss (w.length:Int) (ba .str w)=false:=Ha (t:=.str);simp only[Gx,aal,aam,hh];exact⟨by simp,_,rfl,by rw[hI]⟩
 obtain⟨q,k1,rfl⟩:=k;exact⟨k1.v,k1.t⟩
theorem maj(x:ByteArray)(w:List ByteArray)(hl:w.length<=1000000)(hs:∀y∈w,(bl y).length<1000000000) :
  iy (x::w)/\fy (x::w)=(match Ec w with|none=>([],false,())|some n=>(n,true,())):=by
 have k:∃q,ua (λs:LB×Int=>dy (x::w) s.1 s.2) ([],1) q/\q=(match Ec w with|none=>.r ([],(false,()))|some n=>.x n):=by
  refine la.list w (λi n=>(n,((i+1:Nat):Int))) (λl n=>Ec l=some n) (b0:=[]) rfl rfl (λl y r n hx hI=>?_) (λn hI=>?_)
  .have hlen:w.length=l.length+(r.length+1):=by rw[hx];simp
   have hr:x::w=(x::l)++y::r:=by rw[hx];rfl
   have ho:rd .str (x::w) ((l.length+1:Nat):Int)=y:=by rw[hr];exact Ki (t:=.str) (l:=x::l)
   have hi:inb ((l.length+1:Nat):Int) (ba .str (x::w)):=by rw[hr];exact Li (t:=.str) (l:=x::l)
   have hj:inb ((l.length:Int)+1) (ba .str (x::w)):=hi;have hm:cmp .lss ((l.length+1:Nat):Int) (ba .str (x::w))=true:=by rw[hr];exact VE (t:=.str) (l:=x::l)
   obtain⟨n1,n2⟩:=uY y (hs y (by rw[hx];simp));have hn:=Qm hI;have hk:∀y:Int,lim (ba .int n) (ba .int [y]):=λy=>Jb (t:=.int) (show n.length<1099511627776 by omega);have hp:ar .add .i64 ((l.length+1:Nat):Int) 1=((l.length+1+1:Nat):Int):=Ea (l:=x::l) (by simp;omega);simp only[dy,aal,aam,ga,hm,ho,n2,hp];rcases Sai (bl y) with⟨h1,h2⟩|⟨k,h1,h2⟩
   .rw[h2];refine⟨by simp[hj,n1],.inr ⟨_,rfl,?_⟩⟩;rw[hx,yr,hI,Ec,h1];rfl
   .rw[h2];refine⟨by simp[hj,n1,hk],.inl ⟨n++[k],rfl,?_⟩⟩;rw[yr,hI,Ec,h1];rfl
  .have hh:cmp .lss ((w.length+1:Nat):Int) (ba .str (x::w))=false:=Ha (t:=.str) (l:=x::w);simp only[dy,aal,aam,hh];exact⟨by simp,_,rfl,by rw[hI]⟩
 obtain⟨q,k1,hq⟩:=k;have a2:(ey (x::w)).o=q:=k1.v;have b2:(ey (x::w)).ob:=k1.t;simp only[iy,fy,SJ,RJ,YU,pcT,aal,aam,a2,hq];cases Ec w<;>exact⟨by simp[b2],rfl⟩
def Hb:List Int->List Time
 |a::b::r=>⟨a,b⟩::Hb r
 |_=>[]
theorem Rm:∀n:List Int,(Hb n).length=n.length / 2
 |[]=>rfl
 |[_]=>by simp[Hb]
 |_::_::r=>by
  rw[Hb,aap,Rm r,aap,aap];omega
theorem jO:∀ {n:List Int}{l r:List Time}{x:Time},Hb n=l++x::r->n[2*l.length]? = some x.A/\n[2*l.length+1]? = some x.B
 |[],l,r,x,h=>by cases l<;>cases h
 |[_],l,r,x,h=>by cases l<;>cases h
 |a::b::n,[],r,x,h=>by
  rw[Hb]at h;cases h;exact⟨rfl,rfl⟩
 |a::b::n,y::l,r,x,h=>by
  rw[Hb,aaI,abb]at h;obtain⟨h1,h2⟩:=jO h.2;rw[aap];exact⟨by rw[<-h1,show 2*(l.length+1)=2*l.length+1+1 by omega];rfl,by rw[<-h2,show 2*(l.length+1)+1=2*l.length+1+1+1 by omega];rfl⟩
theorem naj(a b:Int)(c:LP)(d:List LR)(e:List Time)(f:LR){n:List Int}(hl:n.length<=1000000)(h2:n.length % 2=0) :
  (tx n a b c d e f).o=.x (Hb n)/\(tx n a b c d e f).ob:=by
 have hlen:=Rm n
 have k:ua (λs:(List Time)×Int=>rx n a b c d e f s.1 s.2) ([],0) (.x (Hb n)):=by
  refine la.fold (Hb n) (λi b=>(b,((2*i:Nat):Int))) (λl=>l) rfl (λl x r hx=>?_) ?_
  .have hk:(Hb n).length=l.length+(r.length+1):=by rw[hx];simp
   obtain⟨g1,g2⟩:=jO hx;obtain⟨r1,i1⟩:=ej (t:=.int) g1;obtain⟨r2,i2⟩:=ej (t:=.int) g2;have hj:cmp .lss ((2*l.length:Nat):Int) (ba .int n)=true:=by rw[Ra];exact decide_eq_true i1.2
   have hm:ar .add .i64 ((2*l.length:Nat):Int) 1=((2*l.length+1:Nat):Int):=by rw[ub (by omega)];omega
   have hn:ar .add .i64 ((2*l.length:Nat):Int) 2=((2*(l.length+1):Nat):Int):=by rw[ub (by omega)];omega
   have hi:∀y:Time,lim (ba .time l) (ba .time [y]):=λy=>Jb (t:=.time) (show l.length<1099511627776 by omega);simp only[rx,aal,aam,ga,hj,hm,hn,r1,r2];exact⟨⟨λ_=>⟨⟨i1,i2,hi _,trivial⟩,trivial⟩,λh=>nomatch h⟩,rfl⟩
  .have hh:cmp .lss ((2*(Hb n).length:Nat):Int) (ba .int n)=false:=by rw[Ra];exact decide_eq_false (by unfold ba;omega)
   simp only[rx,aal,aam,hh];exact⟨by simp,rfl⟩
 exact⟨k.v,k.t⟩
theorem oaj{n:List Int}(hl:n.length<=1000000):vA n/\Uq n=Hb n:=by
 have hlen:=Rm n
 have k:ua (λs:(List Time)×Int=>tA n s.1 s.2) ([],0) (.x (Hb n)):=by
  refine la.fold (Hb n) (λi b=>(b,((2*i:Nat):Int))) (λl=>l) rfl (λl x r hx=>?_) ?_
  .have hk:(Hb n).length=l.length+(r.length+1):=by rw[hx];simp
   obtain⟨g1,g2⟩:=jO hx;obtain⟨r1,i1⟩:=ej (t:=.int) g1;obtain⟨r2,i2⟩:=ej (t:=.int) g2;have hm:ar .add .i64 ((2*l.length:Nat):Int) 1=((2*l.length+1:Nat):Int):=by rw[ub (by omega)];omega
   have hn:ar .add .i64 ((2*l.length:Nat):Int) 2=((2*(l.length+1):Nat):Int):=by rw[ub (by omega)];omega
   have hj:cmp .lss ((2*l.length+1:Nat):Int) (ba .int n)=true:=by rw[Ra];exact decide_eq_true i2.2
   have hi:∀y:Time,lim (ba .time l) (ba .time [y]):=λy=>Jb (t:=.time) (show l.length<1099511627776 by omega);simp only[tA,aal,aam,ga,hm,hj,hn,r1,r2];exact⟨⟨λ_=>⟨⟨i1,i2,hi _,trivial⟩,trivial⟩,λh=>nomatch h⟩,rfl⟩
  .have hm:ar .add .i64 ((2*(Hb n).length:Nat):Int) 1=((2*(Hb n).length+1:Nat):Int):=by rw[ub (by omega)];omega
   have hh:cmp .lss ((2*(Hb n).length+1:Nat):Int) (ba .int n)=false:=by rw[Ra];exact decide_eq_false (by unfold ba;omega)
   simp only[tA,aal,aam,hm,hh];exact⟨by simp,rfl⟩
 have a2:(uA n).o=_:=k.v;have b2:(uA n).ob:=k.t;simp only[vA,Uq,vM,uM,iW,pcT,aal,aam,a2,ocR];exact⟨by simp[b2],trivial⟩
end
end Go.Proofs.YteogppapbognjaaGreatDoor
