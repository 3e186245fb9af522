/-
  A line: both sides do the same. A line, by the reference. A script: both sides run it alike. No statement is proved here.
-/
import Derived.Test.YteogppapbognjaaGreatDoorB2
import Derived.KernelRfl
import Derived.Shelf.Strings.Builder1
import Derived.Lib.AppendStr
import Derived.WalkKit
import Derived.Lib.Walk
import Derived.Shelf.RegionOpenPlain
namespace Go.Proofs.YteogppapbognjaaGreatDoor
open Go
open _root_.ByteArray renaming empty→aal,size_append→aaV
open _root_.List renaming length_append→aam,length_nil→aan,length_cons→aao,mem_singleton→aaw,mem_singleton_self→aaB,dropLast_concat_getLast→aaF,getD_eq_getElem?_getD→aaM,foldl_append→aaN,length_drop→aaO,getElem?_eq_getElem→aaP,length_map→aaQ,length_singleton→aaS,range→aaX,map_cons→aaY
open Go.Proofs.YteogppapbognjaaGreatDoor.Tr renaming val→aap,ob→aat
open _root_.Array renaming getElem?_eq_some_iff→aaq,getElem?_modify→aaT
open _root_.Bool renaming and_eq_true→aar,true_eq_false→aaH,false_eq_true→aaI
open Go.Proofs.Tryz renaming prog→aas
open Go.Lib renaming IsBuilder→aau,BuilderAt→aaz,cell_of_heap→aaD,byteCells→aaL
open Go renaming run_underlying→aav,wpOps_cons→aaE,Program→aaW
open Go.Proofs.YteogppapbognjaaGreatDoor.Time renaming mk→aax
open _root_.Nat renaming eq_of_beq_eq_true→aay,le_refl→aaA,beq→aaU,lt_of_lt_of_le→aaZ
open Go.World renaming cell?→aaC,setCell→aaK
open Go.Proofs.YteogppapbognjaaGreatDoor.MS renaming regD→aaG
open _root_.Int renaming tmod_eq_emod_of_nonneg→aaJ
open Go.Proofs.YteogppapbognjaaGreatDoor.Row renaming mk→aaR
open Go.Deferred renaming ofValue→aba
set_option maxRecDepth 100000
section
open Go Tg
abbrev noW:ByteArray:=bs [110,111]
noncomputable def inV(s:Sess)(n:List Int):Sess×ByteArray:=
 match inS s (rd .int n 0) [aaR (rd .int n 1) (rd .int n 2) (aax (rd .int n 3) (rd .int n 4)) (rd .int n 5)] with
 |some x=>(x,bs [105,110])
 |none=>(s,noW)
noncomputable def onL(s:Sess)(n:List Int):Sess×ByteArray:=cond (vh s (Hb n)) (onS s (Hb n),Vd (qf s (Hb n)) (bs [116,111,108,100])) (s,noW)
noncomputable def atL(s:Sess)(n:List Int):Sess×ByteArray:=cond (Xb s&&(xa (aax (rd .int n 0) (rd .int n 1))&&!Ma s.Front (aax (rd .int n 0) (rd .int n 1)))) (s,Wd (qc s.Told (aax (rd .int n 0) (rd .int n 1))) (bs [116,104,101,114,101])) (s,noW)
noncomputable def YB(s:Sess)(x:ByteArray)(w:List ByteArray):Sess×ByteArray:=
 match Ec w with
 |none=>(s,noW)
 |some n=>
  if x=bs [105,110]/\n.length=6 then inV s n
  else if x=bs [111,110]/\n.length % 2=0 then onL s n
  else if x=bs [97,116]/\n.length=2 then atL s n
  else(s,bs [119,104,97,116])
abbrev Tm:List UInt8:=[112,108,97,110,32]
def yh(l:List UInt8):Bool:=Tm.isPrefixOf l&&decide (5<l.length)
noncomputable def Af(s:Sess)(t:ByteArray):Sess×ByteArray:=cond (yh (bl t)) (match Ud (mkB ((bl t).drop 5)) with
  |some p=>(Nk p,bs [112,108,97,110])
  |none=>(s,noW)) (YB s (((spl 32 (bl t)).map mkB).headD aal) ((spl 32 (bl t)).map mkB).tail)
theorem paj{x:Row}(h:Mb x=true):SmR x:=by
 unfold Mb at h;have h:=of_decide_eq_true h;constructor<;>unfold sm9<;>omega
theorem ZB{s:Sess}{f:List Time}(h:vh s f=true):∀x∈qf s f,SmR x:=λx hx=>by
 obtain⟨y,hy⟩:=Xai h;exact paj ((Eo hy.flow.batch).2.2 x ((Yai hy).subset hx))
theorem aC{a:List Row}(h:Nb a=true)(t:Time):∀x∈qc a t,SmI x:=λx hx=>by
 have k:=Wt h t;have k1:=k.kv x hx;have k2:=k.cnt x hx;constructor<;>unfold sm9<;>omega
structure zr(v:Sess×ByteArray):Prop where
 sm:Sm v.1
 len:(bl v.2).length<=100100
theorem qaj{s:Sess}(hs:Sm s)(n:List Int):zr (inV s n):=by
 unfold inV;split
 .rename_i x h;exact⟨caj hs h,by show(2:Nat)<=_;omega⟩
 .exact⟨hs,by show(2:Nat)<=_;omega⟩
theorem raj{s:Sess}(hs:Sm s){n:List Int}(hn:n.length<=2000):zr (onL s n):=by
 unfold onL;cases h:vh s (Hb n) with
 |false=>exact⟨hs,by show(2:Nat)<=_;omega⟩
 |true=>
  refine⟨baj hs (by rw[Rm];omega),?_⟩;have h1:=mi (f:=nj) (qf s (Hb n)) (bs [116,111,108,100]) λx hx=>VB (ZB h x hx);have h2:=gO s (Hb n);have h3:(bl (bs [116,111,108,100])).length=4:=rfl;show(bl (Vd (qf s (Hb n)) (bs [116,111,108,100]))).length<=_;unfold Vd;omega
theorem saj{s:Sess}(hs:Sm s)(n:List Int):zr (atL s n):=by
 unfold atL;generalize aax (rd .int n 0) (rd .int n 1)=t;cases h:(Xb s&&(xa t&&!Ma s.Front t)) with
 |false=>exact⟨hs,by show(2:Nat)<=_;omega⟩
 |true=>
  simp only[aar]at h;refine⟨hs,?_⟩;have hr:=SB h.1;have h1:=mi (f:=pj) (qc s.Told t) (bs [116,104,101,114,101]) λx hx=>WB (aC hr t x hx);have h2:=(Wt hr t).len;have h3:(bl (bs [116,104,101,114,101])).length=5:=rfl;show(bl (Wd (qc s.Told t) (bs [116,104,101,114,101]))).length<=_;unfold Wd;omega
theorem Ar(p:Plan):Sm (Nk p):=⟨by show(2:Nat)<=_;omega,λa ha=>by
 have:a=[]:=by
  simp only[Nk,List.mem_cons,List.not_mem_nil,or_false]at ha;rcases ha with h|h<;>exact h
 rw[this];simp,by show(1:Nat)<=_;omega,by show(0:Nat)<=_;omega⟩
theorem kO{t:ByteArray}(ht:(bl t).length<=2000):((spl 32 (bl t)).map mkB).length<=2001:=by
 have:=Hm 32 (bl t);rw[aaQ];omega
theorem taj{t:ByteArray}(ht:(bl t).length<=2000):∀x∈(spl 32 (bl t)).map mkB,(bl x).length<1000000000:=λx hx=>by
 obtain⟨y,hy,rfl⟩:=List.mem_map.1 hx;have:=Om hy;rw[vf];omega
theorem lO{s:Sess}(hs:Sm s){t:ByteArray}(ht:(bl t).length<=2000):zr (Af s t):=by
 have no:zr (s,noW):=⟨hs,by show(2:Nat)<=_;omega⟩;unfold Af;cases yh (bl t) with
 |true=>
  simp only[cond_true];split
  .exact⟨Ar _,by show(4:Nat)<=_;omega⟩
  .exact no
 |false=>
  have hw:=kO ht;simp only[cond_false,YB];split
  .exact no
  .rename_i n hn;have hl:=Qm hn;rw[List.length_tail]at hl;split
   .exact qaj hs n
   .split
    .exact raj hs (by omega)
    .split
     .exact saj hs n
     .exact⟨hs,by show(4:Nat)<=_;omega⟩
theorem uaj(s:Sess){t:ByteArray}(ht:(bl t).length<=2000):Zu s t/\Yu s t=(match Ud t with
  |some p=>(Nk p,bs [112,108,97,110],())
  |none=>(s,noW,())):=by
 obtain⟨a1,a2⟩:=Jai t (by omega);simp only[Zu,Yu,VG,aap,aat,ga,a2,sE,Td];cases h:Ud t with
 |none=>exact⟨by simp[a1,Nm],rfl⟩
 |some p=>
  obtain⟨b1,b2⟩:=yY p;rw[if_pos (Mm h).1]at b2;simp only[Nm,Ob,pE,b2];exact⟨by simp[a1,b1],rfl⟩
theorem JY{s:Sess}(hs:Sm s){n:List Int}(hn:n.length=6):Up s n/\Zw s n=((inV s n).1,(inV s n).2,()):=by
 have hh:∀i,0<=i/\i<6->inb i (ba .int n):=λi hi=>by unfold inb ba;omega
 obtain⟨a1,a2⟩:=jah hs (rd .int n 0) (rows:=[aaR (rd .int n 1) (rd .int n 2) (aax (rd .int n 3) (rd .int n 4)) (rd .int n 5)]) (by simp);simp only[Up,Zw,fJ,Yw,dJ,pcT,aap,aat,ga,sE,Td,a2,inV];cases inS s (rd .int n 0) [aaR (rd .int n 1) (rd .int n 2) (aax (rd .int n 3) (rd .int n 4)) (rd .int n 5)] with
 |none=>exact⟨by simp[a1,hh,cg],rfl⟩
 |some x=>exact⟨by simp[a1,hh,cg],rfl⟩
theorem LY{s:Sess}(hs:Sm s){n:List Int}(hn:n.length<=2000)(h2:n.length % 2=0):Vp s n/\zx s n=((onL s n).1,(onL s n).2,()):=by
 obtain⟨t1,t2⟩:=naj s.Plan.Kind s.Plan.Num s.Plan.Kids s.Ins s.Front s.Told (n:=n) (by omega) h2;obtain⟨o1,o2⟩:=qah hs (f:=Hb n) (by rw[Rm];omega);simp only[Vp,zx,pJ,nJ,LU,oJ,MU,pcT,aap,aat,ga,t1,sE,Td,o2];simp only[onV,onL];cases h:vh s (Hb n) with
 |false=>exact⟨by simp[t2,o1,o2,onV,h],rfl⟩
 |true=>
  have hl:=gO s (Hb n);obtain⟨r1,r2⟩:=gaj (onS s (Hb n)).Plan.Kind (onS s (Hb n)).Plan.Num (onS s (Hb n)).Plan.Kids (onS s (Hb n)).Ins (onS s (Hb n)).Front (onS s (Hb n)).Told (bs [116,111,108,100]) (ZB h) (by show(4:Nat)<=_;omega) (by omega);simp only[cond_true,r1];exact⟨by simp[t2,o1,o2,onV,h,r2],rfl⟩
theorem MY{s:Sess}(hs:Sm s){n:List Int}(hn:n.length=2):Wp s n/\Ex s n=((atL s n).1,(atL s n).2,()):=by
 have hh:∀i,0<=i/\i<2->inb i (ba .int n):=λi hi=>by unfold inb ba;omega
 obtain⟨a1,a2⟩:=eaj hs (aax (rd .int n 0) (rd .int n 1));simp only[Wp,Ex,uJ,tJ,NU,pcT,aap,aat,ga,sE,Td,a2,atV,atL];generalize aax (rd .int n 0) (rd .int n 1)=t at a1 a2⊢;cases h:(Xb s&&(xa t&&!Ma s.Front t)) with
 |false=>exact⟨by simp[a1,hh],rfl⟩
 |true=>
  simp only[aar]at h;have hr:=SB h.1;have hl:=(Wt hr t).len;obtain⟨r1,r2⟩:=jaj s.Plan.Kind s.Plan.Num s.Plan.Kids s.Ins s.Front s.Told (bs [116,104,101,114,101]) (aC hr t) (by show(5:Nat)<=_;omega) (by omega);simp only[cond_true,r1];exact⟨by simp[a1,hh,r2],rfl⟩
theorem vaj(t:ByteArray):cond (Jk t (bs [112,108,97,110,32])).2.1 (!(seq (Jk t (bs [112,108,97,110,32])).1 aal)) false=yh (bl t) /\
  (yh (bl t)=true->(Jk t (bs [112,108,97,110,32])).1=mkB ((bl t).drop 5)):=by
 have h1:(Jk t (bs [112,108,97,110,32])).2.1=Tm.isPrefixOf (bl t):=rfl;have h2:(Jk t (bs [112,108,97,110,32])).1=mkB (if Tm.isPrefixOf (bl t) then(bl t).drop 5 else bl t):=rfl;rw[h1,h2,fg];unfold yh;cases Tm.isPrefixOf (bl t) with
 |false=>exact⟨rfl,λh=>nomatch h⟩
 |true=>
  refine⟨?_,λ_=>rfl⟩;simp only[cond_true,if_true,Bool.true_and]
  have:(mkB ((bl t).drop 5)=aal)↔¬ 5<(bl t).length:=by
   constructor
   .intro h;have:=congrArg (λx=>(bl x).length) h;simp only[vf,aaO,xh,aan]at this;omega
   .intro h;rw[List.drop_eq_nil_of_le (by omega)];rfl
  rw[Bool.eq_iff_iff];simp only[Bool.not_eq_true',decide_eq_false_iff_not,decide_eq_true_eq,this,Classical.not_not]
theorem NY{s:Sess}(hs:Sm s){t:ByteArray}(ht:(bl t).length<=2000):Xi s t/\sc s t=((Af s t).1,(Af s t).2,()):=by
 obtain⟨c1,c2⟩:=vaj t;obtain⟨s1,s2⟩:=split_ok (s:=t) 32 (by omega);have hw:=kO ht;simp only[Xi,sc,yJ,aap,aat,ga,c1,s2,sE,Td];cases hp:yh (bl t) with
 |true=>
  obtain⟨p1,p2⟩:=uaj s (t:=mkB ((bl t).drop 5)) (by rw[vf,aaO];omega);simp only[c2 hp,p2,Af,hp,cond_true];refine⟨by simp[ir,p1],?_⟩;cases Ud (mkB ((bl t).drop 5))<;>rfl
 |false=>
  simp only[Af,hp,cond_false];cases hsp:(spl 32 (bl t)).map mkB with
  |nil=>
   have:=congrArg List.length hsp;rw[aaQ,aan]at this;exact absurd (List.eq_nil_of_length_eq_zero this) (pr 32 (bl t))
  |cons x w=>
   rw[hsp]at hw;rw[aao]at hw;obtain⟨n1,n2⟩:=laj s.Plan.Kind s.Plan.Num s.Plan.Kids s.Ins s.Front s.Told (x::w) w (by omega);have hh:inb 0 (ba .str (x::w)):=⟨by omega,by show(0:Int)<((w.length+1:Nat):Int);omega⟩;have hi:le3 1 (ba .str (x::w)) (ba .str (x::w)):=⟨by omega,by show(1:Int)<=((w.length+1:Nat):Int);omega,Int.le_refl _⟩;have hd:List.drop (Int.toNat 1) (x::w)=w:=rfl;have hj:rd .str (x::w) 0=x:=rfl;simp only[xJ,PU,pcT,aap,aat,ga,hd,n1,hj,List.tail_cons,List.headD_cons,Td];unfold YB;cases hn:Ec w with
   |none=>exact⟨by simp[ir,s1,n2,hi],rfl⟩
   |some n=>
    have hl:=Qm hn;have e6:cmp .eql (ba .int n) 6=decide (n.length=6):=by rw[mb];exact decide_eq_decide.2 (by unfold ba;omega)
    have e2:cmp .eql (ba .int n) 2=decide (n.length=2):=by rw[mb];exact decide_eq_decide.2 (by unfold ba;omega)
    have er:cmp .eql (ar .rem .i64 (ba .int n) 2) 0=decide (n.length % 2=0):=by
     rw[mb,Xj,aaJ (by unfold ba;omega)];exact decide_eq_decide.2 (by unfold ba;omega)
    have ca:∀(A B:Prop) [Decidable A] [Decidable B],cond (decide A) (decide B) false=decide (A/\B):=λA B _ _=>by
     by_cases h:A<;>simp[h]
    have g1:x=bs [105,110]->n.length=6->Up s n:=λ_ h=>(JY hs h).1;have g2:x=bs [111,110]->n.length % 2=0->Vp s n:=λ_ h=>(LY hs (by omega) h).1;have g3:x=bs [97,116]->n.length=2->Wp s n:=λ_ h=>(MY hs h).1;refine⟨by simp[ir,s1,n2,hi,hh,fg,e6,e2,er];exact⟨g1,λ_=>⟨g2,λ_=>g3⟩⟩,?_⟩;simp only[fg,e6,e2,er,ca];by_cases h1:x=bs [105,110]/\n.length=6
    .simp only[decide_eq_true h1,if_pos h1,(JY hs h1.2).2];rfl
    .simp only[decide_eq_false h1,if_neg h1];by_cases h2:x=bs [111,110]/\n.length % 2=0
     .simp only[decide_eq_true h2,if_pos h2,(LY hs (n:=n) (by omega) h2.2).2];rfl
     .simp only[decide_eq_false h2,if_neg h2];by_cases h3:x=bs [97,116]/\n.length=2
      .simp only[decide_eq_true h3,if_pos h3,(MY hs h3.2).2];rfl
      .simp only[decide_eq_false h3,if_neg h3];rfl
theorem waj{l x:List UInt8}{w:List (List UInt8)}(h:spl 32 l=x::w)(hl:5<l.length):x=[112,108,97,110]↔Tm.isPrefixOf l=true:=by
 rw[List.isPrefixOf_iff_prefix];constructor
 .rintro rfl;by_cases h0:(32:UInt8)∈l
  .obtain⟨a,r,rfl,ha⟩:=List.eq_append_cons_of_mem h0;rw[ii ha]at h;cases h;exact⟨r,rfl⟩
  .rw[PN h0]at h;cases h;simp at hl
 .rintro⟨r,rfl⟩;have e:Tm++r=[112,108,97,110]++32::r:=rfl;rw[e,ii (by decide)]at h;cases h;rfl
theorem xaj{s:Sess}(hs:Sm s)(n:List Int):Tq s (rd .int n 0) [aaR (rd .int n 1) (rd .int n 2) (aax (rd .int n 3) (rd .int n 4)) (rd .int n 5)] /\
  Sq s (rd .int n 0) [aaR (rd .int n 1) (rd .int n 2) (aax (rd .int n 3) (rd .int n 4)) (rd .int n 5)]=cg (inS s (rd .int n 0) [aaR (rd .int n 1) (rd .int n 2) (aax (rd .int n 3) (rd .int n 4)) (rd .int n 5)]):=iah hs _ (by simp)
theorem yaj(l:List Row)(a:ByteArray):a++Vd l aal=Vd l a:=by
 unfold Vd;rw[<-iO,zB]
theorem zaj(l:List Item)(a:ByteArray):a++Wd l aal=Wd l a:=by
 unfold Wd;rw[<-iO,zB]
theorem Aaj{s:Sess}(hs:Sm s){t:ByteArray}(ht:(bl t).length<=2000):ZA s t/\YA s t=((Af s t).1,(Af s t).2,()):=by
 obtain⟨s1,s2⟩:=XN t 32 (by omega);have s1:Xh t 32:=s1;have s2:Wh t 32=(spl 32 (bl t)).map mkB:=s2;have hw:=kO ht;have hm:=taj ht;have hz:=uc t;simp only[ZA,YA,PM,aap,aat,ga,s2,sE,Td];cases hsp:spl 32 (bl t) with
 |nil=>exact absurd hsp (pr 32 (bl t))
 |cons x w=>
  rw[hsp]at hw hm;simp only[aaY]at hw hm⊢;generalize hW:w.map mkB=W at hw hm;rw[aao]at hw;have hj:inb 0 (ba .str (mkB x::W)):=⟨by omega,by show(0:Int)<((W.length+1:Nat):Int);omega⟩;have ha:rd .str (mkB x::W) 0=mkB x:=rfl
  have ca:∀(A B:Prop) [Decidable A] [Decidable B],cond (decide A) (decide B) false=decide (A/\B):=λA B _ _=>by
   by_cases h:A<;>simp[h]
  have hv:cond (seq (mkB x) (bs [112,108,97,110])) (cmp .gtr (fa t) 5) false=yh (bl t):=by
   rw[fg,Lb,ca,hz];unfold yh;by_cases hl:5<(bl t).length
   .rw[Bool.eq_iff_iff];have e:mkB x=bs [112,108,97,110]↔x=[112,108,97,110]:=⟨λh=>congrArg bl h,λh=>by rw[h];rfl⟩;simp only[decide_eq_true_eq,aar,e,waj hsp hl];constructor
    .rintro⟨h1,_⟩;exact⟨h1,hl⟩
    .rintro⟨h1,_⟩;exact⟨h1,by omega⟩
   .rw[decide_eq_false hl,Bool.and_false];exact decide_eq_false (λh=>hl (by have:=h.2;omega))
  simp only[ha,hv];cases hp:yh (bl t) with
  |true=>
   have h5:5<(bl t).length:=by
    unfold yh at hp;simp only[aar,decide_eq_true_eq]at hp;exact hp.2
   have hc:Jc t 5 (fa t)=mkB ((bl t).drop 5):=Mg (by rw[nr,hz,vf];simp);have hq:le3 5 (fa t) (fa t):=⟨by omega,by omega,Int.le_refl _⟩;obtain⟨l1,l2⟩:=Kai (mkB ((bl t).drop 5)) (by rw[vf,aaO];omega);obtain⟨n1,n2⟩:=zY (Nm (Ud (mkB ((bl t).drop 5)))).1;simp only[hc,l2,Ob,pE,n2,Af,hp,cond_true];cases hr:Ud (mkB ((bl t).drop 5)) with
   |none=>
    rw[hr]at n1;exact⟨by simp[s1,hj,hq,l1];exact n1,rfl⟩
   |some p=>
    rw[hr]at n1;simp only[Nm,(Mm hr).1];exact⟨by simp[s1,hj,hq,l1];exact n1,rfl⟩
  |false=>
   obtain⟨n1,n2⟩:=maj (mkB x) W (by omega) (λy hy=>hm y (by simp[hy]));simp only[Af,hp,cond_false,hsp,aaY,hW,List.tail_cons,List.headD_cons,n2];unfold YB;cases hn:Ec W with
   |none=>exact⟨by simp[s1,hj,n1],rfl⟩
   |some n=>
    have hl:=Qm hn;have e6:cmp .eql (ba .int n) 6=decide (n.length=6):=by rw[mb];exact decide_eq_decide.2 (by unfold ba;omega)
    have e2:cmp .eql (ba .int n) 2=decide (n.length=2):=by rw[mb];exact decide_eq_decide.2 (by unfold ba;omega)
    have er:cmp .eql (ar .rem .i64 (ba .int n) 2) 0=decide (n.length % 2=0):=by
     rw[mb,Xj,aaJ (by unfold ba;omega)];exact decide_eq_decide.2 (by unfold ba;omega)
    simp only[fg,e6,e2,er,ca];by_cases h1:mkB x=bs [105,110]/\n.length=6
    .have ho:∀i,0<=i/\i<6->inb i (ba .int n):=λi hi=>by unfold inb ba;omega
     obtain⟨i1,i2⟩:=xaj hs n;simp only[decide_eq_true h1,if_pos h1,SA,JM,pcT,aap,aat,ga,Td,i2,inV];cases inS s (rd .int n 0) [aaR (rd .int n 1) (rd .int n 2) (aax (rd .int n 3) (rd .int n 4)) (rd .int n 5)] with
     |none=>exact⟨by simp[s1,hj,n1,ho,i1,cg],rfl⟩
     |some y=>exact⟨by simp[s1,hj,n1,ho,i1,cg],rfl⟩
    .simp only[decide_eq_false h1,if_neg h1];by_cases h2:mkB x=bs [111,110]/\n.length % 2=0
     .obtain⟨t1,t2⟩:=oaj (n:=n) (by omega);obtain⟨o1,o2⟩:=pah hs (f:=Hb n) (by rw[Rm];omega);simp only[decide_eq_true h2,if_pos h2,VA,MM,WA,NM,pcT,aap,aat,ga,Td,t2,o2,onV,onL];cases h:vh s (Hb n) with
      |false=>exact⟨by simp[s1,hj,n1,t1,o1],rfl⟩
      |true=>
       have hh:=gO s (Hb n);obtain⟨r1,r2⟩:=iaj (ZB h) (by omega);have h1:=mi (f:=nj) (qf s (Hb n)) aal λx hx=>VB (ZB h x hx)
       have hu:lim (fa (bs [116,111,108,100])) (fa (Vd (qf s (Hb n)) aal)):=zf (by
        unfold Vd;rw[xh,aan]at h1;have h3:(bl (bs [116,111,108,100])).length=4:=rfl;omega)
       simp only[cond_true,r2,yaj];exact⟨by simp[s1,hj,n1,t1,o1,r1,r2,hu],rfl⟩
     .simp only[decide_eq_false h2,if_neg h2];by_cases h3:mkB x=bs [97,116]/\n.length=2
      .have hk:∀i,0<=i/\i<2->inb i (ba .int n):=λi hi=>by unfold inb ba;omega
       obtain⟨a1,a2⟩:=faj hs (aax (rd .int n 0) (rd .int n 1));simp only[decide_eq_true h3,if_pos h3,XA,OM,pcT,aap,aat,ga,a2,atV,atL];generalize aax (rd .int n 0) (rd .int n 1)=u at a1 a2⊢;cases h:(Xb s&&(xa u&&!Ma s.Front u)) with
       |false=>exact⟨by simp[s1,hj,n1,hk,a1],rfl⟩
       |true=>
        simp only[aar]at h;have hr:=SB h.1;have hq:=(Wt hr u).len;obtain⟨r1,r2⟩:=kaj (aC hr u) (by omega);have h1:=mi (f:=pj) (qc s.Told u) aal λx hx=>WB (aC hr u x hx)
        have hu:lim (fa (bs [116,104,101,114,101])) (fa (Wd (qc s.Told u) aal)):=zf (by
         unfold Wd;rw[xh,aan]at h1;have h3:(bl (bs [116,104,101,114,101])).length=5:=rfl;omega)
        simp only[cond_true,r2,zaj];exact⟨by simp[s1,hj,n1,hk,a1,r1,hu],rfl⟩
      .simp only[decide_eq_false h3,if_neg h3];exact⟨by simp[s1,hj,n1],rfl⟩
noncomputable def Ng(v:Sess×ByteArray)(l:ByteArray):Sess×ByteArray:=if l=aal then v else((Af v.1 l).1,v.2++((Af v.1 l).2++bs [10]))
noncomputable def Se(v:Sess×ByteArray)(w:List ByteArray):Sess×ByteArray:=w.foldl Ng v
theorem Br:∀(w:List ByteArray) {v:Sess×ByteArray},Sm v.1->(∀l∈w,(bl l).length<=2000)->Sm (Se v w).1/\(bl (Se v w).2).length<=(bl v.2).length+100101*w.length
 |[],_,h,_=>⟨h,by simp[Se]⟩
 |l::w,v,h,hw=>by
  have hl:=hw l (by simp)
  have hs:Sm (Ng v l).1/\(bl (Ng v l).2).length<=(bl v.2).length+100101:=by
   unfold Ng;split
   .exact⟨h,by omega⟩
   .have k:=lO h hl;refine⟨k.sm,?_⟩;have h3:(bl (bs [10])).length=1:=rfl;have:=k.len;simp only[Pb,aam];omega
  obtain⟨i1,i2⟩:=Br w hs.1 λy hy=>hw y (by simp[hy]);refine⟨i1,?_⟩;rw[aao];show(bl (Se (Ng v l) w).2).length<=_;have:=hs.2;omega
theorem Baj(v:Sess×ByteArray)(a b:List ByteArray):Se v (a++b)=Se (Se v a) b:=aaN
theorem PY{v:Sess×ByteArray}(hv:Sm v.1){l:ByteArray}(hl:(bl l).length<=2000):Pc v l=Ng v l:=by
 unfold Pc Ng;rw[fg,sE,Td,(NY hv hl).2];by_cases h:l=aal
 .rw[decide_eq_true h,if_pos h];rfl
 .rw[decide_eq_false h,if_neg h];rfl
theorem QY:∀(w:List ByteArray) {v:Sess×ByteArray},Sm v.1->(∀l∈w,(bl l).length<=2000)->w.foldl Pc v=Se v w
 |[],_,_,_=>rfl
 |l::w,v,h,hw=>by
  have hl:=hw l (by simp);have e:=PY h hl;have k:=(Br [l] h λy hy=>hw y (by rw[aaw]at hy;rw[hy];simp)).1;rw[List.foldl_cons,e];exact QY w k λy hy=>hw y (by simp[hy])
theorem RY:∀(w:List ByteArray) {s:Sess},Sm s->(∀l∈w,(bl l).length<=2000)->Xp s w
 |[],_,_,_=>trivial
 |l::w,s,h,hw=>by
  have hl:=hw l (by simp);obtain⟨a1,a2⟩:=NY h hl;refine⟨λ_=>?_,?_⟩
  .rw[sE,Td,a2];have:=(lO h hl).len;have h3:(bl (bs [10])).length=1:=rfl;exact⟨a1,zf (by simp only[];omega)⟩
  .rw[PY (v:=(s,aal)) h hl];exact RY w (Br [l] (v:=(s,aal)) h λy hy=>hw y (by rw[aaw]at hy;rw[hy];simp)).1 λy hy=>hw y (by simp[hy])
abbrev s0:Sess:=Nk ⟨1,0,[]⟩
noncomputable def Qk(t:ByteArray):ByteArray:=(Se (s0,aal) ((spl 10 (bl t)).map mkB)).2
noncomputable def Cr(t:ByteArray):ByteArray:=if(bl t).length<=2000 then Qk t else bs [116,111,111,32,108,111,110,103,10]
theorem SY:okM 4 ⟨1,0,[]⟩=true:=by decide
theorem mO{t:ByteArray}(ht:(bl t).length<=2000):∀x∈(spl 10 (bl t)).map mkB,(bl x).length<=2000:=λx hx=>by
 obtain⟨y,hy,rfl⟩:=List.mem_map.1 hx;have:=Om hy;rw[vf];omega
theorem nO{t:ByteArray}(ht:(bl t).length<=2000):((spl 10 (bl t)).map mkB).length<=2001:=by
 have:=Hm 10 (bl t);rw[aaQ];omega
theorem Caj{t:ByteArray}(ht:(bl t).length<=2000):(bl (Qk t)).length<=300000000:=by
 have h1:=nO ht;have h2:=(Br _ (v:=(s0,aal)) (Ar _) (mO ht)).2;have h3:(bl ((s0,aal):Sess×ByteArray).2).length=0:=rfl;unfold Qk;omega
theorem Xaj(t:ByteArray):Ix t/\xk t=Cr t:=by
 have hz:=uc t;unfold Ix xk Cr;by_cases ht:(bl t).length<=2000
 .have hg:cmp .gtr (fa t) 2000=false:=by rw[hz,Lb];exact decide_eq_false (by omega)
  obtain⟨n1,n2⟩:=yY ⟨1,0,[]⟩;rw[if_pos SY]at n2;obtain⟨p1,p2⟩:=split_ok (s:=t) 10 (by omega);have hm:=mO ht;have hl:=nO ht;rw[if_pos ht,hg,p2,n2,cond_false];simp only[];rw[QY _ (Ar _) hm];refine⟨λ_=>⟨n1,p1,by omega,RY _ (Ar _) hm,?_⟩,rfl⟩;have h1:=Caj ht;have h2:=uc (Qk t);show(Qk t).size<=_;unfold fa at h2;omega
 .have hg:cmp .gtr (fa t) 2000=true:=by rw[hz,Lb];exact decide_eq_true (by omega)
  rw[if_neg ht,hg];exact⟨(λh=>nomatch h),rfl⟩
theorem Yaj(t:ByteArray):fB t/\eB t=Cr t:=by
 have hz:=uc t;unfold Cr;by_cases ht:(bl t).length<=2000
 .have hg:cmp .gtr (fa t) 2000=false:=by rw[hz,Lb];exact decide_eq_false (by omega)
  obtain⟨n1,n2⟩:=zY ⟨1,0,[]⟩;rw[if_pos SY]at n2;obtain⟨p1,p2⟩:=XN t 10 (by omega);have p1:Xh t 10:=p1;have p2:Wh t 10=(spl 10 (bl t)).map mkB:=p2;have hm:=mO ht;have hl:=nO ht;simp only[fB,eB,dB,XM,pW,pcT,aap,aat,ga,hg,n2,p2,if_pos ht,Qk];generalize (spl 10 (bl t)).map mkB=w at hm hl⊢
  have k:ua (λs:Int×Int×LP×(List LR)×(List Time)×LR×ByteArray×Int=>bB s0.Plan.Kind s0.Plan.Num s0.Plan.Kids s0.Ins s0.Front s0.Told w s.1 s.2.1 s.2.2.1 s.2.2.2.1 s.2.2.2.2.1 s.2.2.2.2.2.1 s.2.2.2.2.2.2.1 s.2.2.2.2.2.2.2)
    (s0.Plan.Kind,s0.Plan.Num,s0.Plan.Kids,s0.Ins,s0.Front,s0.Told,aal,0) (.x (Se (s0,aal) w).2):=by
   refine la.fold w (λi (b:Sess×ByteArray)=>(b.1.Plan.Kind,b.1.Plan.Num,b.1.Plan.Kids,b.1.Ins,b.1.Front,b.1.Told,b.2,(i:Int))) (λl=>Se (s0,aal) l) rfl (λl x r hx=>?_) ?_
   .obtain⟨hlen,hn,hi,hk⟩:=La (t:=.str) hx;obtain⟨v1,v2⟩:=Br l (v:=(s0,aal)) (Ar _) λy hy=>hm y (by rw[hx];simp[hy]);have h3:(bl ((s0,aal):Sess×ByteArray).2).length=0:=rfl;have ho:Se (s0,aal) (l++[x])=Ng (Se (s0,aal) l) x:=by rw[Baj];rfl
    rw[ho];generalize Se (s0,aal) l=v at v1 v2⊢;have hp:=hm x (by rw[hx];simp);obtain⟨a1,a2⟩:=Aaj v1 hp;have hj:=(lO v1 hp).len;simp only[bB,WM,oW,aB,VM,pcT,aap,aat,ga,hk,hn,fg,Td,a2,Ea (l:=l) (by omega)];by_cases h:x=aal
    .rw[decide_eq_true h];exact⟨by simp[hi],by unfold Ng;rw[if_pos h];rfl⟩
    .rw[decide_eq_false h];have h4:(bl (bs [10])).length=1:=rfl;have l1:lim (fa v.2) (fa (Af v.1 x).2):=zf (by omega);have l2:lim (fa (v.2++(Af v.1 x).2)) (fa (bs [10])):=zf (by rw[Pb,aam];omega);exact⟨by simp[hi,a1,l1,l2],by unfold Ng;rw[if_neg h,<-Lk];rfl⟩
   .have hh:cmp .lss (w.length:Int) (ba .str w)=false:=Ha (t:=.str);simp only[bB,aap,aat,hh];exact⟨by simp,rfl⟩
  have a2:(cB s0.Plan.Kind s0.Plan.Num s0.Plan.Kids s0.Ins s0.Front s0.Told w).o=_:=k.v;have b2:(cB s0.Plan.Kind s0.Plan.Num s0.Plan.Kids s0.Ins s0.Front s0.Told w).ob:=k.t;simp only[a2,ocR];exact⟨by simp[n1,p1,b2],trivial⟩
 .have hg:cmp .gtr (fa t) 2000=true:=by rw[hz,Lb];exact decide_eq_true (by omega)
  simp only[fB,eB,dB,aap,aat,ga,hg,if_neg ht];exact⟨by simp,rfl⟩
def Bf(l:List UInt8):Prop:=l=[]\/∃a,l=a++[10]
theorem Bf.app{a b:List UInt8}(hb:∃c,b=c++[10]):Bf (a++b):=by
 obtain⟨c,rfl⟩:=hb;exact .inr ⟨a++c,by simp⟩
theorem Bf.tens{l:List UInt8}(h:∀x∈l,x=10):Bf l:=by
 by_cases h0:l=[]
 .exact .inl h0
 .refine .inr ⟨l.dropLast,?_⟩;have:=aaF h0;rw[h _ (List.getLast_mem h0)]at this;exact this.symm
structure Rk(k:Nat)(s:ByteArray):Prop where
 len:(bl s).length<=k
 all:∀x∈bl s,x=10
theorem Daj{n:Int}(hn:0<=n/\n<=2002):eu (bs [10]) n/\Rk 10000 (Jo (bs [10]) n):=by
 have k:∃q,ua (λs:ByteArray×Int×ByteArray=>Zt (bs [10]) n s.1 s.2.1 s.2.2) (bs [10],n,aal) q/\∃o,q=.x o/\Rk 10000 o:=by
  refine la.list (aaX 12) (λ_ (b:ByteArray×Int×ByteArray)=>b) (λl b=>Rk (2 ^ l.length) b.1/\Rk (2 ^ l.length) b.2.2/\0<=b.2.1/\b.2.1*2 ^ l.length<=2002) (b0:=(bs [10],n,aal)) rfl ?_ ?_ ?_
  .refine⟨⟨by simp[tc],λx hx=>by simpa [tc] using hx⟩,⟨by simp[xh],λx hx=>by simp[xh]at hx⟩,hn.1,by simpa using hn.2⟩
  .rintro l x r ⟨s,m,o⟩ hx ⟨i1,i2,i3,i4⟩;simp only[]at i1 i2 i3 i4;have hlen:12=l.length+(r.length+1):=by have:=congrArg List.length hx;simpa using this
   have hp:(2:Nat) ^ l.length<=2048:=by
    have:=Nat.pow_le_pow_right (n:=2) (by omega) (show l.length<=11 by omega);omega
   have l1:=i1.len;have l2:=i2.len
   have hq:ar .quo .i64 m 2=m / 2:=fo (by
    have:m*2 ^ l.length >= m*1:=Int.mul_le_mul_of_nonneg_left (by have:=Nat.pow_pos (n:=l.length) (show 0<2 by omega);exact_mod_cast this) i3;omega)
   have hh:(2:Nat) ^ (l++[x]).length=2 ^ l.length+2 ^ l.length:=by rw[aam,aaS,Nat.pow_succ];omega
   have ts:Rk (2 ^ (l++[x]).length) (s++s):=⟨by rw[Pb,aam,hh];omega,λy hy=>by
    rw[Pb,List.mem_append]at hy;exact hy.elim (i1.all y) (i1.all y)⟩
   have to:Rk (2 ^ (l++[x]).length) o:=⟨by rw[hh];omega,i2.all⟩
   have hk:Rk (2 ^ (l++[x]).length) (o++s):=⟨by rw[Pb,aam,hh];omega,λy hy=>by
    rw[Pb,List.mem_append]at hy;exact hy.elim (i2.all y) (i1.all y)⟩
   have hm:0<=m / 2/\m / 2*2 ^ (l++[x]).length<=2002:=by
    refine⟨by omega,?_⟩;rw[aam,aaS,Int.pow_succ];have h2:m / 2*2<=m:=by omega
    have h3:m / 2*2*2 ^ l.length<=m*2 ^ l.length:=Int.mul_le_mul_of_nonneg_right h2 (Int.le_of_lt (Int.pow_pos (by omega)))
    calc m / 2*(2 ^ l.length*2)=m / 2*2*2 ^ l.length:=by rw[Int.mul_comm (2 ^ l.length) 2,Int.mul_assoc]
     _<=_:=Int.le_trans h3 i4
   have hi:lim (fa o) (fa s):=zf (by omega);have hj:lim (fa s) (fa s):=zf (by omega);simp only[Zt,VF,iT,pcT,aap,aat,ga,hq];cases cmp .gtr m 0 with
   |false=>exact⟨by simp,.inr ⟨_,rfl,o,rfl,by omega,i2.all⟩⟩
   |true=>
    cases cmp .eql (ar .rem .i64 m 2) 1 with
    |true=>exact⟨by simp[hi,hj],.inl ⟨(s++s,m / 2,o++s),rfl,ts,hk,hm⟩⟩
    |false=>exact⟨by simp[hj],.inl ⟨(s++s,m / 2,o),rfl,ts,to,hm⟩⟩
  .rintro⟨s,m,o⟩ ⟨i1,i2,i3,i4⟩;simp only[List.length_range]at i1 i2 i3 i4
   have hm:m=0:=by
    have:(2:Int) ^ 12=4096:=by decide
    rw[this]at i4;omega
   subst hm;have hg:cmp .gtr 0 0=false:=rfl;have l2:=i2.len;simp only[Zt,aap,aat,hg];exact⟨by simp,_,rfl,o,rfl,by omega,i2.all⟩
 obtain⟨q,k1,o,rfl,k2⟩:=k;have a2:(au (bs [10]) n).o=_:=k1.v;have b2:(au (bs [10]) n).ob:=k1.t;simp only[eu,Jo,XF,WF,lT,pcT,aap,aat,a2,ocR];exact⟨by simp[b2],k2⟩
theorem Eaj(p:Plan):(bl (He p)).length<=105:=by
 unfold He;split
 .rename_i h;exact(FB h).1
 .simp[xh]
theorem bC{u:ByteArray}{l:List ByteArray}(h:u∈l)(k:∀x∈l,(bl x).length<=30):(bl u).length<=30:=k u h
theorem Faj{b:List Int}(hb:Yj b){p:Int}(hp:0<=p/\p<=50000){X:ByteArray}(hX:(bl X).length<=100000)(z:Int) :
  (yu b p X z).ob/\∃p' X',(yu b p X z).val=.n (p',X')/\(p<=p'/\p'<=p+10)/\(bl X').length<=(bl X).length+80/\Bf (bl X'):=by
 obtain⟨a1,a2,a3,a4⟩:=ee hb (p:=p) (n:=4) (by omega) (by omega);obtain⟨b1,b2,b3,b4⟩:=ee hb (p:=p+1) (n:=4) (by omega) (by omega);obtain⟨c1,c2,_,_⟩:=ee hb (p:=p+1+1) (n:=10) (by omega) (by omega);obtain⟨d1,d2⟩:=Jm (n:=(ib (b,p) 4).1) (by omega);obtain⟨e1,e2⟩:=Jm (n:=(ib (b,p+1) 4).1) (by omega);have L:∀u v:ByteArray,(bl u).length<=200000->(bl v).length<=200000->lim (fa u) (fa v):=λu v h1 h2=>zf (by omega);have D:∀n,(bl (dig n)).length=1:=λn=>rfl
 have h5:∀q1 q2 q3 q4 q5 q6 q7,(vu q1 q2 q3 q4 q5 q6 q7).ob/\∃q,(vu q1 q2 q3 q4 q5 q6 q7).val=.n q:=λq1 q2 q3 q4 q5 q6 q7=>by
  simp only[vu,aap,aat];cases cmp .eql q7 0<;>cases cmp .eql q7 1<;>cases cmp .eql q7 2<;>cases cmp .eql q7 3<;>exact⟨by simp,_,rfl⟩
 have h6:∀q1 q2 q3 q4 q5 q6 q7,(wu q1 q2 q3 q4 q5 q6 q7).ob/\∃q,(wu q1 q2 q3 q4 q5 q6 q7).val=.n q:=λq1 q2 q3 q4 q5 q6 q7=>by
  simp only[wu,aap,aat];cases cmp .eql q7 5<;>exact⟨by simp,_,rfl⟩
 have h7:∀q1 q2 q3 q4 q5 q7,(xu q1 q2 q3 q4 q5 q7).ob/\∃q,(xu q1 q2 q3 q4 q5 q7).val=.n q:=λq1 q2 q3 q4 q5 q7=>by
  simp only[xu,aap,aat];cases cmp .eql q7 7<;>exact⟨by simp,_,rfl⟩
 simp only[yu,oG,pG,qG,pcT,aap,aat,ga,a2,b2,c2,d2,e2];generalize (ib (b,p) 4).1=n1 at a3 a4 d1 d2⊢;generalize (ib (b,p+1) 4).1=n2 at b3 b4 e1 e2⊢;generalize (ib (b,p+1+1) 10).1=n3;obtain⟨g1,q5,g2⟩:=h5 b (p+1+1+1) X z (dig n1) (dig n2) n3;rw[g2];cases q5 with
 |true=>
  obtain⟨r1,r2,r3,r4⟩:=ee hb (p:=p+1+1+1) (n:=2) (by omega) (by omega);obtain⟨s1,s2,s3,s4⟩:=ee hb (p:=p+1+1+1+1) (n:=2) (by omega) (by omega);obtain⟨t1,t2,t3,t4⟩:=ee hb (p:=p+1+1+1+1+1) (n:=4) (by omega) (by omega);obtain⟨u1,u2⟩:=Jm (n:=(ib (b,p+1+1+1) 2).1) (by omega);obtain⟨w1,w2⟩:=Jm (n:=(ib (b,p+1+1+1+1) 2).1) (by omega);obtain⟨x1,x2⟩:=Jm (n:=(ib (b,p+1+1+1+1+1) 4).1) (by omega);obtain⟨o1,o2,o3⟩:=GB hb (p:=p+1+1+1+1+1+1) (by omega) (l:=[bs [49],bs [50],bs [45,49]]) (by decide) (by decide);have o4:=bC o3 (by decide);simp only[r2,s2,t2,u2,w2,x2,o2];generalize (Lf (b,p+1+1+1+1+1+1) [bs [49],bs [50],bs [45,49]]).1=U at o4⊢;refine⟨?_,_,_,rfl,⟨by omega,by omega⟩,?_,?_⟩
  .simp only[a1,b1,c1,d1,e1,g1,r1,s1,t1,u1,w1,x1,o1,true_and,and_true,forall_const,implies_true,Oc.n.injEq,forall_eq',aaH,false_implies,reduceCtorEq];refine⟨L _ _ ?_ ?_,L _ _ ?_ ?_,L _ _ ?_ ?_,L _ _ ?_ ?_,L _ _ ?_ ?_,L _ _ ?_ ?_,L _ _ ?_ ?_,L _ _ ?_ ?_,L _ _ ?_ ?_,L _ _ ?_ ?_,L _ _ ?_ ?_,L _ _ ?_ ?_,L _ _ ?_ ?_⟩<;>(try simp only[Pb,tc,D,aam,aao,aan])<;>omega
  .simp only[Pb,tc,D,aam,aao,aan];omega
  .rw[Pb];exact Bf.app ⟨[],rfl⟩
 |false=>
  obtain⟨g3,q6,g4⟩:=h6 b (p+1+1+1) X z (dig n1) (dig n2) n3;simp only[g4];cases q6 with
  |true=>
   obtain⟨o1,o2,o3⟩:=GB hb (p:=p+1+1+1) (by omega) (l:=[aal,aal,bs [32,51,32,48],bs [32,50,32,50]]) (by decide) (by decide);have o4:=bC o3 (by decide);simp only[o2];generalize (Lf (b,p+1+1+1) [aal,aal,bs [32,51,32,48],bs [32,50,32,50]]).1=U at o4⊢;refine⟨?_,_,_,rfl,⟨by omega,by omega⟩,?_,?_⟩
   .simp only[a1,b1,c1,d1,e1,g1,g3,o1,true_and,and_true,forall_const,implies_true,Oc.n.injEq,forall_eq',aaH,aaI,false_implies,reduceCtorEq];refine⟨L _ _ ?_ ?_,L _ _ ?_ ?_,L _ _ ?_ ?_,L _ _ ?_ ?_,L _ _ ?_ ?_,L _ _ ?_ ?_⟩<;>(try simp only[Pb,tc,D,aam,aao,aan])<;>omega
   .simp only[Pb,tc,D,aam,aao,aan];omega
   .rw[Pb];exact Bf.app ⟨[],rfl⟩
  |false=>
   obtain⟨g5,q7,g6⟩:=h7 b (p+1+1+1) X z (dig n2) n3;simp only[g6];cases q7 with
   |true=>
    obtain⟨o1,o2,o3⟩:=GB hb (p:=p+1+1+1) (by omega) (l:=[bs [48],bs [49]]) (by decide) (by decide);have o4:=bC o3 (by decide);simp only[o2];generalize (Lf (b,p+1+1+1) [bs [48],bs [49]]).1=U at o4⊢;refine⟨?_,_,_,rfl,⟨by omega,by omega⟩,?_,?_⟩
    .simp only[a1,b1,c1,d1,e1,g1,g3,g5,o1,true_and,and_true,forall_const,implies_true,Oc.n.injEq,forall_eq',aaH,aaI,false_implies,reduceCtorEq];refine⟨L _ _ ?_ ?_,L _ _ ?_ ?_,L _ _ ?_ ?_,L _ _ ?_ ?_,L _ _ ?_ ?_⟩<;>(try simp only[Pb,tc,D,aam,aao,aan])<;>omega
    .simp only[Pb,tc,D,aam,aao,aan];omega
    .rw[Pb];exact Bf.app ⟨[],rfl⟩
   |false=>
    generalize hW : [bs [10],bs [111,110,10],bs [119,104,97,116,10],bs [105,110,32,48,32,48,10],bs [97,116,32,48,10],bs [112,108,97,110,32,105,110,57,10],bs [105,110,32,48,32,48,32,48,32,48,32,48,32,48,49,10],bs [111,110,32,49,10]]=W;obtain⟨o1,o2,o3⟩:=GB hb (p:=p+1+1+1) (by omega) (l:=W) (by subst hW;decide) (by subst hW;decide);have o4:=bC o3 (by subst hW;decide)
    have o5:∃c,bl (Lf (b,p+1+1+1) W).1=c++[10]:=by
     subst hW;simp only[List.mem_cons,List.not_mem_nil,or_false]at o3;rcases o3 with h|h|h|h|h|h|h|h<;>rw[h]<;>exact⟨_,(aaF (List.cons_ne_nil _ _)).symm⟩
    simp only[o2];generalize (Lf (b,p+1+1+1) W).1=U at o4 o5⊢;refine⟨?_,_,_,rfl,⟨by omega,by omega⟩,?_,?_⟩
    .simp only[a1,b1,c1,d1,e1,g1,g3,g5,o1,true_and,and_true,forall_const,implies_true,Oc.n.injEq,forall_eq',aaI,false_implies,reduceCtorEq];exact L _ _ (by omega) (by omega)
    .simp only[Pb,aam];omega
    .rw[Pb];exact Bf.app o5
structure oO(t:ByteArray):Prop where
 len:(bl t).length<=100000
 fin:Bf (bl t)
theorem Gaj{b:List Int}(hb:Yj b){p:Int}(hp:0<=p/\p<=100) :
  (tu b p).ob/\∃p' X,(tu b p).val=.n (p',X)/\(p<=p'/\p'<=p+100)/\(bl X).length<=200/\Bf (bl X):=by
 obtain⟨a1,a2,_,_⟩:=ee hb (p:=p) (n:=6) (by omega) (by omega);have hB:Bv 3=44:=rfl;obtain⟨l1,l2,l3,_⟩:=Lai hb 3 Ya (by decide) (by decide) (p+1) (by omega);have l1:ZF (b,p+1) 3:=l1;have l2:p+1<=(Pi (b,p+1) 3).2:=l2;have l3:(Pi (b,p+1) 3).2<=p+1+Bv 3:=l3;obtain⟨t1,t2⟩:=pY (Pi (b,p+1) 3).1;have t3:=Eaj (Pi (b,p+1) 3).1;simp only[tu,aap,aat,ga,a2,pE,Ob,t2];have m1:lim (fa (bs [112,108,97,110,32])) (fa (He (Pi (b,p+1) 3).1)):=zf (by simp only[tc,aao,aan];omega);have m2:lim (fa (bs [112,108,97,110,32]++He (Pi (b,p+1) 3).1)) (fa (bs [10])):=zf (by simp only[Pb,tc,aam,aao,aan];omega);cases cmp .gtr (ib (b,p) 6).1 0 with
 |true=>
  refine⟨by simp[a1,l1,t1,m1,m2],_,_,rfl,⟨by omega,by omega⟩,?_,?_⟩
  .simp only[Pb,tc,aam,aao,aan];omega
  .rw[Pb];exact Bf.app ⟨[],rfl⟩
 |false=>exact⟨by simp[a1],_,_,rfl,⟨by omega,by omega⟩,by simp[xh],.inl rfl⟩
theorem Zaj{c:List Int}(hc:∀x∈c,0<=x/\x<=255):vG c/\oO (uG c):=by
 obtain⟨o1,b,o2,hb⟩:=T6 hc;obtain⟨a1,a2,_,_⟩:=ee hb (p:=0) (n:=60) (by omega) (by omega);obtain⟨b1,b2,b3,b4⟩:=ee hb (p:=0+1) (n:=2) (by omega) (by omega);simp only[vG,uG,tG,nG,sG,pcT,aap,aat,ga,o2,a2];cases cmp .eql (ib (b,0) 60).1 0 with
 |true=>
  have hi:ar .add .i64 2000 (ib (b,0+1) 2).1=2000+(ib (b,0+1) 2).1:=ub (by omega);obtain⟨m1,m2⟩:=Daj (n:=2000+(ib (b,0+1) 2).1) (by omega);simp only[hi];exact⟨by simp[o1,a1];exact⟨b1,m1⟩,⟨by have:=m2.len;show(bl (Jo _ _)).length<=_;omega,Bf.tens m2.all⟩⟩
 |false=>
  obtain⟨h1,p',X,h2,h3,h4,h5⟩:=Gaj hb (p:=0+1) (by omega);simp only[h2];obtain⟨c1,c2,c3,c4⟩:=ee hb (p:=p') (n:=16) (by omega) (by omega)
  have key:(Au b p' X).ob/\∃T,(Au b p' X).val=.n T/\oO T:=by
   simp only[Au,aap,aat,ga,c2];obtain⟨N,hN⟩ : ∃N:Nat,ar .add .i64 3 (ib (b,p') 16).1=(N:Int):=⟨(3+(ib (b,p') 16).1).toNat,by rw[ub (by omega)];omega⟩;have hh:N<=18:=by rw[ub (by omega)]at hN;omega
   rw[hN]
   have k:∃q,la (λs:Int×ByteArray×Int=>na (Qo b (p'+1) X N s.1 s.2.1 s.2.2).val) (λs=>(Qo b (p'+1) X N s.1 s.2.1 s.2.2).ob) (p'+1,X,(N:Int)) q/\∃T,q=.x T/\oO T:=by
    refine la.down (λn (s:Int×ByteArray)=>(s.1,s.2,(n:Int))) (λn s=>(0<=s.1/\s.1<=500+10*(N - n:Int))/\((bl s.2).length:Int)<=200+80*(N - n:Int)/\Bf (bl s.2)) (n0:=N) (b0:=(p'+1,X)) rfl ⟨by simp only[];omega,by simp only[];omega,h5⟩ ?_ ?_
    .rintro n ⟨p,Y⟩ hn ⟨i1,i2,i3⟩;simp only[]at i1 i2 i3;have hg:cmp .gtr ((n+1:Nat):Int) 0=true:=by rw[Lb];exact decide_eq_true (by omega)
     have hs:ar .sub .i64 ((n+1:Nat):Int) 1=(n:Int):=by rw[fh (by omega)];omega
     obtain⟨d1,q',Z,d2,d3,d4,d5⟩:=Faj hb (p:=p) (by omega) (X:=Y) (by omega) ((n+1:Nat):Int);simp only[Qo,rG,pcT,aap,aat,hg,hs,d2];exact⟨by simp;exact d1,(q',Z),rfl,by simp only[];omega,by simp only[];omega,d5⟩
    .rintro⟨p,Y⟩ ⟨i1,i2,i3⟩;have hg:cmp .gtr ((0:Nat):Int) 0=false:=rfl;simp only[Qo,aap,aat,hg];exact⟨by simp,_,rfl,Y,rfl,by simp only[]at i2;omega,i3⟩
   obtain⟨q,k1,T,rfl,k2⟩:=k;have e1:(zu b (p'+1) X N).o=_:=k1.v;have e2:(zu b (p'+1) X N).ob:=k1.t;rw[e1];exact⟨by simp[c1,e2],T,rfl,k2⟩
  obtain⟨k1,T,k2,k3⟩:=key;simp only[k2,ocR];exact⟨by simp[o1,a1];exact⟨h1,k1⟩,k3⟩
noncomputable def aak(v:Sess×ByteArray)(l:List UInt8):Sess×ByteArray:=Se v ((spl 10 l).map mkB)
theorem step_nil(v:Sess×ByteArray):Ng v (mkB [])=v:=if_pos rfl
theorem bak{t:ByteArray}(h:(bl t).length<=2000):Cr t=Qk t:=if_pos h
end
section
open Go Go.Proofs Go.Shelf Go.RowKit Go.Lib
def Bk(w:World)(b k:Nat):Prop:=k=b\/∃v,w.cell? ⟨b,1,none⟩=some v/\v.ownBlock=some k
theorem Z5{P:aaW}(w:World)(base:Nat)(t u ty e:TypeId)(i:TypeInfo)(ht:P.underlying t=some (.slice e))(hu:P.underlying u=some .string)(hi:P.info? e=some i)(hz:i.zero=some (.int .u8 0))
  (hsize:i.size=1) (hby:i.bytes=1) (v:Value) (n:Nat) (xs:List Value) (hown:w.ownsRow base e 1 v n xs) (s:ByteArray) (h63:n+s.size<=maxLen) (hbytes:n+s.size<=140737488355328) (hbase:base<=w.heap.size) :
  ∃v' w',(Builtin.append_ #[t,u] ty #[v,.string s]).run P w=.ok v' w'/\w'.ownsRow base e 1 v' (n+s.size) (xs++strCells s)/\w.grownBy w' v.ownBlock/\∀k,v'.ownBlock=some k->v.ownBlock=some k\/w.heap.size<=k:=by
 obtain⟨v',w',hr,h1,h2,h3⟩:=run_append_own_string (P:=P) w base t u ty e i ht hu hi hz hsize hby v n xs hown s h63 hbytes hbase;refine⟨v',w',hr,h1,h2,λk hk=>?_⟩;have hs:n+s.size<=9223372036854775807:=by simp only[maxLen]at h63;omega
 have hw:xs.length=n:=by simpa using hown.1
 rcases hown.2 with⟨rfl,rfl⟩|⟨g,cap,hh,rfl,hj,hg,hp,hl,hn,hv⟩
 .by_cases hm:s.size=0
  .rw[h3.2 ⟨rfl,hm⟩]at hk;cases hk
  .have hq:=run_append_nil_string (P:=P) w t u ty e i (.int .u8 0) ht hu hi hz s (by omega) (by omega) (by rw[hby];omega);rw[hr]at hq;cases hq;cases hk;exact .inr (aaA _)
 .by_cases hroom:n+s.size<=cap
  .have ho:hh.size=cap:=by simpa using hn
   have hq:=run_append_room_string (P:=P) w t u ty e i ht hu hi hsize g n cap hh hg s hroom (by omega);rw[hr]at hq;cases hq;exact .inl hk
  .have holds:∀j u,xs[j]? = some u->w.cell? ((⟨g,0,none⟩ : Addr).add j)=some u:=hown.cells (g:=g) rfl;have hq:=run_append_grow_string (P:=P) w t u ty e i (.int .u8 0) ht hu hi hz ⟨g,0,none⟩ n cap xs (by rw[hsize];simpa using hw) holds s (by omega) (by omega) (by rw[hby];exact growslice_fits (by omega) (by omega));rw[hr]at hq;cases hq;cases hk;exact .inr (aaA _)
theorem d6{P:aaW}{w:World}{ops:Array Oper}{rest:List Oper}{o:Oper}{a:Act}{Q:Exit->Act->World->Prop}(hgd:o.guard=none)(sl x:Operand)(t u:TypeId)
  (ho:o.op=.call { callee:=.builtin .append,args:=#[sl,x],argTypes:=#[t,u] })
  (base:Nat) (e:TypeId) (i:TypeInfo) (ht:P.underlying t=some (.slice e)) (hu:P.underlying u=some .string) (hi:P.info? e=some i) (hz:i.zero=some (.int .u8 0))
  (hsize:i.size=1) (hby:i.bytes=1)
  (v:Value) (n:Nat) (xs:List Value) (hs:a.eval sl=v) (hown:w.ownsRow base e 1 v n xs) (s:ByteArray) (hx:a.eval x=.string s)
  (h63:n+s.size<=maxLen) (hbytes:n+s.size<=140737488355328) (hbase:base<=w.heap.size)
  (h:∀v' w',w'.ownsRow base e 1 v' (n+s.size) (xs++strCells s)->w.grownBy w' v.ownBlock->(∀k,v'.ownBlock=some k->v.ownBlock=some k\/w.heap.size<=k)->wpList P ops Q rest (a.put o.dst v') w'):wpList P ops Q (o::rest) a w:=by
 refine wpList_plain hgd λK hK=>?_;obtain⟨v',w',hr,h2,h3,h4⟩:=Z5 (P:=P) w base t u o.type e i ht hu hi hz hsize hby v n xs hown s h63 hbytes hbase;unfold Oper.wp execOp;simp only[ho,resolve,invoke,builtin,Sem.run_bind,Sem.run_pure,Result.andThen_ok,List.map_toArray,aaY,List.map_nil,hs,hx,hr];exact hK _ _ (h v' w' h2 h3 h4)
section
variable {P:aaW}{ρ:Ren}
theorem i6(L:Lays.n240 P ρ)(X:Builder.X72 P ρ)(B b:Nat)(bs:List Value)(w:World)(h:aau (ρ.t 72) (ρ.t 5) B b bs w) :
  Calls P (ρ.f 240) #[.pointer (some ⟨b,0,none⟩)] w λe w'=>e=.returned (.tuple #[])/\aaz (ρ.t 72) (ρ.t 5) B b (.pointer (some ⟨b,0,none⟩)) bs w'/\Below B w w'/\w'.heap.size=w.heap.size/\(∀k,k≠b->w'.heap[k]? = w.heap[k]?)/\w'.cell? ⟨b,1,none⟩=w.cell? ⟨b,1,none⟩:=by
 rcases h with h|h
 .refine(Any.Builder_copyCheck_fresh L X b w h.cell0 h.shape h.frozen0).mono ?_;rintro e w' ⟨rfl,rfl⟩;refine⟨rfl,h.used _,(Below.refl B w).setCell (p:=⟨b,0,none⟩) h.1 _,?_,λk hk=>?_,?_⟩
  .simp[aaK]
  .exact Below.heap_setCell w ⟨b,0,none⟩ _ k hk
  .obtain⟨_,v,hb,_⟩:=h;simp[aaK,aaC,aaT,hb]
 .refine(Any.Builder_copyCheck_used L X b w h.cell0).mono ?_;rintro e w' ⟨rfl,rfl⟩;exact⟨rfl,h,Below.refl B _,rfl,λ_ _=>rfl,rfl⟩
set_option maxHeartbeats 2000000 in
theorem write_any(L:Lays.n166 P ρ)(X:Builder.Extra P ρ)(B b:Nat)(bs:List Value)(s:ByteArray)(w:World)(h:aau (ρ.t 72) (ρ.t 5) B b bs w)(hlen:bs.length+s.size<=140737488355328)(hBw:B<=w.heap.size) :
  Calls P (ρ.f 166) #[.pointer (some ⟨b,0,none⟩),.string s] w λe w'=>e=.returned (.tuple #[.int .i64 s.size,.nilIface])/\aaz (ρ.t 72) (ρ.t 5) B b (.pointer (some ⟨b,0,none⟩)) (bs++Lib.strCells s) w'/\Below B w w' /\
   w.heap.size<=w'.heap.size/\(∀k,k<w.heap.size->¬ Bk w b k->w'.heap[k]? = w.heap[k]?)/\∀k,Bk w' b k->Bk w b k\/w.heap.size<=k:=by
 obtain⟨i0,hi,ie,ju,jb⟩:=info_parts X.infoByte;have mixed:=L.mixed;have km:=L.t72;have hm:=L.a72;have li:=L.z72;have kz:=L.v72;have kr:=aav L.t72;have kk:=L.t70;have hl:=L.a70;have ke:=L.z70;have ky:=L.v70;have kq:=aav L.t70;have kj:=L.t37;have hj:=L.a37;have kc:=L.z37;have kx:=L.v37;have kp:=aav L.t37;have t3:=L.t3;have a3:=L.a3;have z3:=L.z3;have v3:=L.v3;have u3:=aav L.t3;have t9:=L.t9;have a9:=L.a9;have z9:=L.z9;have v9:=L.v9;have u9:=aav L.t9;have t4:=L.t4;have a4:=L.a4;have z4:=L.z4;have v4:=L.v4;have u4:=aav L.t4;have ki:=L.t164;have hh:=L.a164;have kb:=L.z164;have ks:=L.v164;have kn:=aav L.t164;have t5:=X.t5;have a5:=X.a5;have z5:=X.z5;have v5:=X.v5;have u5:=aav X.t5;have hp:∀args w,(callFunc (ρ.f 240) args).run P w=.ok (.enter (ρ.f 240) args) w:=enters_of L.f240 (by kernel_rfl) rfl
 go_enter L.f166,Body.n166_ntmps ρ
 go_wp2_with (go_at_fn (ρ.f 240);refine(i6 { L with } X.toX72 B b bs w h).mono ?_)
 rintro e w1 ⟨rfl,h1,hq,it,hc,ht⟩;obtain⟨hB,v,hs,ih,hg⟩:=h1;have c0:w1.cell? ⟨b,0,none⟩=some (.pointer (some ⟨b,0,none⟩)):=by rw[aaD hs];rfl
 have c1:w1.cell? ⟨b,1,none⟩=some v:=by rw[aaD hs];rfl
 have hy:w.cell? ⟨b,1,none⟩=some v:=ht.symm.trans c1;clear ht
 go_wp2_with (at_builtin;refine d6 rfl _ _ (ρ.t 37) (ρ.t 9) rfl B (ρ.t 5) i0 L.t37 L.t9 hi ie ju jb _ _ _ rfl ih s rfl ?c3 ?c4 ?c5 ?_)
 case c3=>unfold maxLen;omega
 case c4=>omega
 case c5=>omega
 intro v' w2 io ha hz;have hf:b<w1.heap.size:=(aaq.1 hs).1
 have hr:w2.heap[b]? = some (.cells #[.pointer (some ⟨b,0,none⟩),v] (ρ.t 72) (0,0)):=by
  rw[ha.block b hf (λe=>hg e.symm)];exact hs
 have d0:w2.cell? ⟨b,0,none⟩=some (.pointer (some ⟨b,0,none⟩)):=by rw[aaD hr];rfl
 have d1:w2.cell? ⟨b,1,none⟩=some v:=by rw[aaD hr];rfl
 have f1:w2.frozen? ⟨b,1,none⟩=false:=Lib.frozen_of_heap hr 1
 obtain⟨ao,n',cap,rfl⟩ : ∃ao n' cap,v'=.slice ao n' cap:=by
  rcases io.2 with⟨hv,_⟩|⟨g,cap,ho,hv,_⟩
  .exact⟨_,_,_,hv⟩
  .exact⟨_,_,_,hv⟩
 go_wp2
 go_ret2
 have ix:=ha.size;refine⟨rfl,?_,?_,?_,λk hk hn=>?_,λk hk=>?_⟩
 .exact Lib.BuilderAt.put (T:=(ρ.t 72)) (e:=(ρ.t 5)) hB hr (bs':=bs++Lib.strCells s) (by simpa [Lib.strCells_length] using io) X.neB5
 .exact (hq.grown ha (by omega) (λk hk=>(ih.lt k hk).1)).setCell (p:=⟨b,1,none⟩) hB _
 .simp[aaK];omega
 .have he:k≠b:=λe=>hn (.inl e);rw[Below.heap_setCell _ _ _ _ he,ha.block k (by omega) (λe=>hn (.inr ⟨v,hy,e.symm⟩)),hc k he]
 .rcases hk with rfl|⟨u,hu,hk⟩
  .exact .inl (.inl rfl)
  .have hw:u=.slice ao n' cap:=by
    simp[aaK,aaC,aaT,hr]at hu;exact hu.symm
   subst hw;rcases hz k hk with h1|h1
   .exact .inl (.inr ⟨v,hy,h1⟩)
   .exact .inr (by omega)
end
end
section
namespace Lr
open Go
def scC:C->Bool
 |.int _ _=>true
 |.bool _=>true
 |.str _=>true
 |_=>false
def shK:K×C->Bool
 |(.sh,_)=>true
 |(.fr,c)=>scC c
 |_=>false
def shL:List (K×C)->Bool
 |[]=>true
 |k::r=>shK k&&shL r
def Yn(x n:Nat):AV->Bool
 |.dead=>true
 |.v k c=>shK (k,c)
 |.box cs=>aaU n x&&shL cs
 |_=>false
def shE(x:Nat):Env->Bool
 |[]=>true
 |(n,v)::r=>Yn x n v&&shE x r
theorem jR{x n:Nat}:∀ {e:Env},shE x e=true->Yn x n (da e n)=true
 |[],_=>rfl
 |(m,v)::r,h=>by
  simp only[shE,aar]at h;simp only[da];cases hb:aaU m n with
  |true=>rw[<-aay hb];exact h.1
  |false=>exact jR h.2
theorem kR{k:K×C}:∀ {l:List (K×C)}{j:Nat},shL l=true->l[j]? = some k->shK k=true
 |a::r,0,h,hk=>by
  simp only[shL,aar]at h;simp at hk;subst hk;exact h.1
 |a::r,j+1,h,hk=>by
  simp only[shL,aar]at h;exact kR h.2 (by simpa using hk)
theorem lR{F F':Fz}{lo lo':Nat}{w w':World}{c:C}{v:Value}(hc:scC c=true)(h:RC F lo w c v):RC F' lo' w' c v:=by
 cases h with
 |int k n=>exact .int _ _
 |bool b=>exact .bool _
 |str s=>exact .str _
 |_=>cases hc
def Same(F F':Fz)(w w':World):Prop:=∀b o,F b o->F' b o/\w'.cell? ⟨b,o,none⟩=w.cell? ⟨b,o,none⟩
theorem H5{F F':Fz}{B B':Nat}{w w':World}(hF:Same F F' w w'){k:K×C}(hk:shK k=true){ob ob':Option Nat}{v:Value}(h:Eb F B w ob k v):Eb F' B' w' ob' k v:=by
 obtain⟨k,c⟩:=k;cases k with
 |sh=>exact RC.mono (λb o h=>(hF b o h).1) (aaA 0) (λb o h=>(hF b o h).2) h
 |fr=>exact lR hk h
 |acc f=>cases hk
 |own f=>cases hk
theorem I5{F F':Fz}{B B':Nat}{w w':World}(hF:Same F F' w w'){x n:Nat}{ow ow':Option Nat->Option Nat}{av:AV}{v:Value}(hav:Yn x n av=true)(how:n=x->ow' none=ow none)
  (hb:∀b,n=x->ow none=some b->w'.heap[b]? = w.heap[b]?/\∀o,F' b o->F b o) (h:VR F B w ow av v):VR F' B' w' ow' av v:=by
 cases av with
 |dead=>trivial
 |v k c=>
  cases k with
  |sh=>exact RC.mono (λb o h=>(hF b o h).1) (aaA 0) (λb o h=>(hF b o h).2) h
  |fr=>exact lR hav h
  |acc f=>cases hav
  |own f=>cases hav
 |box cs=>
  simp only[Yn,aar]at hav;obtain⟨hx,hc⟩:=hav;have hx:=aay hx;obtain⟨b,us,q1,q2,q3,q4,q5,q6⟩:=h;obtain⟨h1,h2⟩:=hb b hx q2;exact⟨b,us,q1,(how hx).trans q2,q3.same h1,λo ho=>q4 o (h2 o ho),q5,λj kc u hk hu=>H5 hF (kR hc hk) (q6 j kc u hk hu)⟩
 |agg f cs=>cases hav
 |tup l=>cases hav
 |cond k a=>cases hav
 |view s o=>cases hav
 |baddr s o=>cases hav
 |faddr f cs=>cases hav
 |oaddr s i o=>cases hav
theorem L5{x n:Nat}{av:AV}(h:Yn x n av=true):fc av=true:=by cases av<;>first|rfl|cases h
def ow1(x:Nat)(ow:Nat->Option Nat->Option Nat):Nat->Option Nat->Option Nat:=λn i=>match aaU n x,i with
 |true,none=>ow x none
 |_,_=>none
theorem Cl{x:Nat}{ow:Nat->Option Nat->Option Nat}{n:Nat}{i:Option Nat}{b:Nat}(h:ow1 x ow n i=some b):n=x/\i=none/\ow x none=some b:=by
 unfold ow1 at h;split at h
 .rename_i hb;exact⟨aay hb,rfl,h⟩
 .cases h
theorem O5{x:Nat}{ow:Nat->Option Nat->Option Nat}:ow1 x ow x none=ow x none:=by
 unfold ow1;rw[Nat.beq_refl]
theorem ja.move{B B':Nat}{IoB IoB':List Nat}{F0 F0' F F':Fz}{e:Env}{tm tm':Nat->Value}{w w':World}{ow:Nat->Option Nat->Option Nat}(hs:ja B IoB F0 e tm w F ow){x:Nat}(he:shE x e=true)(htm:∀n,Ga (da e n)=false->tm' n=tm n)(hF:Same F F' w w')
  (hsub:Xe B' IoB' F0' F') (hnew:∀b o,F' b o->F0' b o\/Mn B' IoB' b) (hl:Live F' w') (hb:∀b,ow x none=some b->b<w'.heap.size/\Mn B' IoB' b/\w'.heap[b]? = w.heap[b]?/\∀o,F' b o->F b o):ja B' IoB' F0' e tm' w' F' (ow1 x ow):=by
 refine⟨hsub,hnew,hl,λs i s' i' b h h'=>?_,λs i b h=>?_,λn=>?_⟩
 .obtain⟨h1,h2,_⟩:=Cl h;obtain⟨h3,h4,_⟩:=Cl h';exact⟨h1.trans h3.symm,h2.trans h4.symm⟩
 .obtain⟨_,_,h3⟩:=Cl h;exact⟨(hb b h3).1,(hb b h3).2.1⟩
 .have h1:=jR (n:=n) he;have h2:=hs.sr n;rw[Ze (L5 h1)]at h2⊢
  have h3:da e n=.dead\/tm' n=tm n:=by
   cases hd:Ga (da e n) with
   |false=>exact .inr (htm n hd)
   |true=>exact .inl (by cases hx:da e n<;>rw[hx]at hd<;>first|rfl|cases hd)
  rcases h3 with h3|h3
  .rw[h3];trivial
  rw[h3];refine I5 hF h1 (λe=>by rw[e];exact O5) (λb e h=>?_) h2;rw[e]at h;exact⟨(hb b h).2.2.1,(hb b h).2.2.2⟩
abbrev NB(n p b:Nat):NP:=⟨n,none,[(p,.pointer (some ⟨b,0,none⟩))]⟩
structure BL(n p x T:Nat)(B:Nat)(W0:World)(F0:Fz)(b:Nat)(l:List UInt8)(e:Env)(a:Act)(w:World):Prop where
 df:a.defers=[]
 tm:Tms (NB n p b) [] a.tmps
 hB:B=W0.heap.size
 f0:∀k o,F0 k o->k<B
 kept:Kept B [] W0 w
 bld:aau T 5 B b (aaL l) w
 sh:shE x e=true
 rep:∃F ow,ja B [] F0 e (λn=>a.tmps.getD n undef) w F ow/\∀k,Bk w b k->k<w.heap.size/\B<=k/\(∀o,¬ F k o)/\∀s i,ow s i≠some k
theorem P5{T B b:Nat}{l:List Value}{w:World}(h:aau T 5 B b l w){k:Nat}(hk:Bk w b k):k<w.heap.size/\B<=k:=by
 have key:∀p,aaz T 5 B b p l w->k<w.heap.size/\B<=k:=by
  rintro p ⟨hB,v,hb,hh,_⟩;rcases hk with rfl|⟨u,hu,hk⟩
  .exact⟨(aaq.1 hb).1,hB⟩
  .have:u=v:=by simp[aaC,hb]at hu;exact hu.symm
   subst this;exact⟨(hh.lt k hk).2,(hh.lt k hk).1⟩
 exact h.elim (key _) (key _)
theorem R5{T B b:Nat}{l:List Value}{w:World}(h:aau T 5 B b l w){k:Nat}(hk:Bk w b k){o:Obj}(ho:w.heap[k]? = some o):isC o=true:=by
 have key:∀p,aaz T 5 B b p l w->isC o=true:=by
  rintro p ⟨hB,v,hb,hi,_⟩;rcases hk with rfl|⟨u,hu,hk⟩
  .rw[hb]at ho;cases ho;rfl
  .have:u=v:=by simp[aaC,hb]at hu;exact hu.symm
   subst this;rcases hi.2 with⟨rfl,_⟩|⟨g,cap,hh,rfl,h1,h2,h3⟩
   .cases hk
   .cases hk;rw[h2]at ho;cases ho;rfl
 exact h.elim (key _) (key _)
theorem U5{T B b:Nat}{l:List Value}{w w':World}(h:aau T 5 B b l w)(hs:∀k,Bk w b k->w'.heap[k]? = w.heap[k]?):aau T 5 B b l w':=by
 have key:∀p,aaz T 5 B b p l w->aaz T 5 B b p l w':=by
  rintro p ⟨hB,v,hb,hj,hi⟩;refine⟨hB,v,(hs b (.inl rfl)).trans hb,⟨hj.1,?_⟩,hi⟩;rcases hj.2 with h|⟨g,cap,hh,rfl,h1,h2,h3⟩
  .exact .inl h
  .exact .inr ⟨g,cap,hh,rfl,h1,(hs g (.inr ⟨.slice (some ⟨g,0,none⟩) l.length cap,by simp[aaC,hb],rfl⟩)).trans h2,h3⟩
 exact h.imp (key _) (key _)
theorem X5{b k:Nat}{w w':World}(hs:w'.heap[b]? = w.heap[b]?)(h:Bk w' b k):Bk w b k:=h.imp id λ⟨v,h1,h2⟩=>⟨v,by rw[<-h1];exact(cell_of_heap hs).symm,h2⟩
theorem BL.run{n p x T B:Nat}{W0:World}{F0:Fz}{b:Nat}{l:List UInt8}{e:Env}{a:Act}{w:World}(h:BL n p x T B W0 F0 b l e a w){cs:List (K×C)}(hx:da e x=.box cs){R:Prop}
  (k:∀(b3:Nat) (F:Fz),MS (NB n p b) w.heap.size [b3] w F [] e a w->(∀e2 a2 w2,shE x e2=true->MS (NB n p b) w.heap.size [b3] w F [] e2 a2 w2->BL n p x T B W0 F0 b l e2 a2 w2)->R):R:=by
 obtain⟨F,ow,hs,hn⟩:=h.rep;have hi:B<=w.heap.size:=by rw[h.hB];exact h.kept.size
 obtain⟨b3,us,_,q2,q3,q4,_⟩:=hs.box hx;have hl:=hs.bd _ _ _ q2;have hh:B<=b3:=hl.2.elim id λh=>by simp at h
 have ht:=hs.live;have ha:∀g cs,TabAt g cs->F g 0:=λg cs hg=>(ht.tab g cs hg).1 0 hg.pos
 have hw:=ja.move hs h.sh (λ_ _=>rfl) (B':=w.heap.size) (IoB':=[b3]) (F0':=F) (F':=F) (w':=w) (x:=x) (λ_ _ h=>⟨h,rfl⟩)
  ⟨λ_ _ h=>h,λg cs hg=>⟨λhm=>hm.elim (λh=>by have:=ht.lt (ha g cs hg);omega) (λhm=>by
    rw[aaw]at hm;exact q4 0 (hm▸ha g cs hg)),(ht.tab g cs hg).1⟩⟩ (λ_ _ h=>.inl h) ht (λb' hb'=>by
    rw[q2]at hb';cases hb';exact⟨hl.1,.inr (aaB _),rfl,λ_ h=>h⟩)
 refine k b3 F ⟨⟨h.df,⟨h.tm.size,(λs hs=>by cases hs),h.tm.kp⟩,aaA _,λk o hF=>⟨ht.lt hF,λhm=>?_⟩,Kept.refl _ _ _,F,_,hw⟩,Kept.refl _ _ _,λp hp=>(by cases hp),rfl⟩ λe2 a2 w2 he2 hm=>?_
 .rw[aaw]at hm;exact q4 o (hm▸hF)
 .obtain⟨F2,hc,hy⟩:=hm.sim.rep;have hq:∀k,Bk w b k->k<w.heap.size/\k≠b3:=λk hk=>⟨(hn k hk).1,λe=>(hn k hk).2.2.2 _ _ (e▸q2)⟩;have hr:∀k,k<w.heap.size->k≠b3->w2.heap[k]? = w.heap[k]?:=λk h1 h2=>hm.kept.block k h1 (by simpa using h2);have hu:∀k,Mn w.heap.size [b3] k->B<=k:=λk hk=>hk.elim (λh=>by omega) (λh=>by rw[aaw]at h;omega)
  have hz:=ja.move hy he2 (λ_ _=>rfl) (B':=B) (IoB':=[]) (F0':=F0) (F':=F2) (w':=w2) (x:=x) (λ_ _ h=>⟨h,rfl⟩) ⟨λk o h=>hy.sub _ _ (hs.sub _ _ h),hs.sub.low⟩
   (λk o h=>(hy.new k o h).elim (λh=>hs.new k o h) (λh=>.inr (.inl (hu k h)))) hy.live (λk hk=>by
     obtain⟨h1,h2⟩:=hy.bd _ _ _ hk;exact⟨h1,.inl (hu k h2),rfl,λ_ h=>h⟩)
  have hj:=hq b (.inl rfl);refine⟨hm.sim.defers,⟨hm.sim.tmps.size,(λs hs=>by cases hs),hm.sim.tmps.kp⟩,h.hB,h.f0,?_,U5 h.bld λk hk=>hr k (hq k hk).1 (hq k hk).2,he2,F2,_,hz,λk hk=>?_⟩
  .exact h.kept.trans ⟨hm.kept.os,hm.kept.tape,hm.kept.output,hm.kept.size,λk hk _=>hr k (by omega) (by omega),hm.kept.obj⟩
  .have hk:=X5 (hr b hj.1 hj.2) hk;obtain⟨h1,h2⟩:=hq k hk;have hv:¬ Mn w.heap.size [b3] k:=λhm=>hm.elim (λh=>by omega) (λh=>by rw[aaw]at h;omega);refine⟨aaZ h1 hm.kept.size,(hn k hk).2.1,λo ho=>(hy.new k o ho).elim ((hn k hk).2.2.1 o) hv,λs i h=>?_⟩;obtain⟨_,_,h5⟩:=Cl h;exact hv (hy.bd _ _ _ h5).2
theorem Y5{n p b d:Nat}{a:Act}(h:Tms (NB n p b) [] a.tmps)(hd:Nat.blt d n=true)(hne:aaU p d=false)(v:Value):Tms (NB n p b) [] (a.put (some d) v).tmps:=h.put (by unfold NP.ok;simp[hd,Rg,hne]) v
theorem BL.write{P:aaW}{ρ:Go.Shelf.Ren}(L:Go.Proofs.Lays.n166 P ρ)(X:Go.Proofs.Builder.Extra P ρ){T f:Nat}(hT:ρ.t 72=T)(h5:ρ.t 5=5)(hf:ρ.f 166=f){n p x B:Nat}{W0:World}{F0:Fz}{b:Nat}{l:List UInt8}{e:Env}{a:Act}{w:World}(h:BL n p x T B W0 F0 b l e a w){y d:Nat}{t1 t2:TypeId}{s:ByteArray}
  (hy:da e y=.v .fr (.str s)) (hlen:l.length+s.size<=140737488355328) {o:Oper} (hop:o.op=.call ⟨.value (.func f),#[.tmp p,.tmp y],#[t1,t2]⟩) (hd:o.dst=some d) (hdn:Nat.blt d n=true) (hdp:aaU p d=false) (hdd:Ga (da e d)=true)
  {next:Act->World->Prop}{Q:Exit->Act->World->Prop} (hn:∀a' w',BL n p x T B W0 F0 b (l++s.data.toList) e a' w'->next a' w'):o.wp P a w next Q:=by
 subst hT hf;obtain⟨F,ow,hs,hj⟩:=h.rep;have hh:B<=w.heap.size:=by rw[h.hB];exact h.kept.size
 have hr:a.tmps.getD p undef=.pointer (some ⟨b,0,none⟩):=h.tm.kp (p,.pointer (some ⟨b,0,none⟩)) (aaB _)
 have hu:a.tmps.getD y undef=.string s:=by
  have:=hs.sr y;rw[hy]at this;have this:RC F B w (.str s) (a.tmps.getD y undef):=this;generalize a.tmps.getD y undef=v at this;cases this;rfl
 have ht:(execOp a.eval o).run P w=.ok (.enter (ρ.f 166) #[.pointer (some ⟨b,0,none⟩),.string s]) w:=by
  obtain⟨dst,op,ty,pos,aft,gd⟩:=o;simp only[]at hop;subst hop;have h1:∀args w,(callFunc (ρ.f 166) args).run P w=.ok (.enter (ρ.f 166) args) w:=Go.Proofs.enters_of L.f166 (by kernel_rfl) rfl;simp[execOp,resolve,Act.eval,aba,invoke,h1,hr,hu]
 unfold Oper.wp;rw[ht,Oper.upon_enter];have hl:aau (ρ.t 72) (ρ.t 5) B b (aaL l) w:=by rw[h5];exact h.bld
 refine(write_any L X B b (aaL l) s w hl (by rw[Lib.byteCells_length];exact hlen) hh).mono ?_;rintro e' w' ⟨rfl,h1,h2,h3,h4,h6⟩;show next (a.put o.dst _) w';rw[hd];refine hn _ w' ?_;rw[h5]at h1;have hp:=hs.live;have hm:∀k o,F k o->w'.heap[k]? = w.heap[k]?:=λk o hk=>h4 k (hp.lt hk) λhb=>(hj k hb).2.2.1 o hk;have hq:∀k,k<B->¬ Bk w b k:=λk hk hb=>by have:=(hj k hb).2.1;omega
 refine⟨h.df,Y5 h.tm hdn hdp _,h.hB,h.f0,h.kept.trans ⟨h2.os,h2.tape,h2.output,h3,λk hk _=>h4 k (by omega) (hq k hk),λk o hk hc=>(h4 k (aaq.1 hk).1 λhb=>by rw[R5 h.bld hb hk]at hc;cases hc).trans hk⟩,?_,h.sh,F,_,
  ja.move hs h.sh (λn hn=>?_) (λk o hk=>⟨hk,cell_of_heap (hm k o hk)⟩) hs.sub hs.new ⟨λk o hk=>?_,λg cs hg=>?_⟩ (λk hk=>?_),λk hk=>?_⟩
 .refine .inr ?_;rw[Lib.byteCells_append];exact h1
 .rw[Ja _ d _ (by rw[h.tm.size];exact of_decide_eq_true (by simpa [Nat.blt_eq] using hdn)) n,if_neg];intro e1;rw[e1,hdd]at hn;cases hn
 .rw[cell_of_heap (hm k o hk)];exact hp k o hk
 .obtain⟨g1,t,z,g2⟩:=hp.tab g cs hg;exact⟨g1,t,z,(hm g 0 (g1 0 hg.pos)).trans g2⟩
 .obtain⟨g1,g2⟩:=hs.bd _ _ _ hk;exact⟨by omega,g2,h4 k g1 λhb=>(hj k hb).2.2.2 _ _ hk,λ_ h=>h⟩
 .have hi:=P5 (.inr h1) hk;refine⟨hi.1,hi.2,λo ho=>?_,λs i hsi=>?_⟩
  .rcases h6 k hk with h7|h7
   .exact (hj k h7).2.2.1 o ho
   .have:=hp.lt ho;omega
  .obtain⟨_,_,h8⟩:=Cl hsi;rcases h6 k hk with h7|h7
   .exact (hj k h7).2.2.2 _ _ h8
   .have:=(hs.bd _ _ _ h8).1;omega
theorem BL.start{P:aaW}{n p x T B:Nat}{W0:World}{F0:Fz}{e:Env}{a:Act}{w:World}(hs:MS ⟨n,none,[]⟩ B [] W0 F0 [] e a w)(he:shE x e=true){o:Oper}(hop:o.op=.alloc T)(hz:∀w,(zeroValue T).run P w=.ok (.agg #[.pointer none,.slice none 0 0]) w)
  (hd:o.dst=some p) (hdn:Nat.blt p n=true) (hdd:Ga (da e p)=true) {next:Act->World->Prop}{Q:Exit->Act->World->Prop} (hn:∀b a' w',BL n p x T B W0 F0 b [] e a' w'->next a' w'):o.wp P a w next Q:=by
 have hl:(execOp a.eval o).run P w=.ok (.value (.pointer (some ⟨w.heap.size,0,none⟩))) (w.alloc (.cells #[.pointer none,.slice none 0 0] T)):=by
  obtain⟨dst,op,ty,pos,aft,gd⟩:=o;simp only[]at hop;subst hop;simp[execOp,Instr.alloc,hz,newVar,newRow,Value.cells]
 refine Xa hl ?_;rw[hd];refine hn w.heap.size _ _ ?_;obtain⟨F,ow,hx⟩:=hs.sim.rep;have hh:B<=w.heap.size:=by rw[hs.hB];exact hs.kept.size
 have hj:(⟨n,none,[]⟩ : NP).ok p=true:=by unfold NP.ok;simp[hdn,Rg]
 have hg:Ua F w F (w.alloc (.cells #[.pointer none,.slice none 0 0] T)):=Ua.alloc F w _;have hi:(w.alloc (.cells #[.pointer none,.slice none 0 0] T)).heap[w.heap.size]? = some (.cells #[.pointer none,.slice none 0 0] T (0,0)):=heap_alloc_new _
 refine⟨hs.sim.defers,hs.sim.tmps.putK hj _,hs.hB,λk o h=>(hs.sim.f0 k o h).1,hs.kept.trans ⟨hg.os,hg.tape,hg.output,hg.size,λk hk _=>hg.block k (by omega),λk o hk _=>(hg.block k (aaq.1 hk).1).trans hk⟩,
  .inl ⟨hh,.slice none 0 0,hi,World.ownsRow_nil _ _ _ _,by simp[Value.ownBlock]⟩,he,F,_,ja.move hx he (λn1 hn1=>?_) (λk o hk=>⟨hk,hg.cell (hx.live.lt hk)⟩) hx.sub hx.new (hx.live.grow hg) (λk hk=>?_),λk hk=>?_⟩
 .rw[Ja _ p _ (by rw[hs.sim.tmps.size];exact NP.ok_lt hj) n1,if_neg];intro e1;rw[e1,hdd]at hn1;cases hn1
 .obtain⟨g1,g2⟩:=hx.bd _ _ _ hk;exact⟨aaZ g1 hg.size,g2,hg.block k g1,λ_ h=>h⟩
 .have hk:k=w.heap.size:=hk.elim id λ⟨v,h1,h2⟩=>by
   have h1:(w.alloc (.cells #[.pointer none,.slice none 0 0] T)).cell? ⟨w.heap.size,1,none⟩=some v:=h1
   have h3:(w.alloc (.cells #[.pointer none,.slice none 0 0] T)).cell? ⟨w.heap.size,1,none⟩=some (.slice none 0 0):=by
    unfold aaC;rw[hi];rfl
   rw[h3]at h1;cases h1;cases h2
  subst hk;refine⟨(aaq.1 hi).1,hh,λo ho=>by have:=hx.live.lt ho;omega,λs i h=>?_⟩;obtain⟨_,_,h3⟩:=Cl h;have:=(hx.bd _ _ _ h3).1;omega
theorem BL.told{P:aaW}{ρ:Go.Shelf.Ren}(L:Go.Proofs.Lays.n169 P ρ)(X:Go.Proofs.Builder.Extra P ρ){T f:Nat}(hT:ρ.t 72=T)(h5:ρ.t 5=5)(hf:ρ.f 169=f){n p x B:Nat}{W0:World}{F0:Fz}{b:Nat}{l:List UInt8}{e:Env}{a:Act}{w:World}(h:BL n p x T B W0 F0 b l e a w)(hL:Live F0 W0){d:Nat}{t1:TypeId}
  {o:Oper} (hop:o.op=.call ⟨.value (.func f),#[.tmp p],#[t1]⟩) (hd:o.dst=some d) (hdn:Nat.blt d n=true)
  {next:Act->World->Prop}{Q:Exit->Act->World->Prop} (hn:∀a' w',MS ⟨n,none,[]⟩ B [] W0 F0 [] [(d,.v .fr (.str ⟨l.toArray⟩))] a' w'->next a' w'):o.wp P a w next Q:=by
 subst hT hf;obtain⟨F,ow,hs,hi⟩:=h.rep;have hh:B<=w.heap.size:=by rw[h.hB];exact h.kept.size
 have hq:a.tmps.getD p undef=.pointer (some ⟨b,0,none⟩):=h.tm.kp (p,.pointer (some ⟨b,0,none⟩)) (aaB _)
 have hr:(execOp a.eval o).run P w=.ok (.enter (ρ.f 169) #[.pointer (some ⟨b,0,none⟩)]) w:=by
  obtain⟨dst,op,ty,pos,aft,gd⟩:=o;simp only[]at hop;subst hop;have h1:∀args w,(callFunc (ρ.f 169) args).run P w=.ok (.enter (ρ.f 169) args) w:=Go.Proofs.enters_of L.f169 (by kernel_rfl) rfl;simp[execOp,resolve,Act.eval,aba,invoke,h1,hq]
 unfold Oper.wp;rw[hr,Oper.upon_enter];have hj:aau (ρ.t 72) (ρ.t 5) B b (aaL l) w:=by rw[h5];exact h.bld
 refine(Go.Proofs.Any.Builder_String_any L X B b l w hj hh).mono ?_;rintro e' w' ⟨rfl,h1⟩;show next (a.put o.dst _) w';rw[hd];refine hn _ w' (MS.of ?_ h.hB);have hl:∀k,k<B->w'.heap[k]? = W0.heap[k]?:=λk hk=>(h1.block k hk).trans (h.kept.block k hk (by simp));have hm:∀k o,F0 k o->w'.heap[k]? = W0.heap[k]?:=λk o hk=>hl k (h.f0 k o hk);have ho:(⟨n,none,[]⟩ : NP).ok d=true:=by unfold NP.ok;simp[hdn,Rg]
 have ht:Tms ⟨n,none,[]⟩ [] a.tmps:=⟨h.tm.size,(λs hs=>by cases hs),(λp hp=>by cases hp)⟩
 refine⟨h.df,ht.put ho _,Nat.le_of_eq h.hB,λk o hk=>⟨h.f0 k o hk,by simp⟩,⟨h1.os.trans h.kept.os,h1.tape.trans h.kept.tape,h1.output.trans h.kept.output,?_,λk hk _=>hl k hk,λk o hk _=>?_⟩,F0,λ_ _=>none,
  ⟨⟨λ_ _ h=>h,hs.sub.low⟩,λ_ _ h=>.inl h,⟨λk o hk=>?_,λg cs hg=>?_⟩,(λs i s' i' k h=>by cases h),(λs i k h=>by cases h),λn1=>?_⟩⟩
 .have:=h1.size;have:=h.kept.size;omega
 .exact (hl k (by rw[h.hB];exact(aaq.1 hk).1)).trans hk
 .rw[cell_of_heap (hm k o hk)];exact hL k o hk
 .obtain⟨g1,t,z,g2⟩:=hL.tab g cs hg;exact⟨g1,t,z,(hm g 0 (g1 0 hg.pos)).trans g2⟩
 .show SR _ _ _ _ _ _ _ (da [(d,_)] n1);simp only[da];cases hb:aaU d n1 with
  |false=>trivial
  |true=>
   show RC F0 B w' (.str ⟨l.toArray⟩) ((a.put (some d) (.string ⟨l.toArray⟩)).tmps.getD n1 undef);rw[Ja _ d _ (by rw[ht.size];exact NP.ok_lt ho) n1,if_pos (aay hb).symm];exact .str _
end Lr
namespace Lr
open Go
theorem V4:Go.Proofs.Builder.Extra aas wX:=by
 constructor
 .constructor<;>(intros;first|kernel_rfl|decide)
 all_goals (intros;first|kernel_rfl|decide)
theorem X4:Go.Proofs.Builder.Extra aas vX:=by
 constructor
 .constructor<;>(intros;first|kernel_rfl|decide)
 all_goals (intros;first|kernel_rfl|decide)
noncomputable def C9:Code:=pg Tryz.f9
noncomputable abbrev SPl:SP:=[(19,Iu),(20,tB),(21,zJ)]
def EH(y:Sess)(ls:List ByteArray)(i:Int):Env:=[(3,boxS y),(19,.v .sh (.lst .str ls)),(20,.v .fr (.int .i64 (ba .str ls))),(21,.v .fr (.int .i64 i))]
def EL(y:Sess)(ls:List ByteArray)(i:Int)(t:ByteArray):Env:=[(3,boxS y),(9,.v .fr (.str t)),(19,.v .sh (.lst .str ls)),(20,.v .fr (.int .i64 (ba .str ls))),(21,.v .fr (.int .i64 i))]
abbrev rE:Nat:=50
abbrev BX(B:Nat)(W0:World)(F0:Fz)(b:Nat)(l:List UInt8)(e:Env)(a:Act)(w:World):Prop:=BL 39 5 3 rE B W0 F0 b l e a w
theorem Y4(G:Good aas tt SPl){Q:Exit->Act->World->Prop}{B:Nat}{W0:World}{F0:Fz}{b:Nat}{l:List UInt8}{y:Sess}{ls:List ByteArray}{i:Int}{e:Env}{a:Act}{w:World}(h:BX B W0 F0 b l e a w)
  (he:e=EH y ls i\/∃s1 s2 s3,e=(35,.v .fr (.str s1))::(34,.v .fr (.str s2))::EL y ls i s3)
  (hQ:∀a w,BX B W0 F0 b l (EH y ls (ar .add .i64 i 1)) a w->Q .normal a w):(nav C9 [1,1,1,1,0,1,0,0,1,1,1]).wp aas Q a w:=by
 have hx:∃cs,da e 3=.box cs:=by
  rcases he with rfl|⟨s1,s2,s3,rfl⟩<;>exact⟨_,rfl⟩
 obtain⟨cs,hx⟩:=hx;refine h.run hx λb3 F hm back=>?_;rcases he with rfl|⟨s1,s2,s3,rfl⟩
 .refine aaG G (keep:=[3,19,20,21]) (e':=EH y ls (ar .add .i64 i 1)) (ps:=[]) hm (λa w hs=>?_);exact hQ _ _ (back _ _ _ rfl hs)
 .refine aaG G (keep:=[3,19,20,21]) (e':=EH y ls (ar .add .i64 i 1)) (ps:=[]) hm (λa w hs=>?_);exact hQ _ _ (back _ _ _ rfl hs)
noncomputable def g11(i:Nat):Oper:=opN (opsOf (nav C9 [1,1,1,1,0,1,0,0,1,1,0,0,1,1,1,1])) i
theorem Z4:(g11 0).dst=some 34/\(g11 0).guard=none/\(g11 1).dst=some 35/\(g11 1).guard=none/\(g11 2).op=.call ⟨.value (.func 22),#[.tmp 5,.tmp 35],#[50, 9]⟩/\(g11 2).dst=some 36/\(g11 2).guard=none /\
  aaX (opsOf (nav C9 [1,1,1,1,0,1,0,0,1,1,0,0,1,1,1,1])).size=[0,1,2]/\(opsOf (nav C9 [1,1,1,1,0,1,0,0,1,1,0,0,1,1,1,1]))[0]? = some (g11 0)/\(opsOf (nav C9 [1,1,1,1,0,1,0,0,1,1,0,0,1,1,1,1]))[1]? = some (g11 1)/\(opsOf (nav C9 [1,1,1,1,0,1,0,0,1,1,0,0,1,1,1,1]))[2]? = some (g11 2):=(by and_intros<;>kernel_rfl)
theorem l5(G:Good aas tt SPl){Q:Exit->Act->World->Prop}{B:Nat}{W0:World}{F0:Fz}{b:Nat}{l:List UInt8}{y:Sess}{ls:List ByteArray}{i:Int}{t:ByteArray}{a:Act}{w:World}(h:BX B W0 F0 b l ((7,.v .fr (.str t))::EH y ls i) a w)
  (hp:Xi (sE y) t) (hlim:lim (fa (sc (sE y) t).2.1) (fa (bs [10]))) (hlen:l.length+((sc (sE y) t).2.1++bs [10]).size<=1099511627776)
  (hQ:∀e a w,(e=EH (sc (sE y) t).1 ls i\/∃s1 s2 s3,e=(35,.v .fr (.str s1))::(34,.v .fr (.str s2))::EL (sc (sE y) t).1 ls i s3)->BX B W0 F0 b (l++((sc (sE y) t).2.1++bs [10]).data.toList) e a w->Q .normal a w) :
  (nav C9 [1,1,1,1,0,1,0,0,1,1,0,0,1,1]).wp aas Q a w:=by
 obtain⟨d0,q0,d1,q1,p2,d2,q2,hsz,a0,a1,a2⟩:=Z4;refine h.run (cs:=_) rfl λb3 F hm back=>?_;refine wpS ?_;refine MS.regC G (keep:=[3,8,9,19,20,21]) (e':=[(3,boxS y),(8,boxS (sc (sE y) t).1),(9,.v .fr (.str (sc (sE y) t).2.1)),(19,.v .sh (.lst .str ls)),(20,.v .fr (.int .i64 (ba .str ls))),(21,.v .fr (.int .i64 i))]) (ps:=[Xi (sE y) t]) (by kernel_rfl) ⟨hp,trivial⟩ hm (λa w hs=>?_);show(nav C9 [1,1,1,1,0,1,0,0,1,1,0,0,1,1,1]).wp _ _ a w;refine wpS ?_;refine aaG G (keep:=[3,9,19,20,21]) (e':=EL (sc (sE y) t).1 ls i (sc (sE y) t).2.1) (ps:=[]) hs (λa w hs=>?_);show(nav C9 [1,1,1,1,0,1,0,0,1,1,0,0,1,1,1,1]).wp _ _ a w;refine Kc (by kernel_rfl) hsz ?_;rw[aaE];refine va a0 q0 ?_;refine hs.stepF G (ops:=opsOf (nav C9 [1,1,1,1,0,1,0,0,1,1,0,0,1,1,1,1])) (e':=(34,.v .fr (.str (sc (sE y) t).2.1))::EL (sc (sE y) t).1 ls i (sc (sE y) t).2.1) (ps:=[]) q0 (by kernel_rfl) trivial (λd h=>by rw[d0]at h;cases h;kernel_rfl) (λa w hs=>?_);rw[aaE];refine va a1 q1 ?_;refine hs.stepF G (ops:=opsOf (nav C9 [1,1,1,1,0,1,0,0,1,1,0,0,1,1,1,1])) (e':=(35,.v .fr (.str ((sc (sE y) t).2.1++bs [10])))::(34,.v .fr (.str (sc (sE y) t).2.1))::EL (sc (sE y) t).1 ls i (sc (sE y) t).2.1) (ps:=[lim (fa (sc (sE y) t).2.1) (fa (bs [10]))]) q1 (by kernel_rfl) ⟨hlim,trivial⟩ (λd h=>by rw[d1]at h;cases h;kernel_rfl) (λa w hs=>?_);rw[aaE];refine va a2 q2 ?_;have hb:=back _ _ _ rfl hs;refine BL.write xX V4 rfl rfl rfl hb (y:=35) rfl (by omega) p2 d2 rfl rfl rfl λa w hb=>?_;refine xc _ ?_;exact hQ _ a w (.inr ⟨_,_,_,rfl⟩) hb
noncomputable def st(S0:Sess)(ls:List ByteArray)(n:Nat):Sess×ByteArray:=(ls.take n).foldl Pc (S0,aal)
theorem w5(s:Sess)(o o' l:ByteArray):(Pc (s,o) l).1=(Pc (s,o') l).1:=by
 unfold Pc;cases seq l aal<;>rfl
theorem fR:∀(ls:List ByteArray) (s:Sess) (o:ByteArray),Xp s ls->∀n x,ls[n]? = some x->seq x aal=false ->
  Xi (sE ((ls.take n).foldl Pc (s,o)).1) x/\lim (fa (sc (sE ((ls.take n).foldl Pc (s,o)).1) x).2.1) (fa (bs [10]))
 |l::r,s,o,h,0,x,hx,he=>by
  have hx:l=x:=by simpa using hx
  subst hx;exact h.1 he
 |l::r,s,o,h,n+1,x,hx,he=>by
  have h1:=fR r (Pc (s,aal) l).1 (Pc (s,o) l).2 h.2 n x (by simpa using hx) he;rw[w5 s aal o l]at h1;exact h1
theorem B5(p:Sess×ByteArray)(l:ByteArray):p.2.size<=(Pc p l).2.size:=by
 unfold Pc;cases seq l aal with
 |true=>exact aaA _
 |false=>show _<=(p.2++_).size;rw[aaV];exact Nat.le_add_right _ _
theorem iR:∀(ls:List ByteArray) (p:Sess×ByteArray),p.2.size<=(ls.foldl Pc p).2.size
 |[],_=>aaA _
 |l::r,p=>Nat.le_trans (B5 p l) (iR r (Pc p l))
theorem C5(S0:Sess)(ls:List ByteArray)(n:Nat):(st S0 ls n).2.size<=(ls.foldl Pc (S0,aal)).2.size:=by
 conv=>rhs;rw[<-List.take_append_drop n ls,aaN]
 exact iR _ _
theorem st_succ{S0:Sess}{ls:List ByteArray}{n:Nat}(h:n<ls.length):st S0 ls (n+1)=Pc (st S0 ls n) (rd .str ls n):=by
 unfold st;rw[List.take_succ_eq_append_getElem h,aaN]
 have:rd .str ls n=ls[n]:=by
  unfold rd;rw[aaM,show(n:Int).toNat=n from rfl,aaP h];rfl
 rw[this];rfl
theorem D5(G:Good aas tt SPl){Q:Exit->Act->World->Prop}{B:Nat}{W0:World}{F0:Fz}{b:Nat}{S0:Sess}{ls:List ByteArray}(hlen:ls.length<=1000000)(hp:Xp S0 ls)(hsz:(ls.foldl Pc (S0,aal)).2.size<=1099511627776){n:Nat}(hn:n<=ls.length){a:Act}{w:World}
  (h:BX B W0 F0 b (st S0 ls n).2.data.toList (EH (st S0 ls n).1 ls n) a w)
  (hQ:∀a w,n<ls.length->BX B W0 F0 b (st S0 ls (n+1)).2.data.toList (EH (st S0 ls (n+1)).1 ls ((n+1:Nat):Int)) a w->Q .normal a w) (hE:∀a w,n=ls.length->BX B W0 F0 b (st S0 ls n).2.data.toList (EH (st S0 ls n).1 ls n) a w->Q (.exit 0) a w) :
  (nav C9 [1,1,1,1,0,1,0,0]).wp aas Q a w:=by
 generalize hy:(st S0 ls n).1=y at h hE
 have hh:ar .add .i64 (n:Int) 1=((n+1:Nat):Int):=by
  rw[ub (by omega)]
  push_cast
  rfl
 refine h.run (cs:=_) rfl λb3 F hm back=>?_;refine wpS ?_;refine aaG G (keep:=[3,19,20,21,22]) (e':=[(3,boxS y),(19,.v .sh (.lst .str ls)),(20,.v .fr (.int .i64 (ba .str ls))),(21,.v .fr (.int .i64 n)),(22,.v .fr (.bool (cmp .lss n (ba .str ls))))]) (ps:=[]) hm (λa w hs=>?_);show(nav C9 [1,1,1,1,0,1,0,0,1]).wp _ _ a w;refine wpS ?_;refine wpC (o:=.tmp 22) (hs.bool (k:=.fr) rfl) (λht=>Ed (by kernel_rfl) ?_) (λhf=>Wf (i:=0) (by kernel_rfl) ?_)
 .have hr:n<ls.length:=by
   have:=of_decide_eq_true (show decide ((n:Int)<ba .str ls)=true from ht);unfold ba at this;omega
  have hu:=st_succ (S0:=S0) hr
  have hj:∀ {e:Env}{l:List UInt8}{z:Sess}{a:Act}{w:World},BX B W0 F0 b l e a w->l=(st S0 ls (n+1)).2.data.toList->z=(st S0 ls (n+1)).1->(e=EH z ls n\/∃s1 s2 s3,e=(35,.v .fr (.str s1))::(34,.v .fr (.str s2))::EL z ls n s3)->(nav C9 [1,1,1,1,0,1,0,0,1,1,1]).wp aas Q a w:=λhb hl hz he=>by
   subst hl hz;refine Y4 G hb he λa w hb=>?_;rw[hh]at hb;exact hQ a w hr hb
  show(nav C9 [1,1,1,1,0,1,0,0,1,1]).wp _ _ a w;refine wpS ?_;refine wpB (id:=1) ?_;refine wpS ?_;refine MS.regC G (keep:=[3,7,19,20,21]) (e':=[(3,boxS y),(7,.v .fr (.str (rd .str ls n))),(19,.v .sh (.lst .str ls)),(20,.v .fr (.int .i64 (ba .str ls))),(21,.v .fr (.int .i64 n))]) (ps:=[inb n (ba .str ls)]) (by kernel_rfl) ⟨⟨by omega,by unfold ba;omega⟩,trivial⟩ hs (λa w hs=>?_);show(nav C9 [1,1,1,1,0,1,0,0,1,1,0,0,1]).wp _ _ a w;refine wpS ?_;refine wpS ?_;refine aaG G (keep:=[7,3,19,20,21,26]) (e':=(7,.v .fr (.str (rd .str ls n)))::(EH y ls n++[(26,.v .fr (.bool (seq (rd .str ls n) aal)))])) (ps:=[]) hs (λa w hs=>?_);show(nav C9 [1,1,1,1,0,1,0,0,1,1,0,0,1,0,1]).wp _ _ a w;refine wpC (o:=.tmp 26) (hs.bool (k:=.fr) rfl) (λht=>Wf (i:=1) (by kernel_rfl) ?_) (λhf=>Ed (by kernel_rfl) ?_)
  .have hs:=hs.weak (wa.cast (e':=EH y ls n) (pat:=[(3,.same),(19,.same),(20,.same),(21,.same)]))
   have hx:st S0 ls (n+1)=st S0 ls n:=by
    rw[hu];unfold Pc;rw[ht];rfl
   have hb:=back _ _ _ rfl hs;show(nav C9 [1,1,1,1,0,1,0,0,1,1,1]).wp aas _ a w;exact hj hb (by rw[hx]) (by rw[hx,hy]) (.inl rfl)
  .have hs:=hs.weak (wa.cast (e':=(7,.v .fr (.str (rd .str ls n)))::EH y ls n) (pat:=[(7,.same),(3,.same),(19,.same),(20,.same),(21,.same)]) (by kernel_rfl) (by kernel_rfl));have hb:=back _ _ _ rfl hs
   have ho:ls[n]? = some (rd .str ls n):=by
    unfold rd;rw[aaM,show(n:Int).toNat=n from rfl,aaP hr];rfl
   obtain⟨h1,h2⟩:=fR ls S0 aal hp n _ ho hf
   have hx:st S0 ls (n+1)=((sc (sE y) (rd .str ls n)).1,(st S0 ls n).2++((sc (sE y) (rd .str ls n)).2.1++bs [10])):=by
    rw[hu];unfold Pc;rw[hf,hy];rfl
   have hq:=C5 S0 ls (n+1);rw[hx,aaV]at hq;have hi:(st S0 ls n).2.data.toList.length=(st S0 ls n).2.size:=rfl;have h1:Xi (sE (st S0 ls n).1) (rd .str ls n):=h1;have h2:lim (fa (sc (sE (st S0 ls n).1) (rd .str ls n)).2.1) (fa (bs [10])):=h2;rw[hy]at h1 h2;refine l5 G hb h1 h2 (by rw[hi];omega) λe a w he hb=>?_;show(nav C9 [1,1,1,1,0,1,0,0,1,1,1]).wp aas _ a w;exact hj hb (by rw[hx];simp[ByteArray.data_append]) (by rw[hx]) he
 .have hk:n=ls.length:=by
   have:=of_decide_eq_false (show decide ((n:Int)<ba .str ls)=false from hf);unfold ba at this;omega
  exact hE a w hk (back _ _ _ rfl (hs.weak (wa.cast (e':=EH y ls n) (pat:=[(3,.same),(19,.same),(20,.same),(21,.same)]))))
noncomputable def g4:Oper:=opN (opsOf (nav C9 [1,1,1,0])) 0
noncomputable def g13(i:Nat):Oper:=opN (opsOf (nav C9 [1,1,1,1,1,0])) i
theorem op4:g4.op=.alloc rE/\g4.dst=some 5/\g4.guard=none/\aaX (opsOf (nav C9 [1,1,1,0])).size=[0]/\(opsOf (nav C9 [1,1,1,0]))[0]? = some g4:=(by and_intros<;>kernel_rfl)
theorem E5:(g13 0).op=.call ⟨.value (.func 23),#[.tmp 5],#[rE]⟩/\(g13 0).dst=some 38/\(g13 0).guard=none/\(g13 1).dst=some 2/\(g13 1).guard=none /\
  aaX (opsOf (nav C9 [1,1,1,1,1,0])).size=[0,1]/\(opsOf (nav C9 [1,1,1,1,1,0]))[0]? = some (g13 0)/\(opsOf (nav C9 [1,1,1,1,1,0]))[1]? = some (g13 1):=(by and_intros<;>kernel_rfl)
theorem con(G:Good aas tt SPl):CP 9 AJ:=by
 refine ol G.htt (fn:=Tryz.f9) (c:=C9) (by kernel_rfl) (by kernel_rfl) (by kernel_rfl) (rs:=[.tmp 2]) (by kernel_rfl) (by kernel_rfl) (λ_=>rfl) ?_;intro x hx fr hi hj hh a w hs;obtain⟨B,IoB,W0,F0⟩:=fr;have hh:IoB=[]:=hh rfl;subst hh;obtain⟨s,u⟩:=x;have hx:Ix s:=hx;have hk:MS ⟨39,none,[]⟩ B [] W0 F0 [] [(0,.v .fr (.str s))] a w:=((MS.of hs hi).forget (N':=⟨39,none,[]⟩) (obs':=[]) (by kernel_rfl) rfl (λp h=>by cases h) (λp h=>by cases h)).weak (wa.cast (pat:=[(0,.same)]))
 have hl:∀ {a:Act}{w:World}{t:ByteArray},MS ⟨39,none,[]⟩ B [] W0 F0 [] [(2,.v .fr (.str t))] a w->t=xk s->∃e',Sim ⟨(Tryz.f9).ntmps,pb [.str] 0,[]⟩ B [] W0 F0 e' a w/\ll tt [.tmp 2] AJ (s,u) e':=λhs ht=>by
  subst ht;exact⟨_,(hs.forget (N':=⟨(Tryz.f9).ntmps,none,[]⟩) (obs':=[]) (by kernel_rfl) rfl (λp h=>by cases h) (λp h=>by cases h)).to,rfl,trivial⟩
 refine dh (c1:=nav C9 [0]) (c2:=nav C9 [1]) (by kernel_rfl) ?_;refine aaG G (keep:=[0]) (e':=[(0,.v .fr (.str s))]) (ps:=[]) hk (λa w hs=>?_);show(nav C9 [1]).wp _ _ a w;refine wpS ?_;refine wpS ?_;refine aaG G (keep:=[0,12]) (e':=[(0,.v .fr (.str s)),(12,.v .fr (.bool (cmp .gtr (fa s) 2000)))]) (ps:=[]) hs (λa w hs=>?_);show(nav C9 [1,0,1]).wp _ _ a w;refine wpC (o:=.tmp 12) (hs.bool (k:=.fr) rfl) (λht=>?_) (λhf=>Ed (by kernel_rfl) ?_)
 .refine wpS ?_;refine aaG G (keep:=[2]) (e':=[(2,.v .fr (.str (bs [116,111,111,32,108,111,110,103,10])))]) (ps:=[]) hs (λa w hs=>?_);refine Ih (by kernel_rfl) ?_;exact hl hs (by unfold xk;rw[ht];rfl)
 obtain⟨p1,p2,p3,p4,p5⟩:=hx hf;have hv:xk s=((se s (bs [10])).foldl Pc ((nh (Plan.mk 1 0 [])).1,aal)).2:=by unfold xk;rw[hf];rfl
 generalize hS:(nh (Plan.mk 1 0 [])).1=S0 at p4 p5 hv;generalize hls:se s (bs [10])=ls at p3 p4 p5 hv;show(nav C9 [1,1]).wp _ _ a w;refine wpS ?_;refine MS.regC G (keep:=[0,3]) (e':=[(0,.v .fr (.str s)),(3,boxS (nh (Plan.mk 1 0 [])).1)]) (ps:=[Ul (Plan.mk 1 0 [])]) (by kernel_rfl) ⟨p1,trivial⟩ hs (λa w hs=>?_);rw[hS]at hs;show(nav C9 [1,1,1]).wp _ _ a w;refine wpS ?_;obtain⟨i1,i2,i3,i4,i5⟩:=op4;refine Kc (by kernel_rfl) i4 ?_;rw[aaE];refine va i5 i3 ?_;refine BL.start (x:=3) hs rfl i1 xX.v72 i2 rfl rfl λb a w hb=>?_;refine xc _ ?_;show(nav C9 [1,1,1,1]).wp _ _ a w;refine wpS ?_;refine wpS ?_;refine hb.run (cs:=_) rfl λb3 F hm back=>?_;refine MS.regC G (keep:=[3,19,20,21]) (e':=[(3,boxS S0),(19,.v .fr (.lst .str (se s (bs [10])))),(20,.v .fr (.int .i64 (ba .str (se s (bs [10]))))),(21,.v .fr (.int .i64 0))]) (ps:=[Em s (bs [10])]) (by kernel_rfl) ⟨p2,trivial⟩ hm (λa w hs=>?_);have hs:=hs.weak (wa.cast (e':=EH S0 (se s (bs [10])) 0) (pat:=[(3,.same),(19,.sh),(20,.same),(21,.same)]));rw[hls]at hs;have hb:=back _ _ _ rfl hs;show(nav C9 [1,1,1,1,0,1]).wp _ _ a w;refine Vf (c1:=nav C9 [1,1,1,1,0,1,0]) (id:=0) (by kernel_rfl) ?_;rw[show nav C9 [1,1,1,1,0,1,0]=.loop (nav C9 [1,1,1,1,0,1,0,0]) by kernel_rfl];refine Ef (σ:=Nat) (λn a w=>n<=ls.length/\BX B W0 F0 b (st S0 ls n).2.data.toList (EH (st S0 ls n).1 ls n) a w) (λn=>ls.length - n) ?_ 0 ⟨Nat.zero_le _,hb⟩;rintro n a w ⟨hn,hb⟩;refine D5 G p3 p4 p5 hn hb (λa w hlt hb=>⟨n+1,by omega,by omega,hb⟩) λa w he hb=>?_;simp only[Exit.then,Exit.inBlock,if_true];refine wpS ?_;obtain⟨j1,j2,j3,j4,j5,j6,j7,j8⟩:=E5;refine Kc (by kernel_rfl) j6 ?_;rw[aaE];refine va j7 j3 ?_;refine BL.told Cah X4 rfl rfl rfl hb hj j1 j2 rfl λa w hs=>?_;rw[aaE];refine va j8 j5 ?_;refine hs.stepF G (ops:=opsOf (nav C9 [1,1,1,1,1,0])) (e':=[(2,.v .fr (.str ⟨((st S0 ls n).2.data.toList).toArray⟩)),(38,.v .fr (.str ⟨((st S0 ls n).2.data.toList).toArray⟩))]) (ps:=[]) j5 (by kernel_rfl) trivial (λd h=>by rw[j4]at h;cases h;kernel_rfl) (λa w hs=>?_);refine xc _ ?_;refine Ih (by kernel_rfl) ?_;refine hl (t:=⟨((st S0 ls n).2.data.toList).toArray⟩) (hs.weak (wa.cast (pat:=[(2,.same)]))) ?_;rw[hv];unfold st;rw[List.take_of_length_le (by omega)]
end Lr
end
theorem Paf:dc aas tt:=Cn (by kernel_rfl)
theorem Qaf : aas.follows .mixedOrders=true:=by kernel_rfl
theorem g0:Gd []:=.nil Paf Qaf
theorem Raf:CP 12 RF:=m9 (g0)
theorem YM:CP 13 Io:=r9 (g0)
theorem Saf:CP 14 YF:=B9 (g0)
theorem rW:∀n,CP 16 (fu (Jd n).1 (Jd n).2)
 |0=>Xf (fn:=Tryz.f16) λ_ h=>h
 |n+1=>H9 (.cons YM (.cons (rW n) g0))
theorem Taf:CP 16 mT:=(rW Ya)
theorem ZM:CP 49 Ko:=J9 (g0)
theorem iB:CP 65 Pl:=M9 (g0)
theorem sW:∀n,CP 48 (gu (Kd n).1 (Kd n).2)
 |0=>Xf (fn:=Tryz.f48) λ_ h=>h
 |n+1=>Q9 (.cons ZM (.cons iB (.cons (sW n) g0)))
theorem Uaf:CP 48 tT:=(sW Ya)
theorem aN:CP 27 Lo:=S9 (.cons Uaf g0)
theorem tW:∀n,CP 17 (lu (Qd n).1 (Qd n).2)
 |0=>Xf (fn:=Tryz.f17) λ_ h=>h
 |n+1=>U9 (.cons (tW n) g0)
theorem Yq:CP 17 Sl:=(tW Ya)
theorem uW:∀n,CP 28 (nu (qd n).1 (qd n).2)
 |0=>Xf (fn:=Tryz.f28) λ_ h=>h
 |n+1=>X9 (.cons ZM (.cons Yq (.cons (uW n) g0)))
theorem Vaf:CP 28 vT:=(uW Ya)
theorem vW:CP 15 su:=Z9 (.cons aN (.cons Vaf g0))
theorem Waf:CP 18 mG:=baa (.cons YM g0)
theorem Maj:CP 8 wT:=eaa (.cons Raf (.cons YM (.cons Saf (.cons Taf (.cons vW (.cons Yq (.cons Waf g0)))))))
theorem wW:CP 76 Bu:=gaa (g0)
theorem xW:∀n,CP 50 (Cu (Md n).1 (Md n).2)
 |0=>Xf (fn:=Tryz.f50) λ_ h=>h
 |n+1=>jaa (.cons wW (.cons (xW n) g0))
theorem Xaf:CP 50 CT:=(xW Ya)
theorem jB:CP 29 Tl:=laa (.cons Xaf g0)
theorem yW:∀n,CP 30 (Fu (me n).1 (me n).2)
 |0=>Xf (fn:=Tryz.f30) λ_ h=>h
 |n+1=>oaa (.cons (yW n) g0)
theorem bN:CP 30 CG:=(yW Ya)
theorem zW:CP 19 Iu:=qaa (.cons jB (.cons bN g0))
theorem BW:CP 111 Ju:=taa (.cons yN g0)
theorem CW:∀n,CP 82 (Ku (nb n).1 (nb n).2)
 |0=>Xf (fn:=Tryz.f82) λ_ h=>h
 |n+1=>yaa (.cons wW (.cons BW (.cons (CW n) g0)))
theorem Yaf:CP 82 IT:=(CW Ya)
theorem DW:∀n,CP 112 (Su (oe n).1 (oe n).2)
 |0=>Xf (fn:=Tryz.f112) λ_ h=>h
 |n+1=>Baa (.cons BW (.cons (DW n) g0))
theorem Zaf:CP 112 MT:=(DW Ya)
theorem aag:CP 83 SG:=Daa (.cons jB (.cons Zaf g0))
theorem bag:CP 55 UG:=Faa (.cons zN (.cons Yaf (.cons jB (.cons aag g0))))
theorem cag:CP 33 WG:=Haa (.cons bag (.cons zW g0))
theorem dag:CP 34 ZG:=Kaa (.cons Dah g0)
theorem kB:CP 96 tk:=QT (g0)
theorem EW:CP 91 gv:=Oaa (.cons kB g0)
theorem eag:CP 128 fH:=Raa (g0)
theorem fag:CP 114 iH:=Uaa (.cons eag g0)
theorem gag:CP 115 np:=WT (.cons kB g0)
theorem cN:CP 86 rp:=Zaa (.cons fag (.cons gag g0))
theorem dN:CP 117 qv:=cab (g0)
theorem iag:CP 149 qH:=fab (g0)
theorem Zq:CP 89 vk:=iab (.cons con_impl_consolidated (.cons cN g0))
theorem jag:CP 131 vH:=lab (.cons iag (.cons Zq g0))
theorem FW:CP 90 Dv:=nab (g0)
theorem kag:CP 132 BH:=qab (g0)
theorem lag:CP 150 FH:=uab (g0)
theorem mag:CP 151 Ap:=cU (.cons kB g0)
theorem nag:CP 133 MH:=Aab (.cons lag (.cons mag (.cons Zq g0)))
theorem GW:CP 116 Qv:=Dab (g0)
theorem IW:CP 97 Tv:=Gab (.cons GW (.cons rR g0))
theorem oag:CP 180 ZH:=Kab (g0)
theorem JW:CP 181 ew:=Nab (g0)
theorem pag:CP 182 jI:=Qab (.cons JW g0)
theorem qag:CP 153 mI:=Uab (.cons oag (.cons JW (.cons pag g0)))
theorem rag:CP 134 wI:=bac (.cons lai (.cons IW (.cons qag (.cons rR (.cons Zq g0)))))
theorem MW:∀n,CP 119 (Cw (pe n).1 (pe n).2)
 |0=>Xf (fn:=Tryz.f119) λ_ h=>h
 |n+1=>eac (.cons (MW n) (.cons dN (.cons jag (.cons FW (.cons Zq (.cons kag (.cons nag (.cons rag g0))))))))
theorem sag:CP 119 yU:=(MW Ya)
theorem PW:CP 92 Hw:=hac (.cons jB (.cons cN (.cons sag g0)))
theorem lB:CP 87 cm:=kac (.cons GW g0)
theorem QW:CP 94 Nw:=nac (.cons lB g0)
theorem tag:CP 113 RI:=qac (g0)
theorem iN:CP 85 Pp:=sac (.cons EW (.cons PW (.cons QW (.cons tag g0))))
theorem jN:CP 93 Ow:=uac (g0)
theorem RW:CP 88 Qw:=wac (.cons bN (.cons jN (.cons dN g0)))
theorem uag:xl aas 88 Rd ph:=Ds.conI (.cons bN (.cons jN (.cons dN g0)))
theorem vag:CP 57 cJ:=Aac ⟨.cons iN (.cons cN (.cons lB (.cons RW (.cons FW (.cons Zq g0))))),uag⟩
theorem wag:CP 35 gJ:=Dac (.cons vag g0)
theorem xag:CP 58 mJ:=Hac (.cons iN (.cons EW (.cons lB (.cons PW (.cons RW (.cons jN (.cons QW g0)))))))
theorem yag:CP 36 qJ:=Lac (.cons xag (.cons yN g0))
theorem zag:CP 60 sJ:=Nac (.cons iN (.cons kB (.cons lB (.cons IW g0))))
theorem Aag:CP 37 vJ:=Qac (.cons zag (.cons yN g0))
theorem Bag:CP 21 zJ:=Tac (.cons Eah (.cons cag (.cons zN (.cons dag (.cons wag (.cons yag (.cons Aag g0)))))))
theorem Naj:CP 9 AJ:=Lr.con (.cons zW (.cons zN (.cons Bag g0)))
theorem SW:∀n,CP 39 (Jx (qe n).1 (qe n).2)
 |0=>Xf (fn:=Tryz.f39) λ_ h=>h
 |n+1=>Wac (.cons (SW n) g0)
theorem kN:CP 39 CJ:=(SW Ya)
theorem TW:CP 24 Nx:=Yac (.cons aN (.cons kN g0))
theorem lN:CP 25 bq:=cad (g0)
theorem UW:CP 63 Wx:=fad (.cons Yq g0)
theorem VW:∀n,CP 62 (Xx (xb n).1 (xb n).2)
 |0=>Xf (fn:=Tryz.f62) λ_ h=>h
 |n+1=>kad (.cons UW (.cons ZM (.cons (VW n) g0)))
theorem Cag:CP 62 XU:=(VW Ya)
theorem Dag:CP 40 QJ:=mad (.cons lN (.cons Cag (.cons vW g0)))
theorem Eag:CP 41 TJ:=pad (.cons UW g0)
theorem Cm:CP 74 Yi:=rad (.cons iB g0)
theorem mN:CP 70 jq:=uad (.cons Cm g0)
theorem Fag:CP 122 ZJ:=xad (.cons iB (.cons Cm g0))
theorem mB:CP 99 om:=Aad (.cons Fag g0)
theorem WW:CP 100 qy:=Dad (g0)
theorem nB:CP 66 pm:=Gad (.cons mB (.cons WW g0))
theorem Gag:CP 140 kK:=Jad (g0)
theorem Hag:CP 101 qK:=Mad (.cons WW g0)
theorem cj:CP 69 rh:=Qad (.cons Hag g0)
theorem Iag:CP 123 zK:=Tad (.cons Gag (.cons cj g0))
theorem Jag:CP 104 CK:=Wad (.cons nB g0)
theorem XW:CP 73 Qy:=Zad (.cons mB (.cons cj (.cons Jag g0)))
theorem Kag:CP 141 JK:=cae (g0)
theorem YW:CP 142 Ry:=fae (.cons Cm g0)
theorem Lag:CP 124 RK:=kae (.cons Kag (.cons YW (.cons cj g0)))
theorem Mag:CP 185 WK:=nae (g0)
theorem Nag:CP 159 jL:=uae (.cons mB (.cons Mag (.cons YW g0)))
theorem nN:CP 102 tq:=xae (.cons Cm g0)
theorem ZW:CP 105 wz:=Bae (.cons cj g0)
theorem aX:CP 75 Az:=Eae (.cons mB (.cons Cm (.cons nN (.cons ZW g0))))
theorem Oag:CP 186 vL:=Hae (g0)
theorem Pag:CP 160 AL:=Kae (.cons Oag g0)
theorem Qag:CP 143 PL:=Qae (.cons Nag (.cons aX (.cons Pag (.cons nN (.cons ZW g0)))))
theorem Rag:CP 125 XL:=Tae (.cons Qag (.cons cj g0))
theorem cX:∀n,CP 103 (Wz (sd n).1 (sd n).2)
 |0=>Xf (fn:=Tryz.f103) λ_ h=>h
 |n+1=>Xae (.cons (cX n) (.cons Iag (.cons cj (.cons XW (.cons Lag (.cons Rag (.cons nB g0)))))))
theorem Sag:CP 103 ZV:=(cX Ya)
theorem eX:CP 72 fA:=aaf (.cons aN (.cons nB (.cons Sag g0)))
theorem oN:CP 71 Dq:=daf (.cons mN (.cons nN g0))
theorem pN:CP 67 Fq:=gaf (.cons oN g0)
theorem Tag:CP 98 mM:=jaf (g0)
theorem qN:CP 64 Kq:=laf (.cons mN (.cons eX (.cons pN (.cons Tag g0))))
theorem fX:CP 68 qA:=naf (.cons kN g0)
theorem Uag:xl aas 68 Sd th:=Ds.conS (.cons kN g0)
theorem Vag:CP 42 tM:=qaf ⟨.cons qN (.cons iB (.cons nB (.cons pN (.cons fX (.cons cj g0))))),Uag⟩
theorem Wag:CP 44 wM:=taf (g0)
theorem Xag:CP 43 AM:=xaf (.cons qN (.cons mN (.cons oN (.cons fX (.cons eX (.cons pN (.cons XW (.cons cj g0))))))))
theorem Yag:CP 45 DM:=Aaf (.cons Yq g0)
theorem Zag:CP 46 FM:=Caf (.cons qN (.cons Cm (.cons oN (.cons aX g0))))
theorem aah:CP 47 IM:=Faf (.cons Yq g0)
theorem bah:CP 26 QM:=Kaf (.cons lN (.cons Dag (.cons TW (.cons Eag (.cons Vag (.cons Wag (.cons Xag (.cons Yag (.cons Zag (.cons aah g0))))))))))
theorem Oaj:CP 10 qW:=Oaf (.cons TW (.cons lN (.cons bah g0)))
end Go.Proofs.YteogppapbognjaaGreatDoor
