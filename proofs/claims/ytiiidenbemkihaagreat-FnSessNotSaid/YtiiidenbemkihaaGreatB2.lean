/-
  What the drawing functions give: bounds. Sums of rows and of items in the reference: they are the gathered ones. What is drawn for laws of loops: bounds. Sets and steps of loops, by what they compute. Sums over changes, and what is left of them when they are put in order. Sums but for multiples of 2 to the power of 64: what is left of changes put in order depends on these alone. The times of a key's rows closed under joins: a set that has them, is closed, and has nothing else is known. Maps from structs of numbers to 'true': sets; how the machine's operations on them run. What plans make of batches: a model of the operators. What plans make of batches: bounds on what an aggregate makes. Rows, batches, and what they come to at a time: what the program's functions and the reference's compute. What operators make of changes sums up, at each time, to what they make of the sums. No statement is proved here.
-/
import Derived.Test.YtiiidenbemkihaaGreatB1

namespace Go.Proofs.YtiiidenbemkihaaGreat
open Go
structure Xc(b:List Int):Prop where
 byte:∀x∈b,0<=x/\x<=255
 len:b.length<=2000
def jk(b:List Int)(i:Int):Int:=b.getD i.toNat 0
theorem Xah(b:List Int)(i:Int):rd .byte b i=jk b i:=rfl
theorem WL{b:List Int}(h:Xc b)(i:Int):0<=jk b i/\jk b i<=255:=by
 unfold jk;rw[List.getD_eq_getElem?_getD];cases hg:b[i.toNat]? with
 |none=>simp
 |some x=>exact h.byte x (List.mem_of_getElem? hg)
theorem Yah{a b:Int}(ha:0<=a/\a<4611686018427387904)(hb:0<=b/\b<4611686018427387904):0<=xr .i64 a b/\xr .i64 a b<4611686018427387904:=by
 unfold xr;have h1:(BitVec.ofInt 64 a).toNat<2 ^ 62:=by rw[BitVec.toNat_ofInt];omega
 have h2:(BitVec.ofInt 64 b).toNat<2 ^ 62:=by rw[BitVec.toNat_ofInt];omega
 have h3:=Nat.xor_lt_two_pow h1 h2;show 0<=IntKind.i64.wrap ((BitVec.ofInt 64 a ^^^ BitVec.ofInt 64 b).toNat:Int)/\IntKind.i64.wrap ((BitVec.ofInt 64 a ^^^ BitVec.ofInt 64 b).toNat:Int)<4611686018427387904;rw[BitVec.toNat_xor];generalize (BitVec.ofInt 64 a).toNat ^^^ (BitVec.ofInt 64 b).toNat=m at h3;rw[IntWalk.i64_in _ (by omega)];omega
theorem Hb{b:List Int}(hb:Xc b){p n:Int}(hp:0<=p/\p<=1000000)(hn:1<=n/\n<=1000000) :
  Ob (b,p) n/\(la (b,p) n).2=p+1/\0<=(la (b,p) n).1/\(la (b,p) n).1<n:=by
 have h1:ar .add .i64 p 1=p+1:=cc (by omega);have h2:ar .sub .i64 (p+1) 1=p:=by rw[bf (by omega)];omega
 have hlt:cmp .lss n 1=false:=by rw[bc];simp;omega
 have hn0:n≠0:=by omega
 have hlen:=hb.len;have hlb:ba .byte b=(b.length:Int):=rfl;simp only[Ob,la,EM,DM,Sw,Tr.val,Tr.ob,ga];simp only[h1,h2,hlt,cond_false,Bb,hlb,Xah];by_cases h0:(b.length:Int)=0
 .simp only[h0,decide_true,ocR];refine⟨by simp,trivial,Int.le_refl _,by omega⟩
 .have hL:1<=(b.length:Int):=by omega
  have hbne:b≠[]:=by rintro rfl;exact h0 rfl
  by_cases h3:p<(b.length:Int)
  .have hc:cmp .lss p (b.length:Int)=true:=by rw[bc];simpa using h3
   simp only[h0,decide_false,hc,ocR];have hx:=WL hb p;rw[IntWalk.i64_in _ (by omega)];exact⟨by simp[inb,hp.1,h3,hn0],trivial,Int.tmod_nonneg _ hx.1,Int.tmod_lt_of_pos _ (by omega)⟩
  .have hc:cmp .lss p (b.length:Int)=false:=by rw[bc];simpa using h3
   have hm:ar .mul .i64 p 7=p*7:=Og (by omega);have hm3:ar .add .i64 (p*7) 3=p*7+3:=cc (by omega);simp only[h0,decide_false,hc,ocR,hm,hm3,Cw];have i1:inb (p.tmod b.length) b.length:=⟨Int.tmod_nonneg _ hp.1,Int.tmod_lt_of_pos _ (by omega)⟩;have i2:inb ((p*7+3).tmod b.length) b.length:=⟨Int.tmod_nonneg _ (by omega),Int.tmod_lt_of_pos _ (by omega)⟩;refine⟨by simp[hbne,i1,i2,hn0],trivial,?_⟩;have x1:=WL hb (p.tmod b.length);have x2:=WL hb ((p*7+3).tmod b.length);generalize jk b (p.tmod b.length)=y1 at x1⊢;generalize jk b ((p*7+3).tmod b.length)=y2 at x2⊢;rw[IntWalk.i64_in y1 (by omega),IntWalk.i64_in y2 (by omega)];have m1:ar .mul .i64 y1 131=y1*131:=Og (by omega);have m2:ar .mul .i64 y2 1117=y2*1117:=Og (by omega);have m3:ar .mul .i64 p 29=p*29:=Og (by omega);have m4:ar .quo .i64 p b.length=p / b.length:=GL (by omega);have q0:0<=p / (b.length:Int):=Int.ediv_nonneg hp.1 (by omega);have q1:p / (b.length:Int)<=p:=Int.ediv_le_self _ hp.1;rw[m4];generalize p / (b.length:Int)=pl at q0 q1⊢;have m5:ar .mul .i64 pl 53=pl*53:=Og (by omega);simp only[m1,m2,m3,m5];rw[cc (a:=y1*131) (b:=y2*1117) (by omega),cc (a:=y1*131+y2*1117) (b:=p*29) (by omega),cc (a:=y1*131+y2*1117+p*29) (b:=pl*53) (by omega)];have hX:0<=y1*131+y2*1117+p*29+pl*53/\y1*131+y2*1117+p*29+pl*53<=1000000000000:=by omega
   generalize y1*131+y2*1117+p*29+pl*53=X at hX⊢;rw[GL (by omega)];have hxr:=Yah (a:=X) (b:=X / 64) (by omega) (by omega);exact⟨Int.tmod_nonneg _ hxr.1,Int.tmod_lt_of_pos _ (by omega)⟩
theorem eay{c:List Int}(hc:∀x∈c,0<=x/\x<=255):CM c/\∃b,BM c=(b,0)/\Xc b:=by
 have hl:ba .byte c=(c.length:Int):=rfl;simp only[CM,BM,AM,zM,Z0,Y0,Qw,Pw,Ow,Tr.val,Tr.ob,ga];by_cases h:2000<(c.length:Int)
 .have hg:cmp .gtr (ba .byte c) 2000=true:=by rw[xc,hl];simpa using h
  have h3:le3 0 2000 (ba .byte c):=⟨by omega,by omega,by rw[hl];omega⟩;simp only[hg,ocR];exact⟨by simp[h3],_,rfl,λx hx=>hc x (List.mem_of_mem_take (List.mem_of_mem_drop hx)),by simp;omega⟩
 .have hg:cmp .gtr (ba .byte c) 2000=false:=by rw[xc,hl];simpa using h
  simp only[hg,ocR];exact⟨by simp,_,rfl,hc,by omega⟩
theorem Ew{b:List Int}(hb:Xc b){p:Int}(hp:0<=p/\p<=900000) :
  Hk (b,p)/\(Hh (b,p)).2=p+3:=by
 obtain⟨a1,a2,a3,a4⟩:=Hb hb (p:=p) (n:=10) (by omega) (by omega);obtain⟨b1,b2,b3,b4⟩:=Hb hb (p:=p+1) (n:=8) (by omega) (by omega);obtain⟨c1,c2,c3,c4⟩:=Hb hb (p:=p+1+1) (n:=8) (by omega) (by omega);obtain⟨d1,d2,d3,d4⟩:=Hb hb (p:=p+1) (n:=4) (by omega) (by omega);obtain⟨e1,e2,e3,e4⟩:=Hb hb (p:=p+1+1) (n:=4) (by omega) (by omega);simp only[Hk,Hh,cN,bN,Ix,Tr.val,Tr.ob,ga];simp only[a2,b2,d2];cases h:cmp .eql (la (b,p) 10).1 0 with
 |true=>simp only[ocR,c2];exact⟨⟨⟨a1,trivial⟩,(λ_=>⟨⟨b1,c1,trivial⟩,trivial⟩),λh=>by cases h⟩,by omega⟩
 |false=>simp only[ocR,e2];exact⟨⟨⟨a1,trivial⟩,(λh=>by cases h),λ_=>⟨⟨d1,e1,trivial⟩,trivial⟩⟩,by omega⟩
theorem ZY{b:List Int}(hb:Xc b){p:Int}(hp:0<=p/\p<=800000) :
  Is (b,p)/\(xg (b,p)).2=p+6/\-3<=(xg (b,p)).1.Diff/\(xg (b,p)).1.Diff<=3:=by
 obtain⟨a1,a2,a3,a4⟩:=Hb hb (p:=p) (n:=4) (by omega) (by omega);obtain⟨b1,b2,b3,b4⟩:=Hb hb (p:=p+1) (n:=9) (by omega) (by omega);obtain⟨c1,c2⟩:=Ew hb (p:=p+1+1) (by omega);obtain⟨d1,d2,d3,d4⟩:=Hb hb (p:=p+1+1+3) (n:=8) (by omega) (by omega);simp only[Is,xg,nR,mR,mD,Tr.val,Tr.ob,ga];simp only[a2,b2,c2,ocR,d2];refine⟨⟨⟨a1,b1,⟨b3,by show _<(9:Int);exact b4⟩,c1,d1,⟨d3,by show _<(8:Int);exact d4⟩,trivial⟩,trivial⟩,by omega,?_⟩;generalize (la (b,p+1+1+3) 8).1=i at d3 d4;have hi:i=0\/i=1\/i=2\/i=3\/i=4\/i=5\/i=6\/i=7:=by omega
 rcases hi with rfl|rfl|rfl|rfl|rfl|rfl|rfl|rfl<;>exact⟨by decide,by decide⟩
end Go.Proofs.YtiiidenbemkihaaGreat

namespace Go.Proofs.YtiiidenbemkihaaGreat
open Go
def rK(r:Row):List Int:=[r.Key,r.Val,r.At.A,r.At.B]
def chR(xs:List Row):List (List Int×Int):=xs.map λr=>(rK r,r.Diff)
def mkR(p:List Int×Int):Row:=match p.1 with
 |[k,v,a,b]=>⟨k,v,⟨a,b⟩,p.2⟩
 |_=>⟨0,0,⟨0,0⟩,0⟩
def Pa(xs:List Row):List Row:=(tc (chR xs)).map mkR
theorem Zah(xs:List Row):(chR xs).map mkR=xs:=by
 unfold chR;rw[List.map_map];exact(List.map_congr_left λx _=>rfl).trans (List.map_id xs)
theorem Lo(xs:List Row):Gb 4 (chR xs):=by
 intro p hp;obtain⟨r,_,rfl⟩:=List.mem_map.1 hp;rfl
theorem aai(x y:List Int)(h:x.length=y.length)(hl:x.length<1099511627776) :
  d6 x y/\Z5 x y=if ltK x y=true then .r (-1) else if ltK y x=true then .r 1 else .x ():=by
 have hz:(x.zip y).length=x.length:=by rw[List.length_zip];omega
 suffices key:∃q,ja (λs=>da ((λ(s:Int)=>Xg x y s) s)) (λs=>aq x y s) 0 q/\q=if ltK x y=true then .r (-1) else if ltK y x=true then .r 1 else .x () by
  obtain⟨q,h1,h2⟩:=key;exact⟨h1.t,h1.v.trans h2⟩
 refine ja.list (x.zip y) (λi (_:Unit)=>(i:Int))
  (λl _=>ltK x y=ltK (x.drop l.length) (y.drop l.length)/\ltK y x=ltK (y.drop l.length) (x.drop l.length))
  (b0:=()) rfl ⟨rfl,rfl⟩ ?_ ?_
 .rintro l ⟨u,v⟩ r ⟨⟩ hx ⟨i1,i2⟩;have hlen:l.length<x.length:=by rw[<-hz,hx];simp
  have hg:(x.zip y)[l.length]? = some (u,v):=by rw[hx];simp
  rw[List.getElem?_zip_eq_some]at hg
  have hu:rd .int x (l.length:Int)=u:=by
   show x.getD (Int.toNat l.length) 0=u;rw[Int.toNat_natCast,List.getD_eq_getElem?_getD,hg.1];rfl
  have hv:rd .int y (l.length:Int)=v:=by
   show y.getD (Int.toNat l.length) 0=v;rw[Int.toNat_natCast,List.getD_eq_getElem?_getD,hg.2];rfl
  have hdx:x.drop l.length=u::x.drop (l.length+1):=by
   rw[List.drop_eq_getElem_cons hlen]
   congr 1
   have:=hg.1;rw[List.getElem?_eq_getElem hlen]at this;exact Option.some.inj this
  have hdy:y.drop l.length=v::y.drop (l.length+1):=by
   rw[List.drop_eq_getElem_cons (by omega)]
   congr 1
   have:=hg.2;rw[List.getElem?_eq_getElem (by omega)]at this;exact Option.some.inj this
  rw[hdx,hdy]at i1 i2;have hlss:cmp .lss (l.length:Int) (ba .int x)=true:=by rw[bc];simp[ba];omega
  have hi1:inb (l.length:Int) (ba .int x):=⟨by omega,by simp[ba];omega⟩;have hi2:inb (l.length:Int) (ba .int y):=⟨by omega,by simp[ba];omega⟩;refine⟨by simp[aq,hlss,hi1,hi2,gj,Tr.ob,ga],?_⟩;show((∃b',da (Xg x y (l.length:Int))=_/\_)\/∃q,da (Xg x y (l.length:Int))=_/\_);simp only[Xg,gj,Tr.val];rw[hlss,hu,hv,Ia (l:=l) (by omega)];rcases Int.lt_trichotomy u v with c|c|c
  .right;refine⟨.r (-1),by rw[show cmp .lss u v=true by rw[bc];simpa using c];rfl,?_⟩;rw[if_pos (by rw[i1];simp[ltK,c])]
  .left;subst c;refine⟨(),by rw[show cmp .lss u u=false by rw[bc];simp,show cmp .gtr u u=false by rw[xc];simp];rfl,?_⟩;rw[List.length_append,List.length_singleton,i1,i2];simp[ltK]
  .right;refine⟨.r 1,by rw[show cmp .lss u v=false by rw[bc];simp;omega,show cmp .gtr u v=true by rw[xc];simpa using c];rfl,?_⟩;rw[if_neg (by rw[i1];simp[ltK];omega),if_pos (by rw[i2];simp[ltK,c])]
 .rintro⟨⟩ ⟨i1,i2⟩;have hlss:cmp .lss ((x.zip y).length:Int) (ba .int x)=false:=by rw[bc,hz];simp[ba]
  refine⟨by simp only[aq,hlss,gj,Tr.ob,ga];simp,.x (),?_,?_⟩
  .show da (Xg x y ((x.zip y).length:Int))=_;simp only[Xg,gj,Tr.val];rw[hlss];rfl
  .rw[hz,List.drop_length,show x.length=y.length from h,List.drop_length]at i1 i2;rw[i1,i2];rfl
theorem aZ(a b:Row):bq a b/\ij a b=if ltK (rK a) (rK b)=true then -1 else if ltK (rK b) (rK a)=true then 1 else 0:=by
 obtain⟨h1,h2⟩:=aai (rK a) (rK b) rfl (by simp[rK]);unfold rK at h1 h2⊢;simp only[bq,ij,sO,rO,j6,i6,bz,az,Zy,Yy,lpS,Tr.val,Tr.ob];rw[h2];refine⟨by simp[h1],?_⟩;by_cases c1:ltK [a.Key,a.Val,a.At.A,a.At.B] [b.Key,b.Val,b.At.A,b.At.B]=true
 .rw[if_pos c1,if_pos c1];rfl
 .rw[if_neg c1,if_neg c1];by_cases c2:ltK [b.Key,b.Val,b.At.A,b.At.B] [a.Key,a.Val,a.At.A,a.At.B]=true
  .rw[if_pos c2,if_pos c2];rfl
  .rw[if_neg c2,if_neg c2];rfl
def Tb(r:Row):List Row->List Row
 |[]=>[r]
 |y::ys=>if ltK (rK r) (rK y)=true then r::y::ys else if rK y=rK r then⟨r.Key,r.Val,⟨r.At.A,r.At.B⟩,ar .add .i64 r.Diff y.Diff⟩::ys else y::Tb r ys
theorem bZ(r:Row):∀ys:List Row,chR (Tb r ys)=nc (rK r,r.Diff) (chR ys)
 |[]=>rfl
 |y::ys=>by
  simp only[Tb,chR,List.map_cons,nc];split
  .rfl
  .split
   .rfl
   .have:=bZ r ys;unfold chR at this;rw[List.map_cons,this]
theorem cZ(r:Row):∀ys:List Row,(Tb r ys).length<=ys.length+1
 |[]=>Nat.le_refl _
 |y::ys=>by
  have:=cZ r ys;simp only[Tb];split
  .simp
  .split<;>simp<;>omega
theorem bai(xs:List Row)(r:Row)(hl:xs.length<1000000000000):Bz xs r/\Az xs r=Tb r xs:=by
 suffices key:∃q,ja (λs=>da ((λ(s:Int×(List Row)×Bool×Int)=>Nh xs r s.1 s.2.1 s.2.2.1 s.2.2.2) s)) (λs=>mj xs r s.1 s.2.1 s.2.2.1 s.2.2.2) (r.Diff,[],false,0) q /\
   ∃d out done,q=.x (d,out,done)/\out.length<=xs.length+1/\((done=false/\out++[⟨r.Key,r.Val,⟨r.At.A,r.At.B⟩,d⟩]=Tb r xs)\/(done=true/\out=Tb r xs)) by
  obtain⟨q,h1,h2⟩:=key;obtain⟨d,out,done,rfl,hlo,hd⟩:=h2;have hc2:E6 xs r=.x (d,out,done):=h1.v;have ho2:G6 xs r:=h1.t;have hlim:∀y:Row,lim (ba .row out) (ba .row [y]):=λy=>by simp[lim,ba];omega
  simp only[Bz,Az,GO,FO,I6,H6,yz,wz,xz,uz,tz,lpS,Tr.val,Tr.ob];rw[hc2];rcases hd with⟨rfl,hd⟩|⟨rfl,hd⟩
  .simp only[DO,EO,Bool.not_false,ocR,iq,Tr.val,Tr.ob,ga];exact⟨by simp[ho2,hlim],hd⟩
  .simp only[DO,EO,Bool.not_true,ocR,iq,Tr.val,Tr.ob,ga];exact⟨by simp[ho2],hd⟩
 refine ja.list
  xs (λi (b:Int×List Row×Bool)=>(b.1,b.2.1,b.2.2,(i:Int)))
  (λl b=>b.2.1.length<=l.length+1/\((b.2.2=false/\b.1=r.Diff/\b.2.1=l/\∀rest,Tb r (l++rest)=l++Tb r rest)\/(b.2.2=true/\∀rest,Tb r (l++rest)=b.2.1++rest)))
  (b0:=(r.Diff,[],false)) rfl ⟨by simp,.inl ⟨rfl,rfl,rfl,λ_=>rfl⟩⟩ ?_ ?_
 .rintro l x rest ⟨d,out,done⟩ hx ⟨hlo,hI⟩;obtain⟨hlen,hrd,hin,hlss⟩:=Oa (t:=.row) hx;have hlim:∀(o:List Row) (y:Row),o.length<=out.length+1->lim (ba .row o) (ba .row [y]):=λo y ho=>by simp only[lim,ba,List.length_singleton] at *;omega
  have hrk:∀d,rK (Row.mk r.Key r.Val (Time.mk r.At.A r.At.B) d)=rK r:=λ_=>rfl;obtain⟨pc,vc⟩:=aZ x (Row.mk r.Key r.Val (Time.mk r.At.A r.At.B) d);rw[hrk]at vc;have hlo:out.length<=l.length+1:=hlo;show mj xs r d out done (l.length:Int)/\((∃b',da (Nh xs r d out done (l.length:Int))=_/\_)\/_);simp only[mj,Nh,D6,C6,B6,A6,gq,fq,rz,qz,oz,Tr.val,Tr.ob,ga];rw[hlss,hrd,Ia (l:=l) (by omega)];generalize hc:ij x (Row.mk r.Key r.Val (Time.mk r.At.A r.At.B) d)=c at vc;have hi0:=hlim out x (by omega);have hi1:=λy=>hlim out y (by omega);have hi2:=λy z=>hlim (out++[y]) z (by simp);rcases hI with⟨rfl,h2,h3,h4⟩|⟨rfl,h4⟩
  .have h2:d=r.Diff:=h2;have h3:out=l:=h3;subst h2 h3;by_cases k1:ltK (rK x) (rK r)=true
   .rw[if_pos k1]at vc;subst vc;refine⟨by simp[xc,Bb,hin,pc,hi1],.inl ⟨(r.Diff,out++[x],false),by simp[xc,Bb,da],?_⟩⟩;refine⟨by simp,.inl ⟨rfl,rfl,rfl,λrest=>?_⟩⟩;rw[List.append_assoc,h4];have n1:¬ ltK (rK r) (rK x)=true:=λh=>by have:=Ig k1 h;rw[Ff]at this;cases this
    have n2:¬ rK x=rK r:=λh=>by rw[h,Ff]at k1;cases k1
    show out++Tb r (x::rest)=_;simp[Tb,n1,n2]
   .rw[if_neg k1]at vc;by_cases k2:ltK (rK r) (rK x)=true
    .rw[if_pos k2]at vc;subst vc;refine⟨by simp[xc,Bb,hin,pc,hi1,hi2],.inl ⟨(r.Diff,out++[r]++[x],true),by simp[xc,Bb,da],?_⟩⟩;refine⟨by simp,.inr ⟨rfl,λrest=>?_⟩⟩;rw[List.append_assoc,h4];show out++Tb r (x::rest)=_;simp[Tb,k2]
    .rw[if_neg k2]at vc;subst vc
     have he:rK x=rK r:=by
      by_cases e:rK x=rK r
      .exact e
      .rcases mw (a:=rK x) (b:=rK r) rfl e with h|h
       .exact absurd h k1
       .exact absurd h k2
     refine⟨by simp[xc,Bb,hin,pc,hi1],.inl ⟨(ar .add .i64 r.Diff x.Diff,out++[⟨r.Key,r.Val,⟨r.At.A,r.At.B⟩,ar .add .i64 r.Diff x.Diff⟩],true),by simp[xc,Bb,da],?_⟩⟩;refine⟨by simp,.inr ⟨rfl,λrest=>?_⟩⟩;rw[List.append_assoc,h4];show out++Tb r (x::rest)=_;simp[Tb,he,Ff]
  .refine⟨by simp[hin,pc,hi1],.inl ⟨(d,out++[x],true),by simp[da],?_⟩⟩;refine⟨by simp;omega,.inr ⟨rfl,λrest=>?_⟩⟩;rw[List.append_assoc,h4];simp
 .rintro⟨d,out,done⟩ ⟨hlo,hI⟩;have hlss:cmp .lss (xs.length:Int) (ba .row xs)=false:=Ma;show mj xs r d out done (xs.length:Int)/\∃q,da (Nh xs r d out done (xs.length:Int))=_/\_;simp only[mj,Nh,gq,fq,Tr.val,Tr.ob];rw[hlss];refine⟨by simp,_,rfl,d,out,done,rfl,hlo,?_⟩;rcases hI with⟨h1,h2,h3,h4⟩|⟨h1,h4⟩
  .have h2:d=r.Diff:=h2;have h3:out=xs:=h3;have:=h4 [];rw[List.append_nil]at this;exact .inl ⟨h1,by rw[h2,h3,this];rfl⟩
  .have:=h4 [];rw[List.append_nil,List.append_nil]at this;exact .inr ⟨h1,this.symm⟩
theorem cai(xs:List Row):∀s:List Row,chR (xs.foldl (λs x=>Tb x s) s)=(chR xs).foldl (λm q=>nc q m) (chR s):=by
 induction xs with
 |nil=>exact λ_=>rfl
 |cons x r ih=>
  intro s;rw[List.foldl_cons,ih,bZ];rfl
theorem XL(xs:List Row):∀s:List Row,(xs.foldl (λs x=>Tb x s) s).length<=s.length+xs.length:=by
 induction xs with
 |nil=>exact λ_=>by simp
 |cons x r ih=>
  intro s;have h1:=ih (Tb x s);have h2:=cZ x s;rw[List.foldl_cons,List.length_cons];omega
def InR(n:Int):Prop:=-9223372036854775808<=n/\n<=9223372036854775807
theorem eZ{xs:List Row}(hr:∀x∈xs,InR x.Diff):(xs.foldl (λs x=>Tb x s) []).filter (λx=>x.Diff != 0)=Pa xs:=by
 have h1:chR (xs.foldl (λs x=>Tb x s) [])=Jf (chR xs):=cai xs []
 have h2:=TY (Lo xs) (λq hq=>by
  obtain⟨r,hr',rfl⟩:=List.mem_map.1 hq;exact IntWalk.i64_in _ (hr r hr'))
 have h3:((chR (xs.foldl (λs x=>Tb x s) [])).filter (λp=>p.2 != 0)).map mkR=((Jf (chR xs)).filter (λp=>p.2 != 0)).map mkR:=by rw[h1]
 rw[h2]at h3;unfold Pa;rw[<-h3];unfold chR;rw[List.filter_map,List.map_map];exact((List.map_congr_left λx _=>rfl).trans (List.map_id _)).symm
theorem YL{xs:List Row}(hr:∀x∈xs,InR x.Diff):(Pa xs).length<=xs.length:=by
 rw[<-eZ hr];have:=XL xs [];have h2:=List.length_filter_le (λx:Row=>x.Diff != 0) (xs.foldl (λs x=>Tb x s) []);simp at this;omega
theorem Pg(xs:List Row)(hl:xs.length<1000000000)(hr:∀x∈xs,InR x.Diff):nf xs/\He xs=Pa xs:=by
 have k2:ja (λs=>da ((λ(s:(List Row)×Int)=>gl xs s.1 s.2) s)) (λs=>lq xs s.1 s.2) ([],0) (.x (xs.foldl (λs x=>Tb x s) [])):=by
  refine ja.fold xs (λi b=>(b,(i:Int))) (λl=>l.foldl (λs x=>Tb x s) []) rfl (λl x r hx=>?_) ?_
  .have hlen:xs.length=l.length+(r.length+1):=by rw[hx];simp
   have hfl:=XL l [];simp at hfl;obtain⟨p1,p2⟩:=bai (l.foldl (λs x=>Tb x s) []) x (by omega);obtain⟨_,hrd,hin,hlss⟩:=Oa (t:=.row) hx;simp only[lq,gl,hlss,hrd,Ia (l:=l) (by omega),p2,jq,Tr.val,Tr.ob,ga];exact⟨by simp[hin,p1],by simp[da]⟩
  .have hend:cmp .lss (xs.length:Int) (ba .row xs)=false:=Ma (t:=.row);simp only[lq,gl,hend,jq,Tr.val,Tr.ob,ga];exact⟨by simp,rfl⟩
 have hfl:=XL xs [];simp at hfl;generalize hys:xs.foldl (λs x=>Tb x s) []=ys at k2 hfl
 have k4:ja (λs=>da ((λ(s:(List Row)×Int)=>il ys s.1 s.2) s)) (λs=>pq ys s.1 s.2) ([],0) (.x (ys.filter (λx=>x.Diff != 0))):=by
  refine ja.fold ys (λi b=>(b,(i:Int))) (λl=>l.filter (λx=>x.Diff != 0)) rfl (λl x r hx=>?_) ?_
  .have hlen:ys.length=l.length+(r.length+1):=by rw[hx];simp
   have hfl:=List.length_filter_le (λx:Row=>x.Diff != 0) l;obtain⟨_,hrd,hin,hlss⟩:=Oa (t:=.row) hx;have hlim:lim (ba .row (l.filter (λx=>x.Diff != 0))) (ba .row [x]):=Ab (t:=.row) (show(l.filter (λx:Row=>x.Diff != 0)).length<1099511627776 by omega);simp only[pq,il,R6,Q6,hlss,hrd,Ia (l:=l) (by omega),Rd,oq,mq,Gz,Tr.val,Tr.ob,ga];by_cases h0:x.Diff=0
   .simp only[h0,decide_true,Bool.not_true];exact⟨by simp[hin],by simp[da,h0,List.filter_append]⟩
   .simp only[h0,decide_false,Bool.not_false];exact⟨by simp[hin,hlim],by simp[da,h0,List.filter_append]⟩
  .have hend:cmp .lss (ys.length:Int) (ba .row ys)=false:=Ma (t:=.row);simp only[pq,il,hend,oq,mq,Tr.val,Tr.ob];exact⟨by simp,rfl⟩
 have a2:J6 xs=.x ys:=k2.v;have b2:L6 xs:=k2.t;have a4:T6 ys=.x (ys.filter (λx=>x.Diff != 0)):=k4.v;have b4:U6 ys:=k4.t;rw[<-eZ hr,hys];simp only[nf,He,OO,NO,P6,O6,X6,V6,a2,a4,ocR,Kz,Ez,Jz,Dz,Cz,Iz,Hz,lpS,Tr.val,Tr.ob];exact⟨by simp[b2,b4],trivial⟩
def itR(x:Item):Row:=⟨x.Key,x.Val,⟨0,0⟩,x.Count⟩
def rIt(x:Row):Item:=⟨x.Key,x.Val,x.Diff⟩
theorem ZL:∀(a b:List Int),a.length=b.length->ltK (a++[0]) (b++[0])=ltK a b
 |[],[],_=>by simp[ltK]
 |a::r,b::r',h=>by simp only[List.cons_append,ltK];rw[ZL r r' (by simpa using h)]
 |[],_::_,h=>by simp at h
 |_::_,[],h=>by simp at h
theorem Mo(xs:List Item):Gb 3 (chI xs):=by
 intro p hp;obtain⟨r,_,rfl⟩:=List.mem_map.1 hp;rfl
theorem aM{xs:List Item}{p:List Int×Int}(hp:p∈tc (chI xs)):∃x∈xs,p.1=kI x:=by
 obtain⟨h1,h2⟩:=Ye.1 hp;obtain⟨q,hq,e⟩:=Fo (h1▸h2);obtain⟨x,hx,rfl⟩:=List.mem_map.1 hq;exact⟨x,hx,e.symm⟩
theorem dai(xs:List Item):(Pa (xs.map itR)).map rIt=gathI xs:=by
 have h1:chR (xs.map itR)=(chI xs).map λq=>(q.1++[0],q.2):=by
  unfold chR chI;rw[List.map_map,List.map_map];rfl
 unfold Pa gathI;rw[h1,UY (n:=3) (m:=4) (f:=λk=>k++[0]) (λa b h=>List.append_cancel_right h) (λk h=>by simp[h]) (λa b ha hb=>ZL a b (ha.trans hb.symm)) (Mo xs),List.map_map,List.map_map];refine List.map_congr_left λp hp=>?_;obtain⟨x,_,e⟩:=aM hp;show rIt (mkR (p.1++[0],p.2))=mkI p;obtain⟨k,d⟩:=p;have e:k=kI x:=e;subst e;rfl
theorem fZ(xs:List Item)(hl:xs.length<100000000)(hr:∀x∈xs,InR x.Count):Vq xs/\Uq xs=gathI xs:=by
 have k2:ja (λs=>da ((λ(s:(List Row)×Int)=>Al xs s.1 s.2) s)) (λs=>Rq xs s.1 s.2) ([],0) (.x (xs.map itR)):=by
  refine ja.fold xs (λi b=>(b,(i:Int))) (λl=>l.map itR) rfl (λl x r hx=>?_) ?_
  .obtain⟨hlen,hrd,hin,hlss⟩:=Oa (t:=.item) hx;have hlim:∀y,lim (ba .row (l.map itR)) (ba .row [y]):=λy=>by simp only[lim,ba,List.length_singleton,List.length_map];omega
   simp only[Rq,Al,hlss,hrd,Ia (l:=l) (by omega),Qq,Tr.val,Tr.ob,ga];exact⟨by simp[hin,hlim],by simp[da,itR]⟩
  .have hend:cmp .lss (xs.length:Int) (ba .item xs)=false:=Ma (t:=.item);simp only[Rq,Al,hend,Qq,Tr.val,Tr.ob,ga];exact⟨by simp,rfl⟩
 have hr':∀y∈xs.map itR,InR y.Diff:=by
  intro y hy;obtain⟨x,hx,rfl⟩:=List.mem_map.1 hy;exact hr x hx
 obtain⟨p1,p2⟩:=Pg (xs.map itR) (by simp;omega) hr';have hgl:=YL hr';rw[List.length_map]at hgl;generalize hys:Pa (xs.map itR)=ys at p2 hgl
 have k4:ja (λs=>da ((λ(s:(List Item)×Int)=>Bl ys s.1 s.2) s)) (λs=>Tq ys s.1 s.2) ([],0) (.x (ys.map rIt)):=by
  refine ja.fold ys (λi b=>(b,(i:Int))) (λl=>l.map rIt) rfl (λl x r hx=>?_) ?_
  .obtain⟨hlen,hrd,hin,hlss⟩:=Oa (t:=.row) hx;have hlim:∀y,lim (ba .item (l.map rIt)) (ba .item [y]):=λy=>by simp only[lim,ba,List.length_singleton,List.length_map];omega
   simp only[Tq,Bl,hlss,hrd,Ia (l:=l) (by omega),Sq,Tr.val,Tr.ob,ga];exact⟨by simp[hin,hlim],by simp[da,rIt]⟩
  .have hend:cmp .lss (ys.length:Int) (ba .row ys)=false:=Ma (t:=.row);simp only[Tq,Bl,hend,Sq,Tr.val,Tr.ob,ga];exact⟨by simp,rfl⟩
 have a2:U8 xs=.x (xs.map itR):=k2.v;have b2:V8 xs:=k2.t;have a4:Z8 ys=.x (ys.map rIt):=k4.v;have b4:b9 ys:=k4.t;rw[<-dai,hys];simp only[Vq,Uq,HP,GP,Y8,X8,d9,c9,a2,p2,a4,ocR,jB,dB,iB,cB,bB,fB,eB,lpS,Tr.val,Tr.ob,ga];exact⟨by simp[b2,b4,p1,p2],trivial⟩
end Go.Proofs.YtiiidenbemkihaaGreat

namespace Go.Proofs.YtiiidenbemkihaaGreat
open Go
def sumT:List (List Int×Int)->List Int->Int
 |[],_=>0
 |q::r,k=>(if q.1=k then q.2 else 0)+sumT r k
def Oo:List (List Int×Int)->Int
 |[]=>0
 |q::r=>(if 0<=q.2 then q.2 else -q.2)+Oo r
def bM(c:Int)(xs:List Item):Prop:=∀x∈xs,-c<=x.Count/\x.Count<=c
theorem bM.mono{c d:Int}{xs:List Item}(h:bM c xs)(hc:c<=d):bM d xs:=λx hx=>by have:=h x hx;omega
theorem nk(a b c:Int):ug a b c:=trivial
theorem qk(a b c:Int):Hd a b c=(decide (b<=a)&&decide (a<=c)):=by
 show cond (cmp .geq a b) (cmp .leq a c) false=_;rw[Ng,Ee];cases decide (b<=a)<;>rfl
theorem pg(t:Time):vg t:=⟨⟨nk _ _ _,λ_=>nk _ _ _,trivial⟩,trivial⟩
theorem rk(s t:Time):Kk s t:=⟨⟨pg _,λ_=>pg _,trivial⟩,trivial⟩
theorem eai(r:Row):iO r:=⟨⟨nk _ _ _,λ_=>nk _ _ _,λ_=>pg _,λ_=>nk _ _ _,trivial⟩,trivial⟩
theorem fai{b:List Int}(hb:Xc b){p n:Int}(hp:0<=p/\p<=700000){out:List Row}(hl:out.length<=1000)(hd:∀x∈out,-3<=x.Diff/\x.Diff<=3){x:Row}(hx : -3<=x.Diff/\x.Diff<=3) :
  pD b p out n x/\∃p' k v d,pR b p out n x=.n (p',k,v,d)/\p<=p'/\p'<=p+3/\-3<=d/\d<=3:=by
 have hL:ba .row out=(out.length:Int):=rfl;simp only[pD,pR,oD,Tr.val,Tr.ob,ga];simp only[hL,xc,Bb];by_cases h0:0<(out.length:Int)
 .obtain⟨a1,a2,a3,a4⟩:=Hb hb (p:=p) (n:=3) (by omega) (by omega);obtain⟨b1,b2,b3,b4⟩:=Hb hb (p:=p+1) (n:=(out.length:Int)) (by omega) (by omega);obtain⟨c1,c2,c3,c4⟩:=Hb hb (p:=p+1+1) (n:=2) (by omega) (by omega);have hin:inb (la (b,p+1) (out.length:Int)).1 (out.length:Int):=⟨b3,b4⟩
  have hy : -3<=(rd .row out (la (b,p+1) (out.length:Int)).1).Diff/\(rd .row out (la (b,p+1) (out.length:Int)).1).Diff<=3:=by
   have hlt:(la (b,p+1) (out.length:Int)).1.toNat<out.length:=by omega
   have he:rd .row out (la (b,p+1) (out.length:Int)).1=out[(la (b,p+1) (out.length:Int)).1.toNat]:=by
    show out.getD _ _=_;rw[List.getD_eq_getElem?_getD,List.getElem?_eq_getElem hlt];rfl
   rw[he];exact hd _ (List.getElem_mem _)
  simp only[h0,decide_true,Bool.and_true,cond_true,a2,b2];by_cases e1:(la (b,p) 3).1=0
  .simp only[e1,decide_true];by_cases e2:(la (b,p+1+1) 2).1=0
   .simp only[e2,decide_true];refine⟨by simp[a1,b1,c1,hin],_,_,_,_,rfl,by omega,by omega,?_⟩;rw[IntWalk.i64_in _ (by omega)];omega
   .simp only[e2,decide_false];exact⟨by simp[a1,b1,c1,hin],_,_,_,_,rfl,by omega,by omega,hx⟩
  .simp only[e1,decide_false];exact⟨by simp[a1],_,_,_,_,rfl,by omega,by omega,hx⟩
 .simp only[h0,decide_false,Bool.false_and,cond_false];exact⟨by simp,_,_,_,_,rfl,by omega,by omega,hx⟩
theorem ja.down{σ ρ β:Type}[Inhabited ρ]{step:σ->Lp σ ρ}{ob:σ->Prop}(st:Nat->β->σ)(I:Nat->β->Prop){Q:ρ->Prop}{n0:Nat}{b0:β}{s0:σ}(hs:st n0 b0=s0)(h0:I n0 b0)
  (hgo:∀n b,n+1<=n0->I (n+1) b->ob (st (n+1) b)/\∃b',step (st (n+1) b)=.go (st n b')/\I n b')
  (hout:∀b,I 0 b->ob (st 0 b)/\∃q,step (st 0 b)=.out q/\Q q):∃q,ja step ob s0 q/\Q q:=by
 subst hs
 suffices ∀(n:Nat) (b:β),n<=n0->I n b->∃q,ja step ob (st n b) q/\Q q from this n0 b0 (Nat.le_refl _) h0
 intro n
 induction n with
 |zero=>
  intro b _ hI;obtain⟨ho,q,h1,h2⟩:=hout b hI;exact⟨q,.out ho h1,h2⟩
 |succ n ih=>
  intro b hn hI;obtain⟨ho,b',h1,h2⟩:=hgo n b hn hI;obtain⟨q,hq,hQ⟩:=ih b' (by omega) h2;exact⟨q,.go ho h1 hq,hQ⟩
theorem gai{b:List Int}(hb:Xc b){p m:Int}(hp:0<=p/\p<=500000)(hm:0<=m/\m<=100) :
  wD (b,p) m/\p<=(Vh (b,p) m).2/\(Vh (b,p) m).2<=p+1+9*m/\((Vh (b,p) m).1.length:Int)<=m/\∀x∈(Vh (b,p) m).1,-3<=x.Diff/\x.Diff<=3:=by
 have h1:ar .add .i64 m 1=m+1:=cc (by omega);obtain⟨a1,a2,a3,a4⟩:=Hb hb (p:=p) (n:=m+1) (by omega) (by omega);generalize hn:(la (b,p) (m+1)).1=n at a3 a4;obtain⟨n0,rfl⟩ : ∃n0:Nat,n=(n0:Int):=⟨n.toNat,by omega⟩
 have key:∃q,ja (λs=>da ((λ(s:Int×(List Row)×Int)=>gm b (p+1) (n0:Int) s.1 s.2.1 s.2.2) s)) (λs=>Ms b (p+1) (n0:Int) s.1 s.2.1 s.2.2) (p+1,[],(n0:Int)) q /\
   ∃p' out,q=.x (p',out)/\p+1<=p'/\p'<=p+1+9*n0/\out.length<=n0/\∀x∈out,-3<=x.Diff/\x.Diff<=3:=by
  refine ja.down (λi (b:Int×List Row)=>(b.1,b.2,(i:Int))) (λi b=>p+1<=b.1/\b.1+9*i<=p+1+9*n0/\b.2.length+i<=n0/\∀x∈b.2,-3<=x.Diff/\x.Diff<=3) (n0:=n0) (b0:=(p+1,[])) rfl ⟨by simp,by simp,by simp,λx hx=>by simp at hx⟩ ?_ ?_
  .rintro i ⟨q,out⟩ hi ⟨i1,i2,i3,i4⟩;simp only[]at i1 i2 i3 i4;have hg:cmp .gtr (((i+1:Nat):Int)) 0=true:=by rw[xc];simp
   have hs:ar .sub .i64 (((i+1:Nat):Int)) 1=(i:Int):=by rw[bf (by omega)];omega
   obtain⟨r1,r2,r3,r4⟩:=ZY hb (p:=q) (by omega);obtain⟨c1,p',k,v,d,c2,c3,c4,c5⟩:=fai hb (p:=q+6) (n:=((i+1:Nat):Int)) (by omega) (out:=out) (by omega) i4 (x:=(xg (b,q)).1) ⟨r3,r4⟩;have hlim:∀y,lim (ba .row out) (ba .row [y]):=λy=>Ab (t:=.row) (show out.length<1099511627776 by omega);simp only[Ms,gm,Uaa,Taa,hg,hs,r2,c2,Ls,Ks,rD,qD,Tr.val,Tr.ob,ga];have c1':pD b (q+6) out ((i:Int)+1) (xg (b,q)).1:=c1;refine⟨by simp[r1,c1',hlim],⟨p',out++[⟨k,v,(xg (b,q)).1.At,d⟩]⟩,rfl,by simp only[];omega,by simp only[];omega,by simp;omega,λx hx=>?_⟩;rcases List.mem_append.1 hx with h|h
   .exact i4 x h
   .simp at h;subst h;exact c5
  .rintro⟨q,out⟩ ⟨i1,i2,i3,i4⟩;have hg:cmp .gtr ((0:Nat):Int) 0=false:=rfl;simp only[Ms,gm,hg,Ls,Ks,Tr.val,Tr.ob];exact⟨by simp,_,rfl,q,out,rfl,i1,by simp at i2;omega,by simpa using i3,i4⟩
 obtain⟨q,k1,p',out,rfl,k2,k3,k4,k5⟩:=key;have a5:Vaa b (p+1) (n0:Int)=.x (p',out):=k1.v;have b5:Waa b (p+1) (n0:Int):=k1.t;simp only[wD,Vh,sR,rR,Yaa,Xaa,h1,a2,hn,a5,ocR,vD,uD,tD,sD,lpS,Tr.val,Tr.ob,ga];exact⟨by simp[a1,b5],by omega,by omega,by omega,k5⟩
end Go.Proofs.YtiiidenbemkihaaGreat

namespace Go.Proofs.YtiiidenbemkihaaGreat
open Go
theorem last_cases{α:Type}(l:List α):(l=[]/\l.getLast? = none)\/∃l' y,l=l'++[y]/\l.getLast? = some y:=by
 rcases List.eq_nil_or_concat l with h|⟨l',y,h⟩
 .exact .inl ⟨h,by rw[h];rfl⟩
 .exact .inr ⟨l',y,by rw[h,List.concat_eq_append],by rw[h];simp⟩
def Lc(xs:List Item):List Item:=(xs.filter λx=>decide (0<x.Count)).map λx=>⟨x.Key,x.Val,1⟩
theorem gZ(xs:List Item)(hl:xs.length<1000000000):fu xs/\Pm xs=Lc xs:=by
 have k2:ja (λs=>da ((λ(s:(List Item)×Int)=>Om xs (ba .item xs) s.1 s.2) s)) (λs=>eu xs (ba .item xs) s.1 s.2) ([],0) (.x (Lc xs)):=by
  refine ja.fold xs (λi b=>(b,(i:Int))) Lc rfl (λl x r hx=>?_) ?_
  .obtain⟨hlen,hrd,hin,hlss⟩:=Oa (t:=.item) hx;have ho:(Lc l).length<=l.length:=by unfold Lc;rw[List.length_map];exact List.length_filter_le _ _
   have hlim:∀y,lim (ba .item (Lc l)) (ba .item [y]):=λy=>Ab (t:=.item) (show(Lc l).length<1099511627776 by omega);simp only[eu,Om,fad,ead,hlss,hrd,Ia (l:=l) (by omega),xc,au,Zt,DG,Tr.val,Tr.ob,ga];by_cases h0:0<x.Count
   .simp only[h0,decide_true];exact⟨by simp[hin,hlim],by simp[da,Lc,h0,List.filter_append]⟩
   .simp only[h0,decide_false];exact⟨by simp[hin],by simp[da,Lc,h0,List.filter_append]⟩
  .have hend:cmp .lss (xs.length:Int) (ba .item xs)=false:=Ma (t:=.item);simp only[eu,Om,hend,au,Zt,Tr.val,Tr.ob];exact⟨by simp,rfl⟩
 have a2:gad xs (ba .item xs)=.x (Lc xs):=k2.v;have b2:iad xs (ba .item xs):=k2.t;simp only[fu,Pm,gU,fU,kad,jad,a2,ocR,HG,GG,FG,EG,lpS,Tr.val,Tr.ob];exact⟨by simp[b2],trivial⟩
end Go.Proofs.YtiiidenbemkihaaGreat

namespace Go.Proofs.YtiiidenbemkihaaGreat
open Go
def sumF(φ:List Int->Bool):List (List Int×Int)->Int
 |[]=>0
 |q::r=>(if φ q.1=true then q.2 else 0)+sumF φ r
theorem QL:∀(l l':List (List Int×Int)) (k:List Int),sumT (l++l') k=sumT l k+sumT l' k
 |[],l',k=>by simp[sumT]
 |q::r,l',k=>by have:=QL r l' k;simp only[List.cons_append,sumT,this];omega
theorem RL(k:List Int):∀l,sumT l k=sumF (λx=>decide (x=k)) l
 |[]=>rfl
 |q::r=>by simp only[sumT,sumF,RL k r,decide_eq_true_eq]
theorem VY(φ:List Int->Bool):∀m:MP,sumF φ (m.filter λp=>p.2 != 0)=sumF φ m/\Oo (m.filter λp=>p.2 != 0)=Oo m
 |[]=>⟨rfl,rfl⟩
 |p::m=>by
  obtain⟨h1,h2⟩:=VY φ m;by_cases h:p.2=0
  .simp[h,sumF,Oo,h1,h2]
  .simp[h,sumF,Oo,h1,h2]
theorem Ho(xs:List Item):chI (gathI xs)=tc (chI xs):=by
 unfold gathI
 have:∀m:MP,(∀p∈m,∃x∈xs,p.1=kI x)->chI (m.map mkI)=m:=by
  intro m
  induction m with
  |nil=>exact λ_=>rfl
  |cons p m ih=>
   intro h;obtain⟨x,_,e⟩:=h p (by simp);show(kI (mkI p),(mkI p).Count)::chI (m.map mkI)=_;rw[ih λq hq=>h q (by simp[hq])];obtain⟨k,d⟩:=p;have e:k=kI x:=e;subst e;rfl
 exact this _ λp hp=>aM hp
theorem Mah{xs:List Row}{p:List Int×Int}(hp:p∈tc (chR xs)):∃x∈xs,p.1=rK x:=by
 obtain⟨h1,h2⟩:=Ye.1 hp;obtain⟨q,hq,e⟩:=Fo (h1▸h2);obtain⟨x,hx,rfl⟩:=List.mem_map.1 hq;exact⟨x,hx,e.symm⟩
theorem Nah(a b:List Item):chI (a++b)=chI a++chI b:=List.map_append
theorem Oah(a b:List Row):chR (a++b)=chR a++chR b:=List.map_append
def Vc(s t:Time):Bool:=decide (s.A<=t.A)&&decide (s.B<=t.B)
def db(L:List Row)(t:Time):List Item:=(L.filter λr=>Vc r.At t).map rIt
def Sd(L:List Row)(t:Time):List Item:=gathI (db L t)
theorem SL(a b:List Row)(t:Time):db (a++b) t=db a t++db b t:=by simp[db]
def Kf(x y:Row):Prop:=ltK (rK x) (rK y)=true
end Go.Proofs.YtiiidenbemkihaaGreat

namespace Go.Proofs.YtiiidenbemkihaaGreat
open Go
def Eqm(a b:Int):Prop:=∃q:Int,a=b+q*18446744073709551616
theorem Eqm.refl(a:Int):Eqm a a:=⟨0,by omega⟩
theorem Eqm.of{a b:Int}(h:a=b):Eqm a b:=⟨0,by omega⟩
theorem Eqm.symm{a b:Int}(h:Eqm a b):Eqm b a:=by obtain⟨q,h⟩:=h;exact⟨-q,by omega⟩
theorem Eqm.trans{a b c:Int}(h:Eqm a b)(h':Eqm b c):Eqm a c:=by
 obtain⟨q,h⟩:=h;obtain⟨p,h'⟩:=h';exact⟨q+p,by omega⟩
theorem Eqm.add{a b c d:Int}(h:Eqm a b)(h':Eqm c d):Eqm (a+c) (b+d):=by
 obtain⟨q,h⟩:=h;obtain⟨p,h'⟩:=h';exact⟨q+p,by omega⟩
theorem Eqm.neg{a b:Int}(h:Eqm a b):Eqm (-a) (-b):=by obtain⟨q,h⟩:=h;exact⟨-q,by omega⟩
theorem Eqm.eq{a b:Int}(h:Eqm a b)(ha:InR a)(hb:InR b):a=b:=by
 obtain⟨q,h⟩:=h;unfold InR at ha hb;omega
theorem Io(n:Int):Eqm (IntKind.wrap .i64 n) n:=by
 rw[IntKind.wrap_i64];exact⟨-((n+9223372036854775808) / 18446744073709551616),by omega⟩
theorem Jo(n:Int):InR (IntKind.wrap .i64 n):=by
 rw[IntKind.wrap_i64];unfold InR;omega
theorem UL{n:Int}(h:InR n):IntKind.wrap .i64 n=n:=IntWalk.i64_in _ h
theorem Eqm.wrap{a b:Int}(h:Eqm a b):IntKind.wrap .i64 a=IntKind.wrap .i64 b:=((Io a).trans (h.trans (Io b).symm)).eq (Jo a) (Jo b)
theorem Ko(l:List (List Int×Int))(k:List Int):Eqm (Ef l k) (sumT l k)/\InR (Ef l k):=by
 suffices ∀(l:List (List Int×Int)) (s:Int),InR s->Eqm (l.foldl (λs q=>if q.1=k then ar .add .i64 s q.2 else s) s) (s+sumT l k)/\InR (l.foldl (λs q=>if q.1=k then ar .add .i64 s q.2 else s) s) by
  have:=this l 0 (by unfold InR;omega);rw[Int.zero_add]at this;exact this
 intro l
 induction l with
 |nil=>intro s hs;exact⟨Eqm.of (by simp[sumT]),hs⟩
 |cons q r ih=>
  intro s hs;rw[List.foldl_cons];simp only[sumT];by_cases hq:q.1=k
  .simp only[hq,if_true];obtain⟨h1,h2⟩:=ih (ar .add .i64 s q.2) (Jo _);refine⟨h1.trans ?_,h2⟩;have h3:Eqm (ar .add .i64 s q.2) (s+q.2):=Io _;exact(h3.add (Eqm.refl _)).trans (Eqm.of (by omega))
  .simp only[hq,if_false];obtain⟨h1,h2⟩:=ih s hs;exact⟨h1.trans (Eqm.of (by omega)),h2⟩
theorem WY{n:Nat}{l l':List (List Int×Int)}(hk:Gb n l)(hk':Gb n l')(hs:∀k,Eqm (sumT l k) (sumT l' k)):tc l=tc l':=Dw (Gi hk) (Gi hk') λp=>by
  obtain⟨h1,h2⟩:=Ko l p.1;obtain⟨h3,h4⟩:=Ko l' p.1;rw[Ye,Ye,(h1.trans ((hs p.1).trans h3.symm)).eq h2 h4]
theorem Pah{a b:List Item}(h:∀k,Eqm (sumT (chI a) k) (sumT (chI b) k)):gathI a=gathI b:=congrArg (List.map mkI) (WY (Mo a) (Mo b) h)
theorem Qah{a b:List Row}(h:∀k,Eqm (sumT (chR a) k) (sumT (chR b) k)):Pa a=Pa b:=congrArg (List.map mkR) (WY (Lo a) (Lo b) h)
theorem XY(φ:List Int->Bool)(q:List Int×Int):∀m:MP,Eqm (sumF φ (nc q m)) ((if φ q.1=true then q.2 else 0)+sumF φ m)
 |[]=>Eqm.refl _
 |p::m=>by
  unfold nc;split
  .exact Eqm.refl _
  .split
   .rename_i h1 h2;simp only[sumF,h2];have ha:Eqm (ar .add .i64 q.2 p.2) (q.2+p.2):=Io _;split
    .exact (ha.add (Eqm.refl _)).trans (Eqm.of (by omega))
    .exact Eqm.of (by omega)
   .simp only[sumF];exact((Eqm.refl _).add (XY φ q m)).trans (Eqm.of (by omega))
theorem Rah(φ:List Int->Bool)(l:List (List Int×Int)):Eqm (sumF φ (Jf l)) (sumF φ l):=by
 suffices ∀(l:List (List Int×Int)) (m:MP),Eqm (sumF φ (l.foldl (λm q=>nc q m) m)) (sumF φ m+sumF φ l) by
  have:=this l [];simpa [Jf,sumF] using this
 intro l
 induction l with
 |nil=>intro m;exact Eqm.of (by simp[sumF])
 |cons q r ih=>
  intro m;rw[List.foldl_cons];simp only[sumF];exact(ih (nc q m)).trans (((XY φ q m).add (Eqm.refl _)).trans (Eqm.of (by omega)))
theorem Sah{n:Nat}{l:List (List Int×Int)}(hk:Gb n l)(hr:∀q∈l,InR q.2)(φ:List Int->Bool):Eqm (sumF φ (tc l)) (sumF φ l):=by
 rw[<-TY hk λq hq=>UL (hr q hq),(VY φ (Jf l)).1];exact Rah φ l
theorem Tah{a:List Item}(h:∀x∈a,InR x.Count):∀q∈chI a,InR q.2:=λq hq=>by
 obtain⟨x,hx,rfl⟩:=List.mem_map.1 hq;exact h x hx
theorem Uah{l:List (List Int×Int)}{p:List Int×Int}(hp:p∈tc l):InR p.2:=by
 rw[(Ye.1 hp).1];exact(Ko l p.1).2
theorem VL{a:List Item}{x:Item}(hx:x∈gathI a):InR x.Count:=by
 have:(kI x,x.Count)∈chI (gathI a):=List.mem_map.2 ⟨x,hx,rfl⟩;rw[Ho]at this;exact Uah this
theorem Vah{a:List Item}(h:∀x∈a,InR x.Count)(k:List Int):Eqm (sumT (chI (gathI a)) k) (sumT (chI a) k):=by
 rw[Ho,RL,RL];exact Sah (Mo a) (Tah h) _
theorem Eqm.mul{a b:Int}(c:Int)(h:Eqm a b):Eqm (c*a) (c*b):=by
 obtain⟨q,h⟩:=h;exact⟨c*q,by rw[h,Int.mul_add,Int.mul_assoc]⟩
theorem ik{xs:List Row}(h:∀x∈xs,InR x.Diff):(Pa xs).length<=xs.length:=YL h
theorem YY(a b:List Item)(k:List Int):sumT (chI (a++b)) k=sumT (chI a) k+sumT (chI b) k:=by
 rw[Nah,QL]
theorem Wah(a b:List Row)(k:List Int):sumT (chR (a++b)) k=sumT (chR a) k+sumT (chR b) k:=by
 rw[Oah,QL]
end Go.Proofs.YtiiidenbemkihaaGreat

namespace Go.Proofs.YtiiidenbemkihaaGreat
namespace Tg
open Go
instance:DecidableEq Time:=λs t=>decidable_of_iff (s.A=t.A/\s.B=t.B) ⟨λh=>by
 obtain⟨a,b⟩:=s;obtain⟨c,d⟩:=t;simp only at h;rw[h.1,h.2],λh=>by rw[h];exact⟨rfl,rfl⟩⟩
def tK(t:Time):List Int:=[t.A,t.B]
def nb(s t:Time):Time:=⟨mx s.A t.A,mx s.B t.B⟩
theorem Cj(a b:Int):mx a b=if a<=b then b else a:=by
 unfold mx;split<;>split<;>omega
theorem YI{s t:Time}(h:tK s=tK t):s=t:=by
 obtain⟨a,b⟩:=s;obtain⟨c,d⟩:=t;simp[tK]at h;obtain⟨rfl,rfl⟩:=h;rfl
theorem iv{xs:List Row}{k:Int}{t:Time}:jT xs k t=true↔(∃x∈xs,x.Key=k/\x.At.A=t.A/\x.At.B<=t.B)/\∃x∈xs,x.Key=k/\x.At.B=t.B/\x.At.A<=t.A:=by
 simp[jT,List.any_eq_true]
theorem faf{xs:List Row}{k:Int}{x:Row}(hx:x∈xs)(hk:x.Key=k):jT xs k x.At=true:=iv.2 ⟨⟨x,hx,hk,rfl,Int.le_refl _⟩,x,hx,hk,rfl,Int.le_refl _⟩
theorem gaf{xs:List Row}{k:Int}{s t:Time}(hs:jT xs k s=true)(ht:jT xs k t=true):jT xs k (nb s t)=true:=by
 obtain⟨⟨x1,m1,k1,a1,b1⟩,y1,n1,l1,c1,d1⟩:=iv.1 hs;obtain⟨⟨x2,m2,k2,a2,b2⟩,y2,n2,l2,c2,d2⟩:=iv.1 ht;rw[iv];simp only[nb,Cj];refine⟨?_,?_⟩
 .by_cases h:s.A<=t.A
  .exact⟨x2,m2,k2,by rw[if_pos h];exact a2,by split<;>omega⟩
  .exact⟨x1,m1,k1,by rw[if_neg h];exact a1,by split<;>omega⟩
 .by_cases h:s.B<=t.B
  .exact⟨y2,n2,l2,by rw[if_pos h];exact c2,by split<;>omega⟩
  .exact⟨y1,n1,l1,by rw[if_neg h];exact c1,by split<;>omega⟩
theorem haf{xs:List Row}{k:Int}{M:Time->Prop}(h1:∀x∈xs,x.Key=k->M x.At)(h2:∀s t,M s->M t->M (nb s t)){t:Time}(h:jT xs k t=true):M t:=by
 obtain⟨⟨x,m1,k1,a1,b1⟩,y,n1,l1,c1,d1⟩:=iv.1 h;have:=h2 _ _ (h1 x m1 k1) (h1 y n1 l1)
 have e:nb x.At y.At=t:=by
  obtain⟨ta,tb⟩:=t;simp only[nb,Cj] at *;subst a1 c1
  congr 1<;>split<;>omega
 rw[e]at this;exact this
theorem sax{p q:Time->Bool}{i:Int}:∀ {n:Nat},(∀b:Nat,b<n->p ⟨i,b⟩=q ⟨i,b⟩)->rowP p i n=rowP q i n:=by
 intro n h;unfold rowP
 congr 1
 refine List.filter_congr λb hb=>h b (by simpa using hb)
theorem YV{p q:Time->Bool}:∀ {n:Nat},(∀a b:Nat,a<n->b<8->p ⟨a,b⟩=q ⟨a,b⟩)->Bc p n=Bc q n
 |0,_=>rfl
 |n+1,h=>by
  simp only[Bc];rw[YV λa b ha hb=>h a b (by omega) hb,sax λb hb=>h n b (by omega) hb]
theorem iaf(p:Time->Bool)(i:Int)(n:Nat):(rowP p i n).length<=n:=by
 unfold rowP;rw[List.length_map];exact Nat.le_trans (List.length_filter_le _ _) (by simp)
theorem ZI(p:Time->Bool):∀n,(Bc p n).length<=8*n
 |0=>by simp[Bc]
 |n+1=>by
  have h1:=ZI p n;have h2:=iaf p n 8;simp only[Bc,List.length_append];omega
theorem tax(p:Time->Bool)(i:Int)(n:Nat):rowP p i (n+1)=rowP p i n++(if p ⟨i,(n:Int)⟩=true then [(⟨i,(n:Int)⟩ : Time)] else []):=by
 unfold rowP;rw[List.range_succ,List.filter_append,List.map_append]
 congr 1
 by_cases h:p ⟨i,(n:Int)⟩=true<;>simp[h]
theorem uax{p:Time->Bool}{i:Int}{n:Nat}{t:Time}:t∈rowP p i n↔p t=true/\t.A=i/\0<=t.B/\t.B<n:=by
 unfold rowP;simp only[List.mem_map,List.mem_filter,List.mem_range];constructor
 .rintro⟨b,⟨h1,h2⟩,rfl⟩;exact⟨h2,rfl,by simp,by simp;omega⟩
 .rintro⟨h1,h2,h3,h4⟩;obtain⟨a,b⟩:=t;simp only at h2 h3 h4;subst h2;obtain⟨m,rfl⟩:=Int.eq_ofNat_of_zero_le h3;exact⟨m,⟨by omega,h1⟩,rfl⟩
theorem aJ{p:Time->Bool}{t:Time}:∀ {n:Nat},t∈Bc p n↔p t=true/\0<=t.A/\t.A<n/\0<=t.B/\t.B<8
 |0=>by simp[Bc];omega
 |n+1=>by
  simp only[Bc,List.mem_append,aJ,uax];constructor
  .rintro (⟨h1,h2,h3,h4,h5⟩|⟨h1,h2,h3,h4⟩)
   .exact⟨h1,h2,by omega,h4,h5⟩
   .exact⟨h1,by omega,by omega,h3,h4⟩
  .rintro⟨h1,h2,h3,h4,h5⟩;by_cases h:t.A=n
   .exact .inr ⟨h1,h,h4,h5⟩
   .exact .inl ⟨h1,h2,by omega,h4,h5⟩
theorem vax{s t:Time}(hs:Fa s=true)(ht:Fa t=true):Fa (nb s t)=true:=by
 simp only[Fa,nb,Cj,decide_eq_true_eq] at *;refine⟨?_,?_,?_,?_⟩<;>split<;>omega
def cnt{α:Type}(p:α->Bool):List α->Nat
 |[]=>0
 |x::r=>(if p x=true then 0 else 1)+cnt p r
theorem cnt_le{α:Type}{p q:α->Bool}:∀ {l:List α},(∀x∈l,p x=true->q x=true)->cnt q l<=cnt p l
 |[],_=>Nat.le_refl _
 |x::r,h=>by
  have h1:=cnt_le (l:=r) λy hy=>h y (by simp[hy]);have h2:=h x (by simp);simp only[cnt];by_cases hp:p x=true
  .rw[if_pos hp,if_pos (h2 hp)];omega
  .rw[if_neg hp];split<;>omega
theorem cnt_lt{α:Type}{p q:α->Bool}{y:α}:∀ {l:List α},(∀x∈l,p x=true->q x=true)->y∈l->p y=false->q y=true->cnt q l<cnt p l
 |x::r,h,hy,hp,hq=>by
  have h1:=cnt_le (l:=r) λy hy=>h y (by simp[hy]);simp only[cnt];rcases List.mem_cons.1 hy with rfl|hy
  .rw[if_pos hq,if_neg (by rw[hp];simp)];omega
  .have h3:=cnt_lt (l:=r) (λz hz=>h z (by simp[hz])) hy hp hq;have h2:=h x (by simp);by_cases hpx:p x=true
   .rw[if_pos hpx,if_pos (h2 hpx)];omega
   .rw[if_neg hpx];split<;>omega
def allT:List Time:=Bc (λ_=>true) 8
theorem jaf{t:Time}:t∈allT↔Fa t=true:=by
 unfold allT;rw[aJ];simp only[Fa,decide_eq_true_eq,true_and];omega
end Tg
end Go.Proofs.YtiiidenbemkihaaGreat

namespace Go.Proofs.YtiiidenbemkihaaGreat
open Go
abbrev za:=List (List Int)
def ei(i:Nat)(k:List Int):MapEntry:={ key:=La k,val:=.bool true,born:=i }
def qc:Nat->za->List MapEntry
 |_,[]=>[]
 |i,k::r=>ei i k::qc (i+1) r
def Sa(S:za):Obj:=.map (qc 0 S).toArray S.length
def xf:za->List Int->Nat->Option Nat
 |[],_,_=>none
 |p::r,ks,i=>if p=ks then some i else xf r ks (i+1)
def Jd(S:za)(ks:List Int):za:=if ks∈S then S else S++[ks]
def ic(n:Nat)(S:za):Prop:=∀k∈S,k.length=n
theorem kaf:∀(j:Nat) (S:za) (i:Nat),(qc j S)[i]? = (S[i]?).map (ei (j+i))
 |_,[],_=>by simp[qc]
 |j,k::r,0=>by simp[qc]
 |j,k::r,i+1=>by
  have:=kaf (j+1) r i;simp only[qc,List.getElem?_cons_succ,this];rw[show j+1+i=j+(i+1) by omega]
theorem laf:∀(j:Nat) (S U:za),qc j (S++U)=qc j S++qc (j+S.length) U
 |j,[],U=>by simp[qc]
 |j,k::r,U=>by
  simp only[List.cons_append,qc,laf (j+1) r U,List.length_cons];rw[show j+1+r.length=j+(r.length+1) by omega]
theorem ZV:∀ {S:za}{ks:List Int}{j i:Nat},xf S ks j=some i->j<=i/\S[i - j]? = some ks
 |[],_,_,_,h=>by cases h
 |p::r,ks,j,i,h=>by
  simp only[xf]at h;split at h
  .rename_i e;cases h;exact⟨Nat.le_refl _,by simp[e]⟩
  .obtain⟨h1,h2⟩:=ZV h;refine⟨by omega,?_⟩;rw[show i - j=i - (j+1)+1 by omega];simpa using h2
theorem aW:∀ {S:za}{ks:List Int}{j:Nat},xf S ks j=none->ks ∉ S
 |[],_,_,_=>by simp
 |p::r,ks,j,h=>by
  simp only[xf]at h;split at h
  .cases h
  .rename_i e;simp only[List.mem_cons,not_or];exact⟨λh'=>e h'.symm,aW h⟩
section
variable {P:Program}{K n:Nat}
theorem maf(hE:Gg P K n)(w:World){ks:List Int}(hk:ks.length=n):∀(S:za) (j i:Nat),ic n S ->
  (Instr.findAsking K (La ks) (qc j S) i).run P w=.ok ((xf S ks i).map λq=>(q,Value.bool true)) w
 |[],j,i,_=>by simp[qc,Instr.findAsking,xf]
 |p::r,j,i,hm=>by
  have h1:=BX hE w hk (hm p (by simp));simp only[qc,Instr.findAsking,Sem.run_bind,xf];show((Op.equal K (La ks) (La p)).run P w).andThen _=_;rw[h1,Result.andThen_ok];by_cases e:p=ks
  .simp[e,ei]
  .have e':¬ ks=p:=λh=>e h.symm;simp only[e',decide_false,e,if_false,Bool.false_eq_true];exact maf hE w hk r (j+1) (i+1) (λq hq=>hm q (by simp[hq]))
theorem naf(hE:Gg P K n){fs:Array Field}(hu:P.underlying K=some (.struct fs))(w:World){ks:List Int}(hk:ks.length=n)(S:za)(hm:ic n S) :
  (Instr.findKey K (La ks) (qc 0 S)).run P w=.ok ((xf S ks 0).map λq=>(q,Value.bool true)) w:=by
 unfold Instr.findKey;simp only[Sem.run_bind,run_underlying hu,Result.andThen_ok];cases S with
 |nil=>simp[qc,Instr.findNow,xf]
 |cons p r=>
  have:Instr.findNow (.struct fs) (La ks) (qc 0 (p::r)) 0=none:=by simp[qc,Instr.findNow,Instr.sameNow]
  rw[this];exact maf hE w hk _ 0 0 hm
structure oaf(P:Program)(T K E n:Nat):Prop where
 u:P.underlying T=some (.map K E)
 k:∃fs,P.underlying K=some (.struct fs)
 eq:Gg P K n
 ck:IK P K n
 z:∀w,(zeroValue E).run P w=.ok (.bool false) w
variable {T E:Nat} (M:oaf P T K E n) {w:World}{r:Nat}{S:za} (hr:w.heap[r]? = some (Sa S)) (hm:ic n S) {ks:List Int} (hk:ks.length=n)
include M hr hm hk
theorem paf:(Instr.lookup T (.map (some r)) (La ks) false).run P w=.ok (.bool (decide (ks∈S))) w:=by
 obtain⟨fs,hu⟩:=M.k;have h1:=naf M.eq hu w hk S hm;have h2:∀b,(Instr.checkKey b 10000 K (La ks)).run P w=.ok () w:=λb=>M.ck b w ks hk;have hg:(getObj r).run P w=.ok (Sa S) w:=by simp[getObj,Sem.run,hr,Sa]
 unfold Instr.lookup;simp only[Sem.run_bind,run_underlying M.u,Result.andThen_ok,hg];simp only[Sa,Sem.run_bind,Sem.run_pure,Result.andThen_ok,h2,h1];cases hl:xf S ks 0 with
 |none=>simp[M.z w,aW hl]
 |some i=>
  have:=List.mem_of_getElem? (ZV hl).2;simp[this]
theorem qaf:(Instr.mapUpdate T (.map (some r)) (La ks) (.bool true)).run P w=.ok () (cd w r (Sa (Jd S ks))):=by
 obtain⟨fs,hu⟩:=M.k;have h1:=naf M.eq hu w hk S hm;have h2:∀b,(Instr.checkKey b 10000 K (La ks)).run P w=.ok () w:=λb=>M.ck b w ks hk;have hg:(getObj r).run P w=.ok (Sa S) w:=by simp[getObj,Sem.run,hr,Sa]
 have hs:∀o,(setObj r o).run P w=.ok () (cd w r o):=λo=>by simp[setObj,Sem.run,hr,Sa,cd]
 unfold Instr.mapUpdate;simp only[Sem.run_bind,run_underlying M.u,Result.andThen_ok,hg];simp only[Sa,Sem.run_bind,Result.andThen_ok,h2,h1];cases hl:xf S ks 0 with
 |none=>
  have hn:=aW hl;simp only[Option.map_none,hs]
  have:Sa (Jd S ks)=.map ((qc 0 S).toArray.push { key:=La ks,val:=.bool true,born:=S.length }) (S.length+1):=by
   unfold Sa Jd;rw[if_neg hn,laf];simp[qc,ei]
  rw[<-this];rfl
 |some i=>
  obtain⟨_,hi⟩:=ZV hl;rw[Nat.sub_zero]at hi;have hmem:=List.mem_of_getElem? hi
  have he:(qc 0 S).toArray[i]? = some (ei i ks):=by
   have:=kaf 0 S i;rw[hi]at this;simpa using this
  simp only[Option.map_some,Sem.run_bind,he,Option.getD_some];have hst:=FX (P:=P) w ks;have hke:(ei i ks).key=La ks:=rfl;rw[hke,hst,Result.andThen_ok]
  have hmod:((qc 0 S).toArray.modify i λe=>{ e with key:=La ks,val:=.bool true })=(qc 0 S).toArray:=by
   apply Array.ext';apply List.ext_getElem?;intro j;simp only[Array.toList_modify,List.getElem?_modify];by_cases hij:i=j
   .subst hij;have he':(qc 0 S)[i]? = some (ei i ks):=by simpa using he
    simp[he',ei]
   .simp[hij]
  rw[hmod,hs];unfold Jd;rw[if_pos hmem]
end
theorem raf{P:Program}{a:Act}{w:World}{o:Oper}{t x k:Nat}(hop:o.op=.mapUpdate t (.tmp x) (.tmp k) (.const (.bool true))){w':World}(h:(Instr.mapUpdate t (a.tmps.getD x undef) (a.tmps.getD k undef) (.bool true)).run P w=.ok () w'):(execOp a.eval o).run P w=.ok .skip w':=by
 obtain⟨dst,op,ty,pos,aft,gd⟩:=o;simp only[]at hop;subst hop;exact UX (s:=Instr.mapUpdate t (a.tmps.getD x undef) (a.tmps.getD k undef) (.bool true)) rfl h
end Go.Proofs.YtiiidenbemkihaaGreat

namespace Go.Proofs.YtiiidenbemkihaaGreat
open Go Tg
def lc(h k v:Int):Int×Int×Bool:=if h=1 then(v % 4,v - v % 4+k,true) else if h=2 then(k,(v+1) % 100,true) else if h=3 then(v % 4,v,true) else if h=4 then(0,v,true) else
 if h=5 then(k,v,decide (v % 2=0)) else if h=6 then(k,v,decide (k % 2=0)) else(k,v,decide (v<10))
def Qg(h:Int)(x:Row):List Row:=if(lc h x.Key x.Val).2.2=true then [⟨(lc h x.Key x.Val).1,(lc h x.Key x.Val).2.1,x.At,x.Diff⟩] else []
def Ec(h:Int)(a:List Row):List Row:=a.flatMap (Qg h)
def Po(x y:Int):Int:=(10*x+y) % 100
def oc(x y:Row):List Row:=if x.Key=y.Key then [⟨x.Key,Po x.Val y.Val,nb x.At y.At,x.Diff*y.Diff⟩] else []
def mc(a b:List Row):List Row:=a.flatMap λx=>b.flatMap (oc x)
def qg(x:Row):Row:=⟨x.Key,x.Val,x.At,IntKind.wrap .i64 (0 - x.Diff)⟩
def Ya(a:List Row):List Row:=a.map qg
def sk(n:Int):Int:=ar .rem .i64 (ar .add .i64 (ar .rem .i64 n 100) 100) 100
def Fe(s:List Item):Int:=s.foldl (λn x=>ar .add .i64 n x.Count) 0
def Mc(k:Int)(s:List Item):List Item:=(s.filter λx=>decide (0<x.Count)).map λx=>⟨k,x.Val,1⟩
def fb(kind k:Int)(s:List Item):List Item:=if kind=1 then(if Fe s=0 then [] else [⟨k,sk (Fe s),1⟩]) else if kind=2 then Mc k s else(Mc k s).take 1
def Nb(x:Item):Item:=⟨x.Key,x.Val,IntKind.wrap .i64 (0 - x.Count)⟩
def rowT(t:Time)(x:Item):Row:=⟨x.Key,x.Val,t,x.Count⟩
def Ti(kind k:Int)(own made:List Row)(t:Time):List Item:=gathI (fb kind k (Sd own t)++(Sd made t).map Nb)
def Lf(kind k:Int)(own made:List Row)(t:Time):List Row:=made++(Ti kind k own made t).map (rowT t)
def wa(k:Int)(a:List Row):List Row:=a.filter λx=>decide (x.Key=k)
def Kb(kind k:Int)(own:List Row)(ts:List Time):List Row:=ts.foldl (Lf kind k own) []
def cf(kind:Int)(a:List Row):List Row:=(List.range 4).flatMap λk:Nat=>Kb kind k (wa k a) (ib a k)
def Td:Option Row->Row->Bool
 |none,x=>decide (x.Diff=0)
 |some y,x=>decide (x.Diff=0)||!ltK (rK y) (rK x)
def ub{α:Type}(bad:Option α->α->Bool):Option α->List α->Bool
 |_,[]=>true
 |y,x::r=>!bad y x&&ub bad (some x) r
def Ga(xs:List Row):Bool:=ub Td none xs&&Jb xs
def opR(kind num:Int)(ks ins:List (List Row)):List Row:=if kind=1 then ins.getD num.toNat [] else if kind=2 then Pa (Ec num (ks.getD 0 [])) else if kind=3 then Pa (ks.getD 0 []++ks.getD 1 []) else
 if kind=4 then Pa (Ya (ks.getD 0 [])) else if kind=5 then Pa (mc (ks.getD 0 []) (ks.getD 1 [])) else Pa (cf num (ks.getD 0 []))
def Ub{α β:Type}(f:α->Option β):List α->Option (List β)
 |[]=>some []
 |x::r=>match f x with
  |none=>none
  |some y=>match Ub f r with
   |none=>none
   |some ys=>some (y::ys)
def Vb:Nat->List (List Row)->Plan->Option (List Row)
 |0,_,_=>none
 |d+1,ins,p=>match Ub (Vb d ins) p.Kids with
  |none=>none
  |some ks=>if Ga (opR p.Kind p.Num ks ins)=true then some (opR p.Kind p.Num ks ins) else none
theorem Qo{α β:Type}(f:α->Option β):∀(l r:List α),Ub f (l++r)=match Ub f l with
  |none=>none
  |some ys=>match Ub f r with
   |none=>none
   |some zs=>some (ys++zs)
 |[],r=>by simp only[List.nil_append,Ub];cases Ub f r<;>rfl
 |x::l,r=>by
  simp only[List.cons_append,Ub,Qo f l r];cases f x with
  |none=>rfl
  |some y=>
   cases Ub f l with
   |none=>rfl
   |some ys=>cases Ub f r<;>rfl
theorem Ro{α β:Type}{f:α->Option β}:∀ {l:List α}{ys:List β},Ub f l=some ys->ys.length=l.length
 |[],ys,h=>by simp[Ub]at h;subst h;rfl
 |x::l,ys,h=>by
  simp only[Ub]at h;split at h
  .cases h
  .split at h
   .cases h
   .rename_i zs hz;cases h;simp[Ro hz]
theorem cM{α β:Type}{f:α->Option β}:∀ {l:List α}{ys:List β},Ub f l=some ys->∀y∈ys,∃x∈l,f x=some y
 |[],ys,h=>by simp[Ub]at h;subst h;simp
 |x::l,ys,h=>by
  simp only[Ub]at h;split at h
  .cases h
  .rename_i y hy;split at h
   .cases h
   .rename_i zs hz;cases h;intro w hw;rcases List.mem_cons.1 hw with rfl|hw
    .exact⟨x,by simp,hy⟩
    .obtain⟨x',h1,h2⟩:=cM hz w hw;exact⟨x',by simp[h1],h2⟩
theorem gb{xs:List Row}(h:Jb xs=true):xs.length<=400/\∀x∈xs,Db x=true:=by
 simp only[Jb,Bool.and_eq_true,decide_eq_true_eq,List.all_eq_true]at h;exact⟨h.2,h.1⟩
theorem Mf{x:Row}(h:Db x=true):Fa x.At=true:=by
 simp only[Db,decide_eq_true_eq]at h;simp only[Fa,decide_eq_true_eq];exact h.2.2.2.2.1
theorem Oe{x:Row}(h:Db x=true):InR x.Diff:=by
 simp only[Db,decide_eq_true_eq]at h;unfold InR;omega
theorem oe{xs:List Row}(h:Ga xs=true):Jb xs=true:=by
 simp only[Ga,Bool.and_eq_true]at h;exact h.2
theorem dM{d:Nat}{ins:List (List Row)}{p:Plan}{x:List Row}(h:Vb d ins p=some x):Ga x=true:=by
 cases d with
 |zero=>cases h
 |succ d=>
  simp only[Vb]at h;split at h
  .cases h
  .split at h
   .rename_i hb;cases h;exact hb
   .cases h
theorem hZ{n:Int}:Eqm (IntKind.wrap .i64 (0 - n)) (-n):=(Io _).trans (Eqm.of (by omega))
theorem eM:∀(s:List Item) (k:List Int),Eqm (sumT (chI (s.map Nb)) k) (-sumT (chI s) k)
 |[],k=>Eqm.refl _
 |x::r,k=>by
  have ih:=eM r k;show Eqm ((if kI (Nb x)=k then(Nb x).Count else 0)+sumT (chI (r.map Nb)) k) (-((if kI x=k then x.Count else 0)+sumT (chI r) k));have e:kI (Nb x)=kI x:=rfl;rw[e];by_cases h:kI x=k
  .rw[if_pos h,if_pos h];exact(Eqm.add (hZ (n:=x.Count)) ih).trans (Eqm.of (by omega))
  .rw[if_neg h,if_neg h];exact(Eqm.add (Eqm.refl 0) ih).trans (Eqm.of (by omega))
theorem iZ(x:Item):InR (Nb x).Count:=Jo _
theorem iai{a s:List Item}(hs:∀x∈s,InR x.Count):gathI (a++(gathI s).map Nb)=gathI (a++s.map Nb):=Pah λk=>by
  rw[YY,YY];exact(Eqm.refl _).add ((eM _ k).trans (((Vah hs k).neg).trans (eM s k).symm))
end Go.Proofs.YtiiidenbemkihaaGreat

namespace Go.Proofs.YtiiidenbemkihaaGreat
open Go Tg
theorem jZ(hi:Int):∀(l:List Int) (lo:Int),l.Pairwise (· < ·)->(∀x∈l,lo<=x/\x<=hi)->lo<=hi+1->(l.length:Int)<=hi+1 - lo
 |[],lo,_,_,h=>by simp;omega
 |x::r,lo,hp,hb,h=>by
  have hp':=List.pairwise_cons.1 hp;have hx:=hb x (by simp);have:=jZ hi r (x+1) hp'.2 (λy hy=>⟨by have:=hp'.1 y hy;omega,(hb y (by simp[hy])).2⟩) (by omega);rw[List.length_cons];omega
theorem kZ(xs:List Item):(gathI xs).Pairwise λx y=>ltK (kI x) (kI y)=true:=by
 have h:=Gi (Mo xs);rw[<-Ho]at h;exact List.pairwise_map.1 (show((gathI xs).map λx=>(kI x,x.Count)).Pairwise (λp q=>ltK p.1 q.1=true) from h)
theorem fM{xs:List Item}{x:Item}(hx:x∈gathI xs):∃y∈xs,y.Key=x.Key/\y.Val=x.Val:=by
 have h:(kI x,x.Count)∈chI (gathI xs):=List.mem_map.2 ⟨x,hx,rfl⟩;rw[Ho]at h;obtain⟨y,hy,e⟩:=aM h;have e:kI x=kI y:=e;simp[kI]at e;exact⟨y,hy,e.1.symm,e.2.symm⟩
theorem lZ{xs:List Item}{k:Int}(h:∀x∈xs,x.Key=k/\0<=x.Val/\x.Val<=99):(gathI xs).length<=100:=by
 have hk:∀x∈gathI xs,x.Key=k/\0<=x.Val/\x.Val<=99:=λx hx=>by
  obtain⟨y,hy,e1,e2⟩:=fM hx;rw[<-e1,<-e2];exact h y hy
 have hp:((gathI xs).map λx=>x.Val).Pairwise (· < ·):=by
  rw[List.pairwise_map];refine(kZ xs).imp_of_mem λ{x y} hx hy hlt=>?_;have h1:=(hk x hx).1;have h2:=(hk y hy).1;have hlt:(decide (x.Key<y.Key)||(decide (x.Key=y.Key)&&(decide (x.Val<y.Val)||(decide (x.Val=y.Val)&&(decide ((0:Int)<0)||(decide ((0:Int)=0)&&ltK [] []))))))=true:=hlt;have h0:ltK [] []=false:=rfl;rw[h1,h2,h0]at hlt;simpa using hlt
 have:=jZ 99 _ 0 hp (λv hv=>by
  obtain⟨x,hx,rfl⟩:=List.mem_map.1 hv;exact(hk x hx).2) (by omega)
 rw[List.length_map]at this;omega
theorem mZ(n:Int):0<=sk n/\sk n<=99:=by
 unfold sk;rw[Cw,Cw]
 have h1 : -99<=n.tmod 100/\n.tmod 100<=99:=by
  have a:=Int.tmod_lt_of_pos n (show(0:Int)<100 by omega);have b:=Int.lt_tmod_of_pos n (show(0:Int)<100 by omega);omega
 rw[cc (by omega)];rw[Int.tmod_eq_emod_of_nonneg (by omega)];omega
theorem nZ{kind k:Int}{s:List Item}{x:Item}(hs:∀y∈s,0<=y.Val/\y.Val<=99)(hx:x∈fb kind k s):x.Key=k/\0<=x.Val/\x.Val<=99/\x.Count=1:=by
 have honce:∀x∈Mc k s,x.Key=k/\0<=x.Val/\x.Val<=99/\x.Count=1:=λx hx=>by
  obtain⟨y,hy,rfl⟩:=List.mem_map.1 hx;exact⟨rfl,(hs y (List.mem_filter.1 hy).1).1,(hs y (List.mem_filter.1 hy).1).2,rfl⟩
 unfold fb at hx;split at hx
 .split at hx
  .cases hx
  .simp at hx;subst hx;exact⟨rfl,(mZ _).1,(mZ _).2,rfl⟩
 .split at hx
  .exact honce x hx
  .exact honce x (List.mem_of_mem_take hx)
theorem oZ(kind k:Int)(s:List Item):(fb kind k s).length<=s.length+1:=by
 have h:(Mc k s).length<=s.length:=by
  unfold Mc;rw[List.length_map];exact List.length_filter_le _ _
 unfold fb;split
 .split<;>simp
 .split
  .omega
  .rw[List.length_take];omega
def Gc(k:Int)(l:List Row):Prop:=∀x∈l,x.Key=k/\0<=x.Val/\x.Val<=99/\InR x.Diff/\Fa x.At=true
theorem Gc.items{k:Int}{l:List Row}(h:Gc k l)(t:Time):∀x∈db l t,x.Key=k/\0<=x.Val/\x.Val<=99/\InR x.Count:=λx hx=>by
 obtain⟨r,hr,rfl⟩:=List.mem_map.1 hx;have:=h r (List.mem_filter.1 hr).1;exact⟨this.1,this.2.1,this.2.2.1,this.2.2.2.1⟩
theorem Gc.pres{k:Int}{l:List Row}(h:Gc k l)(t:Time):∀x∈Sd l t,x.Key=k/\0<=x.Val/\x.Val<=99/\InR x.Count:=λx hx=>by
 obtain⟨y,hy,e1,e2⟩:=fM hx;have:=h.items t y hy;exact⟨e1▸this.1,e2▸this.2.1,e2▸this.2.2.1,VL hx⟩
theorem Gc.presLen{k:Int}{l:List Row}(h:Gc k l)(t:Time):(Sd l t).length<=100:=lZ λx hx=>by have:=h.items t x hx;exact⟨this.1,this.2.1,this.2.2.1⟩
theorem Ui{k:Int}{a:List Row}(h:∀x∈a,Db x=true):Gc k (wa k a):=λx hx=>by
 obtain⟨h1,h2⟩:=List.mem_filter.1 hx;have h3:=h x h1;have h4:=Mf h3;have h5:=Oe h3;simp only[Db,decide_eq_true_eq]at h3;exact⟨by simpa using h2,h3.2.2.1,h3.2.2.2.1,h5,h4⟩
theorem jai{kind k:Int}{own made:List Row}{t:Time}(ho:Gc k own)(hm:Gc k made):∀x∈fb kind k (Sd own t)++(Sd made t).map Nb,x.Key=k/\0<=x.Val/\x.Val<=99/\InR x.Count:=λx hx=>by
 rcases List.mem_append.1 hx with hx|hx
 .have:=nZ (λy hy=>⟨(ho.pres t y hy).2.1,(ho.pres t y hy).2.2.1⟩) hx;exact⟨this.1,this.2.1,this.2.2.1,by rw[this.2.2.2];unfold InR;omega⟩
 .obtain⟨y,hy,rfl⟩:=List.mem_map.1 hx;have:=hm.pres t y hy;exact⟨this.1,this.2.1,this.2.2.1,iZ y⟩
theorem gM{kind k:Int}{own made:List Row}{t:Time}(ho:Gc k own)(hm:Gc k made):(∀x∈Ti kind k own made t,x.Key=k/\0<=x.Val/\x.Val<=99/\InR x.Count)/\(Ti kind k own made t).length<=100:=by
 have hd:=jai (kind:=kind) (t:=t) ho hm;refine⟨λx hx=>?_,lZ λx hx=>by have:=hd x hx;exact⟨this.1,this.2.1,this.2.2.1⟩⟩;obtain⟨y,hy,e1,e2⟩:=fM hx;have:=hd y hy;exact⟨e1▸this.1,e2▸this.2.1,e2▸this.2.2.1,VL hx⟩
theorem kai{kind k:Int}{own made:List Row}{t:Time}(ho:Gc k own)(hm:Gc k made)(ht:Fa t=true):Gc k (Lf kind k own made t)/\(Lf kind k own made t).length<=made.length+100:=by
 obtain⟨h1,h2⟩:=gM (kind:=kind) (t:=t) ho hm;refine⟨λx hx=>?_,by unfold Lf;rw[List.length_append,List.length_map];omega⟩;rcases List.mem_append.1 hx with hx|hx
 .exact hm x hx
 .obtain⟨y,hy,rfl⟩:=List.mem_map.1 hx;have:=h1 y hy;exact⟨this.1,this.2.1,this.2.2.1,this.2.2.2,ht⟩
theorem pZ(kind k:Int)(own:List Row)(ts:List Time)(t:Time):Kb kind k own (ts++[t])=Lf kind k own (Kb kind k own ts) t:=by
 unfold Kb;rw[List.foldl_append];rfl
theorem So{kind k:Int}{own:List Row}(ho:Gc k own)(ts:List Time)(ht:∀t∈ts,Fa t=true):Gc k (Kb kind k own ts)/\(Kb kind k own ts).length<=100*ts.length:=by
 suffices ∀(ts:List Time) (m:List Row),(∀t∈ts,Fa t=true)->Gc k m->Gc k (ts.foldl (Lf kind k own) m)/\(ts.foldl (Lf kind k own) m).length<=m.length+100*ts.length by
  have:=this ts [] ht (λx hx=>by cases hx);simpa [Kb] using this
 intro ts
 induction ts with
 |nil=>intro m _ hm;exact⟨hm,by simp⟩
 |cons t r ih=>
  intro m h hm;obtain⟨h1,h2⟩:=kai (kind:=kind) ho hm (h t (by simp));obtain⟨h3,h4⟩:=ih _ (λt ht=>h t (by simp[ht])) h1;rw[List.foldl_cons];exact⟨h3,by rw[List.length_cons];omega⟩
theorem To{a:List Row}{k:Int}:(∀t∈ib a k,Fa t=true)/\(ib a k).length<=64:=by
 unfold ib;split
 .refine⟨λt ht=>?_,ZI _ 8⟩;have:=aJ.1 ht;simp only[Fa,decide_eq_true_eq];omega
 .exact⟨by simp,by simp⟩
theorem lai{kind k:Int}{own made:List Row}{t:Time}(hm:Gc k made):Ti kind k own made t=gathI (fb kind k (Sd own t)++(db made t).map Nb):=iai λx hx=>(hm.items t x hx).2.2.2
theorem iM{kind:Int}{a:List Row}(h:∀x∈a,Db x=true):(∀x∈cf kind a,InR x.Diff/\Fa x.At=true)/\(cf kind a).length<=25600:=by
 have key:∀k:Int,Gc k (Kb kind k (wa k a) (ib a k))/\(Kb kind k (wa k a) (ib a k)).length<=6400:=λk=>by
  obtain⟨h1,h2⟩:=To (a:=a) (k:=k);obtain⟨h3,h4⟩:=So (kind:=kind) (Ui (k:=k) h) _ h1;exact⟨h3,by omega⟩
 refine⟨λx hx=>?_,?_⟩
 .obtain⟨k,_,hk⟩:=List.mem_flatMap.1 hx;have:=(key k).1 x hk;exact⟨this.2.2.2.1,this.2.2.2.2⟩
 .have h0:=(key 0).2;have h1:=(key 1).2;have h2:=(key 2).2;have h3:=(key 3).2;show(Kb kind (0:Nat) _ _++(Kb kind (1:Nat) _ _++(Kb kind (2:Nat) _ _++(Kb kind (3:Nat) _ _++[])))).length<=_;simp only[List.length_append,List.length_nil];simp only[Int.natCast_zero,Int.natCast_one]at h0 h1 h2 h3⊢;have e2:((2:Nat):Int)=2:=rfl;have e3:((3:Nat):Int)=3:=rfl;have e0:((0:Nat):Int)=0:=rfl;have e1:((1:Nat):Int)=1:=rfl;simp only[e2,e3];omega
end Go.Proofs.YtiiidenbemkihaaGreat

namespace Go.Proofs.YtiiidenbemkihaaGreat
open Go
theorem rg{α:Type}(ok:α->Bool):∀(xs:List α) (y:Option α),ub (λ_ x=>!ok x) y xs=xs.all ok
 |[],_=>rfl
 |x::r,y=>by simp only[ub,List.all_cons,rg ok r (some x),Bool.not_not]
theorem ja.scan{ρ α:Type}[Inhabited ρ]{step:Int->Lp Int ρ}{ob:Int->Prop}(xs:List α)(bad:Option α->α->Bool){no yes:ρ}
  (hstep:∀l x r,xs=l++x::r->ob (l.length:Int)/\step (l.length:Int)=(if bad l.getLast? x=true then .out no else .go (((l.length+1:Nat)):Int))) (hend:ob (xs.length:Int)/\step (xs.length:Int)=.out yes) :
  ja step ob 0 (if ub bad none xs=true then yes else no):=by
 obtain⟨q,h1,h2⟩:=ja.list (step:=step) (ob:=ob) (Q:=λq=>q=if ub bad none xs=true then yes else no) xs (λi (_:Unit)=>(i:Int)) (λl _=>ub bad none xs=ub bad l.getLast? (xs.drop l.length)) (b0:=()) rfl rfl
  (λl x r _ hx hI=>by
    obtain⟨a1,a2⟩:=hstep l x r hx;have hdrop:xs.drop l.length=x::r:=by rw[hx];simp
    have hdrop2:xs.drop (l++[x]).length=r:=by rw[hx];simp
    rw[hdrop]at hI;simp only[ub]at hI;refine⟨a1,?_⟩;cases hb:bad l.getLast? x with
    |true=>
     rw[hb]at hI a2;exact .inr ⟨no,a2,by rw[hI];rfl⟩
    |false=>
     rw[hb]at hI a2;exact .inl ⟨(),a2,by rw[hdrop2,hI];simp⟩)
  (λ_ hI=>by
    rw[List.drop_length]at hI;exact⟨hend.1,yes,hend.2,by rw[hI];rfl⟩)
 rw[h2]at h1;exact h1
theorem Fw(t:Time):Xh t=Fa t:=by
 show(cond (cond (cond (cmp .geq t.A 0) (cmp .leq t.A 7) false) (cmp .geq t.B 0) false) (cmp .leq t.B 7) false)=_;rw[Ng,Ee,Ng,Ee,Bool.eq_iff_iff];simp[Fa];omega
theorem Gw(t:Time):nm t:=trivial
theorem Fh(t:Time):qe t=Fa t:=by
 show(cond (Hd t.A 0 7) (Hd t.B 0 7) false)=_;rw[qk,qk,Bool.eq_iff_iff];simp[Fa];omega
theorem qZ(s t:Time):eG s t=Vc s t:=by
 show(cond (cmp .leq s.A t.A) (cmp .leq s.B t.B) false)=_;rw[Ee,Ee];unfold Vc;cases decide (s.A<=t.A)<;>rfl
theorem jM(s t:Time):fG s t:=trivial
theorem kM(s t:Time):Zi s t=(Fa s&&Fa t&&Vc s t):=by
 show(cond (cond (cond (qe s) (qe t) false) (cmp .leq s.A t.A) false) (cmp .leq s.B t.B) false)=_;rw[Fh,Fh,Ee,Ee];unfold Vc;cases Fa s<;>cases Fa t<;>cases decide (s.A<=t.A)<;>rfl
theorem mai(x:Row):gO x=Db x:=by
 show(cond (cond (cond (Hd x.Key 0 3) (Hd x.Val 0 99) false) (qe x.At) false) (Hd x.Diff (-99999) 99999) false)=_;rw[Fh,qk,qk,qk,Bool.eq_iff_iff];simp[Db,Fa];omega
theorem rZ(xs:List Row)(hl:xs.length<1000000000):ut xs/\qt xs=Jb xs:=by
 have k2:ja (λs:Int=>da (xm xs (ba .row xs) s)) (λs=>mt xs (ba .row xs) s) 0 (if ub (λ_ x=>!Db x) none xs=true then .x () else .r false):=by
  refine ja.scan xs _ (λl x r hx=>?_) ?_
  .obtain⟨hlen,hrd,hin,hlss⟩:=Oa (t:=.row) hx
   have e1:(cond (cond (cond (cond (cond (cond (cmp .lss x.Key 0) true (cmp .geq x.Key 4)) true (cmp .lss x.Val 0)) true (cmp .geq x.Val 100)) true (!(Xh x.At))) true (cmp .lss x.Diff (-99999))) true (cmp .gtr x.Diff 99999))=!Db x:=by
    rw[Fw];simp only[bc,Ng,xc];rw[Bool.eq_iff_iff];simp[Db,Fa];omega
   simp only[mt,xm,kt,Tr.val,Tr.ob,ga,hlss,hrd,Ia (l:=l) (by omega),e1];refine⟨by simp[hin,Gw],?_⟩;cases Db x<;>rfl
  .have hend:cmp .lss (xs.length:Int) (ba .row xs)=false:=Ma (t:=.row);simp only[mt,xm,kt,Tr.val,Tr.ob,ga,hend];exact⟨by simp,rfl⟩
 have a2:Wab xs (ba .row xs)=_:=k2.v;have b2:Xab xs (ba .row xs):=k2.t;rw[rg]at a2;simp only[ut,qt,TS,SS,eF,dF,Zab,Yab,cF,bF,lpS,Tr.val,Tr.ob,Jb,a2];refine⟨by simp[b2],?_⟩;cases xs.all Db with
 |false=>rfl
 |true=>
  show cmp .leq (xs.length:Int) 400=_;rw[Ee,Bool.true_and,Bool.eq_iff_iff];simp;omega
theorem Uo(xs:List Row)(hl:xs.length<1000000000):Kh xs/\Wg xs=Jb xs:=by
 have k2:ja (λs:Int=>da (Yk xs s)) (λs=>Yp xs s) 0 (if ub (λ_ x=>!Db x) none xs=true then .x () else .r false):=by
  refine ja.scan xs _ (λl x r hx=>?_) ?_
  .obtain⟨hlen,hrd,hin,hlss⟩:=Oa (t:=.row) hx;simp only[Yp,Yk,Xp,Tr.val,Tr.ob,ga,hlss,hrd,Ia (l:=l) (by omega),mai];refine⟨by simp[hin,eai],?_⟩;cases Db x<;>rfl
  .have hend:cmp .lss (xs.length:Int) (ba .row xs)=false:=Ma (t:=.row);simp only[Yp,Yk,Xp,Tr.val,Tr.ob,ga,hend];exact⟨by simp,rfl⟩
 have a2:R5 xs=_:=k2.v;have b2:U5 xs:=k2.t;rw[rg]at a2
 have hg:cmp .gtr (ba .row xs) 400=!decide (xs.length<=400):=by
  show cmp .gtr (xs.length:Int) 400=_;rw[xc,Bool.eq_iff_iff];simp;omega
 simp only[Kh,Wg,nO,mO,Wy,Vy,Y5,X5,Uy,Sy,lpS,Tr.val,Tr.ob,Jb,a2,hg];refine⟨by simp[b2],?_⟩;cases decide (xs.length<=400)<;>cases xs.all Db<;>rfl
theorem nai(x y:Row):ZE x y/\YE x y=ltK (rK x) (rK y):=by
 have ha:ES x.At y.At=(cond (cmp .lss x.At.A y.At.A) true (cond (cmp .eql x.At.A y.At.A) (cmp .lss x.At.B y.At.B) false)):=rfl;have hp:FS x.At y.At:=trivial;simp only[ZE,YE,LS,JS,XE,Tr.val,Tr.ob,ga,ha,rK,ltK,Rd,bc,Bb];refine⟨by simp[hp],?_⟩;by_cases h1:x.Key=y.Key
 .by_cases h2:x.Val=y.Val
  .simp only[h1,h2,decide_true,Bool.not_true,ocR];rw[Bool.eq_iff_iff];simp
  .simp only[h1,h2,decide_true,decide_false,Bool.not_true,Bool.not_false,ocR];simp
 .simp only[h1,decide_false,Bool.not_false,ocR];simp
theorem Hw{α:Type}{l:List α}{x:α}{r xs:List α}(hx:xs=l++x::r)(hl:xs.length<1000000000):(l=[]/\l.getLast? = none)\/∃l' y,l=l'++[y]/\l.getLast? = some y/\ar .sub .i64 (l.length:Int) 1=(l'.length:Int)/\xs=l'++y::(x::r)/\cmp .gtr (l.length:Int) 0=true:=by
 have hlen:xs.length=l.length+(r.length+1):=by rw[hx];simp
 rcases last_cases l with h|⟨l',y,h,h2⟩
 .exact .inl h
 .refine .inr ⟨l',y,h,h2,?_,?_,?_⟩
  .rw[bf (by omega),h];simp
  .rw[hx,h];simp
  .rw[xc,h];simp
theorem sZ(xs:List Row)(hl:xs.length<1000000000):zt xs/\xt xs=Ga xs:=by
 obtain⟨r1,r2⟩:=rZ xs hl
 have k2:ja (λs:Int=>da (yj xs (ba .row xs) s)) (λs=>zm xs (ba .row xs) s) 0 (if ub Td none xs=true then .x () else .r false):=by
  refine ja.scan xs _ (λl x r hx=>?_) ?_
  .obtain⟨hlen,hrd,hin,hlss⟩:=Oa (t:=.row) hx;rcases Hw hx hl with⟨h1,h2⟩|⟨l',y,h1,h2,h3,h4,h5⟩
   .have hg:cmp .gtr (l.length:Int) 0=false:=by rw[h1];rfl
    simp only[zm,yj,ym,Tr.val,Tr.ob,ga,hlss,hrd,Ia (l:=l) (by omega),hg,h2,Td,Bb];refine⟨by simp[hin],?_⟩;cases decide (x.Diff=0)<;>rfl
   .have hy:rd .row xs (l'.length:Int)=y:=by rw[h4];exact Ri
    have hin2:inb (l'.length:Int) (ba .row xs):=by rw[h4];exact Si (t:=.row)
    obtain⟨q1,q2⟩:=nai y x;simp only[zm,yj,ym,Tr.val,Tr.ob,ga,hlss,hrd,Ia (l:=l) (by omega),h2,h3,hy,h5,Td,Bb,q2];refine⟨by simp[hin,hin2,q1],?_⟩;cases decide (x.Diff=0)<;>cases ltK (rK y) (rK x)<;>rfl
  .have hend:cmp .lss (xs.length:Int) (ba .row xs)=false:=Ma (t:=.row);simp only[zm,yj,ym,Tr.val,Tr.ob,ga,hend];exact⟨by simp,rfl⟩
 have a2:bac xs (ba .row xs)=_:=k2.v;have b2:cac xs (ba .row xs):=k2.t;simp only[zt,xt,XS,WS,lF,jF,eac,dac,iF,gF,lpS,Tr.val,Tr.ob,ga,Ga,a2,r2];refine⟨by simp[b2,r1],?_⟩;cases ub Td none xs<;>rfl
theorem Vo(xs:List Row)(hl:xs.length<1000000000):Lh xs/\Yg xs=Ga xs:=by
 obtain⟨r1,r2⟩:=Uo xs hl
 have k2:ja (λs:Int=>da (jj xs s)) (λs=>al xs s) 0 (if ub Td none xs=true then .x () else .r false):=by
  refine ja.scan xs _ (λl x r hx=>?_) ?_
  .obtain⟨hlen,hrd,hin,hlss⟩:=Oa (t:=.row) hx;rcases Hw hx hl with⟨h1,h2⟩|⟨l',y,h1,h2,h3,h4,h5⟩
   .have hg:cmp .gtr (l.length:Int) 0=false:=by rw[h1];rfl
    simp only[al,jj,Zk,Tr.val,Tr.ob,ga,hlss,hrd,Ia (l:=l) (by omega),hg,h2,Td,Bb];refine⟨by simp[hin],?_⟩;cases decide (x.Diff=0)<;>rfl
   .have hy:rd .row xs (l'.length:Int)=y:=by rw[h4];exact Ri
    have hin2:inb (l'.length:Int) (ba .row xs):=by rw[h4];exact Si (t:=.row)
    obtain⟨q1,q2⟩:=aZ y x
    have q3:cmp .geq (ij y x) 0=!ltK (rK y) (rK x):=by
     rw[q2,Ng];cases ltK (rK y) (rK x)<;>cases ltK (rK x) (rK y)<;>rfl
    simp only[al,jj,Zk,Tr.val,Tr.ob,ga,hlss,hrd,Ia (l:=l) (by omega),h2,h3,hy,h5,Td,Bb,q3];refine⟨by simp[hin,hin2,q1],?_⟩;cases decide (x.Diff=0)<;>cases ltK (rK y) (rK x)<;>rfl
  .have hend:cmp .lss (xs.length:Int) (ba .row xs)=false:=Ma (t:=.row);simp only[al,jj,Zk,Tr.val,Tr.ob,ga,hend];exact⟨by simp,rfl⟩
 have a2:l6 xs=_:=k2.v;have b2:t6 xs:=k2.t;simp only[Lh,Yg,wO,vO,jz,iz,w6,v6,gz,ez,lpS,Tr.val,Tr.ob,ga,Ga,a2,r2];refine⟨by simp[b2,r1],?_⟩;cases ub Td none xs<;>cases Jb xs<;>rfl
theorem tZ(xs:List Row)(t:Time)(hl:xs.length<1000000000):Tt xs t/\St xs t=Sd xs t:=by
 have hlt:∀l:List Row,(db l t).length<=l.length:=λl=>by unfold db;rw[List.length_map];exact List.length_filter_le _ _
 have k2:ja (λs:LI×Int=>da (Km t xs (ba .row xs) s.1 s.2)) (λs=>Rt t xs (ba .row xs) s.1 s.2) ([],0) (.x (db xs t)):=by
  refine ja.fold xs (λi b=>(b,(i:Int))) (λl=>db l t) rfl (λl x r hx=>?_) ?_
  .obtain⟨hlen,hrd,hin,hlss⟩:=Oa (t:=.row) hx;have hl1:=hlt l;have hlim:∀y,lim (ba .item (db l t)) (ba .item [y]):=λy=>Ab (t:=.item) (show(db l t).length<1099511627776 by omega);simp only[Rt,Km,Qt,kG,Mac,Lac,jG,Tr.val,Tr.ob,ga,hlss,hrd,Ia (l:=l) (by omega),qZ];rw[SL];cases hb:Vc x.At t with
   |true=>exact⟨by simp[hin,hlim,jM],by simp[da,db,hb,rIt]⟩
   |false=>exact⟨by simp[hin,hlim,jM],by simp[da,db,hb]⟩
  .have hend:cmp .lss (xs.length:Int) (ba .row xs)=false:=Ma (t:=.row);simp only[Rt,Km,Qt,Tr.val,Tr.ob,hend];exact⟨by simp,rfl⟩
 have a2:Nac t xs (ba .row xs)=.x (db xs t):=k2.v;have b2:Oac t xs (ba .row xs):=k2.t
 have hg:Eo (db xs t):=by
  have:=hlt xs;show lim _ 1;simp only[lim,ba];omega
 simp only[Tt,St,VT,UT,oG,nG,Qac,Pac,mG,lG,lpS,Tr.val,Tr.ob,ga,a2,ocR];exact⟨by simp[b2,hg],rfl⟩
theorem oai{xs:List Row}(h:∀x∈xs,InR x.Diff)(t:Time):∀x∈db xs t,InR x.Count:=λx hx=>by
 obtain⟨r,hr,rfl⟩:=List.mem_map.1 hx;exact h r ((List.mem_filter.1 hr).1)
theorem pai(xs:List Row)(t:Time)(hl:xs.length<10000000):tB xs t/\sB xs t=if Jb xs=true/\Fa t=true then Sd xs t else []:=by
 obtain⟨r1,r2⟩:=Uo xs (by omega);simp only[tB,sB,OP,JP,rB,qB,r9,n9,pB,oB,lpS,Tr.val,Tr.ob,ga,r2,Fh];by_cases h:Jb xs=true/\Fa t=true
 .obtain⟨h1,h2⟩:=h;obtain⟨m1,m2⟩:=gb h1;have hlt:∀l:List Row,(db l t).length<=l.length:=λl=>by unfold db;rw[List.length_map];exact List.length_filter_le _ _
  have k2:ja (λs:LI×Int=>da (Dl xs t s.1 s.2)) (λs=>Yq xs t s.1 s.2) ([],0) (.x (db xs t)):=by
   refine ja.fold xs (λi b=>(b,(i:Int))) (λl=>db l t) rfl (λl x r hx=>?_) ?_
   .obtain⟨hlen,hrd,hin,hlss⟩:=Oa (t:=.row) hx;have hl1:=hlt l;have hlim:∀y,lim (ba .item (db l t)) (ba .item [y]):=λy=>Ab (t:=.item) (show(db l t).length<1099511627776 by omega);have hx2:=Mf (m2 x (by rw[hx];simp));simp only[Yq,Dl,Xq,nB,j9,g9,mB,Tr.val,Tr.ob,ga,hlss,hrd,Ia (l:=l) (by omega),kM,hx2,h2,Bool.true_and];rw[SL];cases hb:Vc x.At t with
    |true=>exact⟨by simp[hin,hlim,rk],by simp[da,db,hb,rIt]⟩
    |false=>exact⟨by simp[hin,hlim,rk],by simp[da,db,hb]⟩
   .have hend:cmp .lss (xs.length:Int) (ba .row xs)=false:=Ma (t:=.row);simp only[Yq,Dl,Xq,Tr.val,Tr.ob,hend];exact⟨by simp,rfl⟩
  have a2:l9 xs t=.x (db xs t):=k2.v;have b2:m9 xs t:=k2.t;obtain⟨p1,p2⟩:=fZ (db xs t) (by have:=hlt xs;omega) (oai (λx hx=>Oe (m2 x hx)) t);simp only[h1,h2,a2,p2];refine⟨by simp[r1,pg,b2,p1],?_⟩;rw[if_pos ⟨trivial,trivial⟩];rfl
 .rw[if_neg h]
  have hc:(cond (!Jb xs) true (!Fa t))=true:=by
   cases h1:Jb xs<;>cases h2:Fa t<;>simp[h1,h2]at h⊢
  simp only[hc];exact⟨by simp[r1,pg],rfl⟩
theorem qai(xs:List Row):Rw.gathI xs=Pa xs:=by
 have e:Rw.chI xs=(chR xs).map λq=>(q.1++[0],q.2):=by
  unfold Rw.chI chR;rw[List.map_map];rfl
 have hm:=UY (n:=4) (m:=5) (f:=λk=>k++[0]) (λa b h=>List.append_cancel_right h) (λk hk=>by simp[hk]) (λa b ha hb=>ZL a b (by rw[ha,hb])) (Lo xs);unfold Rw.gathI Pa;rw[e,hm,List.map_map];refine List.map_congr_left λp hp=>?_;obtain⟨x,_,hx⟩:=Mah hp;obtain⟨k,d⟩:=p;have hx:k=rK x:=hx;subst hx;rfl
theorem rai(xs:List Row)(hl:xs.length<1000000000):lW xs/\kW xs=Pa xs:=by
 refine⟨?_,qai xs⟩;show lim _ 1;simp only[lim,ba];omega
theorem lM:∀(xs:List Row) (y:Option Row),xs.Pairwise Kf->(∀x∈xs,x.Diff≠0)->(∀z,y=some z->∀x∈xs,Kf z x)->ub Td y xs=true
 |[],_,_,_,_=>rfl
 |x::r,y,hp,hd,hy=>by
  have hp':=List.pairwise_cons.1 hp
  have h1:Td y x=false:=by
   have hx:=hd x (by simp);cases y with
   |none=>simp[Td,hx]
   |some z=>
    have:ltK (rK z) (rK x)=true:=hy z rfl x (by simp);simp[Td,hx,this]
  simp only[ub,h1,Bool.not_false,Bool.true_and];exact lM r (some x) hp'.2 (λz hz=>hd z (by simp[hz])) λz hz w hw=>by cases hz;exact hp'.1 w hw
theorem sai{x y:Row}(h1:x.Key=y.Key)(h2:x.Val=y.Val)(h3:x.At.A=y.At.A)(h4:x.At.B=y.At.B)(h5:x.Diff=y.Diff):x=y:=by
 obtain⟨a,b,⟨c,d⟩,e⟩:=x;obtain⟨a',b',⟨c',d'⟩,e'⟩:=y;simp at h1 h2 h3 h4 h5;subst h1 h2 h3 h4 h5;rfl
theorem tai(a b:List Row)(hl:a.length<1000000000):PI a b:=by
 simp only[PI,DV,cv,bv,vae,Zu,Yu,lpS,Tr.ob];refine⟨λ_=>trivial,λhne=>?_⟩
 have hab:a.length=b.length:=by
  have h1:ba .row a=(a.length:Int):=rfl;have h2:ba .row b=(b.length:Int):=rfl;rw[Rd,h1,h2]at hne;simp at hne;omega
 obtain⟨q,h1,_⟩:=ja.list (step:=λs:Int=>da (fh a b s)) (ob:=λs=>ci a b s) (Q:=λ_=>True) a (λi (_:Unit)=>(i:Int)) (λ_ _=>True) (b0:=()) rfl trivial
  (λl x r _ hx _=>by
    obtain⟨hlen,_,hin,_⟩:=Oa (t:=.row) hx
    have hin2:inb (l.length:Int) (ba .row b):=by
     have h2:ba .row b=(b.length:Int):=rfl;rw[h2];unfold inb;omega
    have hlss:cmp .lss (l.length:Int) (ba .row a)=true:=by rw[hx];exact IL
    simp only[ci,fh,Aj,Tr.val,Tr.ob,ga,hlss,Ia (l:=l) (by omega)];refine⟨by simp[hin,hin2],?_⟩;generalize (!(cmp .eql (rd .row a (l.length:Int)).Key (rd .row b (l.length:Int)).Key&&(cmp .eql (rd .row a (l.length:Int)).Val (rd .row b (l.length:Int)).Val&&(cmp .eql (rd .row a (l.length:Int)).At.A (rd .row b (l.length:Int)).At.A&&(cmp .eql (rd .row a (l.length:Int)).At.B (rd .row b (l.length:Int)).At.B&&(cmp .eql (rd .row a (l.length:Int)).Diff (rd .row b (l.length:Int)).Diff&&true))))))=c;cases c with
    |true=>exact .inr ⟨_,rfl,trivial⟩
    |false=>exact .inl ⟨(),rfl,trivial⟩)
  (λ_ _=>by
    have hend:cmp .lss (a.length:Int) (ba .row a)=false:=Ma (t:=.row);simp only[ci,fh,Aj,Tr.val,Tr.ob,ga,hend];exact⟨by simp,_,rfl,trivial⟩)
 have b2:tae a b:=h1.t;simp[b2]
theorem uai(a:List Row)(hl:a.length<1000000000):MI a a=true:=by
 have k2:ja (λs:Int=>da (fh a a s)) (λs=>ci a a s) 0 (if ub (λ_ (_:Row)=>false) none a=true then .x () else .r false):=by
  refine ja.scan a _ (λl x r hx=>?_) ?_
  .obtain⟨hlen,_,hin,hlss⟩:=Oa (t:=.row) hx;simp only[ci,fh,Aj,Tr.val,Tr.ob,ga,hlss,Ia (l:=l) (by omega),Bb,decide_true,Bool.and_true,Bool.not_true];exact⟨by simp[hin],rfl⟩
  .have hend:cmp .lss (a.length:Int) (ba .row a)=false:=Ma (t:=.row);simp only[ci,fh,Aj,Tr.val,Tr.ob,ga,hend];exact⟨by simp,rfl⟩
 have a2:sae a a=_:=k2.v
 have hs:ub (λ_ (_:Row)=>false) none a=true:=by
  exact(rg (λ_:Row=>true) a none).trans (List.all_eq_true.2 λ_ _=>rfl)
 rw[hs]at a2;simp only[MI,CV,cv,bv,uae,Zu,Yu,lpS,Tr.val,a2,Rd,decide_true,Bool.not_true,if_true];rfl
end Go.Proofs.YtiiidenbemkihaaGreat

namespace Go.Proofs.YtiiidenbemkihaaGreat
open Go Tg
theorem tM{n:Nat}:∀ {m:MP},Asc m->Gb n m->∀p∈m,sumT m p.1=p.2
 |[],_,_,p,hp=>by cases hp
 |q::r,ha,hk,p,hp=>by
  have ha':=List.pairwise_cons.1 ha
  have hno:∀ {k:List Int} (l:MP),(∀s∈l,s.1≠k)->sumT l k=0:=by
   intro k l
   induction l with
   |nil=>intro _;rfl
   |cons s l ih=>
    intro h;simp only[sumT];rw[if_neg (h s (by simp)),ih λs hs=>h s (by simp[hs])];rfl
  have hne:∀s∈r,s.1≠q.1:=λs hs e=>by
   have:=ha'.1 s hs;rw[e,Ff]at this;cases this
  simp only[sumT];rcases List.mem_cons.1 hp with rfl|hp
  .rw[if_pos rfl,hno r hne,Int.add_zero]
  .rw[if_neg (λe=>hne p hp e.symm),tM ha'.2 (λs hs=>hk s (by simp[hs])) p hp,Int.zero_add]
theorem laj{n:Nat}{m:MP}(ha:Asc m)(hk:Gb n m)(h0:∀p∈m,p.2≠0/\InR p.2):tc m=m:=Dw (Gi hk) ha λp=>by
  rw[Ye];constructor
  .rintro⟨h1,h2⟩;obtain⟨q,hq,e⟩:=Fo (h1▸h2);have h3:=tM ha hk q hq;rw[e]at h3;obtain⟨g1,g2⟩:=Ko m p.1;have:p.2=q.2:=by rw[h1,g1.eq g2 (h3▸(h0 q hq).2),h3]
   have:q=p:=Prod.ext e this.symm;exact this▸hq
  .intro hp;obtain⟨g1,g2⟩:=Ko m p.1;have h3:=tM ha hk p hp;exact⟨by rw[g1.eq g2 (h3▸(h0 p hp).2),h3],(h0 p hp).1⟩
def Canon(s:List Item):Prop:=(s.Pairwise λx y=>ltK (kI x) (kI y)=true)/\∀x∈s,x.Count≠0/\InR x.Count
theorem maj{s:List Item}{x:Item}(hx:x∈gathI s):x.Count≠0:=by
 have:(kI x,x.Count)∈chI (gathI s):=List.mem_map.2 ⟨x,hx,rfl⟩;rw[Ho]at this;exact(Ye.1 this).2
theorem naj(s:List Item):Canon (gathI s):=⟨kZ s,λ_ hx=>⟨maj hx,VL hx⟩⟩
theorem Canon.neg{s:List Item}(h:Canon s)(hm:∀x∈s,x.Count≠-9223372036854775808):Canon (s.map Nb):=by
 refine⟨?_,λx hx=>?_⟩
 .rw[List.pairwise_map];exact h.1
 .obtain⟨y,hy,rfl⟩:=List.mem_map.1 hx;have h1:=h.2 y hy;have h2:=hm y hy;have h3:IntKind.wrap .i64 (0 - y.Count)=0 - y.Count:=UL (by unfold InR at *;omega);show IntKind.wrap .i64 (0 - y.Count)≠0/\InR (IntKind.wrap .i64 (0 - y.Count));rw[h3];unfold InR at *;omega
theorem oaj(x:Row)(l:List Row)(t:Time):db (x::l) t=(if Vc x.At t=true then [rIt x] else [])++db l t:=by
 unfold db;rw[List.filter_cons];split<;>simp
theorem paj(t:Time):db [] t=[]:=rfl
theorem uM{h:Int}{a:List Row}(ha:∀x∈a,InR x.Diff):∀x∈Ec h a,InR x.Diff:=λx hx=>by
 obtain⟨y,hy,hx⟩:=List.mem_flatMap.1 hx;unfold Qg at hx;split at hx
 .simp at hx;subst hx;exact ha y hy
 .cases hx
theorem vM(a:List Row):∀x∈Ya a,InR x.Diff:=λx hx=>by
 obtain⟨y,_,rfl⟩:=List.mem_map.1 hx;exact Jo _
theorem Nw{a b:List Row}(ha:∀x∈a,Db x=true)(hb:∀x∈b,Db x=true):∀x∈mc a b,InR x.Diff/\Fa x.At=true:=λx hx=>by
 obtain⟨y,hy,hx⟩:=List.mem_flatMap.1 hx;obtain⟨z,hz,hx⟩:=List.mem_flatMap.1 hx;unfold oc at hx;split at hx
 .simp at hx;subst hx;have h1:=ha y hy;have h2:=hb z hz;simp only[Db,decide_eq_true_eq]at h1 h2;refine⟨?_,?_⟩
  .show InR (y.Diff*z.Diff)
   have e1:y.Diff*z.Diff<=99999*99999/\-(99999*99999)<=y.Diff*z.Diff:=by
    have hy1:(y.Diff.natAbs:Int)<=99999:=by omega
    have hz1:(z.Diff.natAbs:Int)<=99999:=by omega
    have hm:((y.Diff*z.Diff).natAbs:Int)<=99999*99999:=by
     rw[Int.natAbs_mul,Int.natCast_mul];exact Int.mul_le_mul hy1 hz1 (by omega) (by omega)
    omega
   unfold InR;omega
  .show Fa (nb y.At z.At)=true;simp only[Fa,nb,Cj,decide_eq_true_eq];refine⟨?_,?_,?_,?_⟩<;>split<;>omega
 .cases hx
end Go.Proofs.YtiiidenbemkihaaGreat

namespace Go.Proofs.YtiiidenbemkihaaGreat
open Go Tg
theorem ef{a b:Int}(h:0<=a):ar .rem .i64 a b=a % b:=by rw[Cw,Int.tmod_eq_emod_of_nonneg h]
theorem vai{k v h:Int}(hk:0<=k/\k<=3)(hv:0<=v/\v<=99)(hh:1<=h/\h<=7):rF k v h/\qF k v h=((lc h k v).1,(lc h k v).2.1,(lc h k v).2.2,()):=by
 simp only[rF,qF,dT,cT,pF,Tr.val,Tr.ob,ga,Bb,bc];have hc:h=1\/h=2\/h=3\/h=4\/h=5\/h=6\/h=7:=by omega
 rcases hc with rfl|rfl|rfl|rfl|rfl|rfl|rfl
 .refine⟨by simp,?_⟩;simp[ocR,lc,ef hv.1];rw[bf (by omega),cc (by omega)]
 .refine⟨by simp,?_⟩;simp[ocR,lc];rw[cc (by omega),ef (by omega)]
 .refine⟨by simp,?_⟩;simp[ocR,lc,ef hv.1]
 .exact⟨by simp,by simp[ocR,lc]⟩
 .refine⟨by simp,?_⟩;simp[ocR,lc,ef hv.1]
 .refine⟨by simp,?_⟩;simp[ocR,lc,ef hk.1]
 .exact⟨by simp,by simp[ocR,lc]⟩
theorem wai{k v h:Int}(hk:0<=k/\k<=3)(hv:0<=v/\v<=99)(hh:1<=h/\h<=7):nz k v h/\mz k v h=((lc h k v).1,(lc h k v).2.1,(lc h k v).2.2,()):=by
 simp only[nz,mz,zO,yO,lz,Tr.val,Tr.ob,ga,Bb,bc];have hc:h=1\/h=2\/h=3\/h=4\/h=5\/h=6\/h=7:=by omega
 rcases hc with rfl|rfl|rfl|rfl|rfl|rfl|rfl
 .refine⟨by simp,?_⟩;simp[ocR,lc,ef hv.1];rw[GL (by omega),Og (by omega),cc (by omega)];omega
 .refine⟨by simp,?_⟩;simp[ocR,lc];rw[cc (by omega),ef (by omega)]
 .refine⟨by simp,?_⟩;simp[ocR,lc,ef hv.1]
 .exact⟨by simp,by simp[ocR,lc]⟩
 .refine⟨by simp,?_⟩;simp[ocR,lc,ef hv.1]
 .refine⟨by simp,?_⟩;simp[ocR,lc,ef hk.1]
 .exact⟨by simp,by simp[ocR,lc]⟩
theorem tk{x:Row}(h:Db x=true):(0<=x.Key/\x.Key<=3)/\0<=x.Val/\x.Val<=99:=by
 simp only[Db,decide_eq_true_eq]at h;omega
theorem vZ(h:Int)(l:List Row)(x:Row):Ec h (l++[x])=Ec h l++Qg h x:=by unfold Ec;rw[List.flatMap_append];simp
theorem uk(h:Int):∀l:List Row,(Ec h l).length<=l.length
 |[]=>Nat.le_refl _
 |x::l=>by
  have:=uk h l;unfold Ec at *;rw[List.flatMap_cons,List.length_append,List.length_cons];have:(Qg h x).length<=1:=by unfold Qg;split<;>simp
  omega
theorem Wo{xs:List Row}(hl:xs.length<100000000)(hi:∀x∈xs,InR x.Diff):Zh xs/\Qe xs=if Ga (Pa xs)=true then(Pa xs,true,()) else([],false,()):=by
 obtain⟨c1,c2⟩:=rai xs (by omega);have h1:=ik hi;obtain⟨b1,b2⟩:=sZ (Pa xs) (by omega);simp only[Zh,Qe,gT,fT,sF,Tr.val,Tr.ob,ga,c2,b2];cases Ga (Pa xs)<;>simp[c1,b1,ocR]
def Nf(xs:List Row):List Row×Bool×Unit:=if Ga xs=true then(xs,true,()) else([],false,())
theorem xai{a:List Row}(hr:Jb a=true){h:Int}(hh:1<=h/\h<=7):BF a h/\AF a h=Nf (Pa (Ec h a)):=by
 obtain⟨hl,hm⟩:=gb hr
 have k:ja (λs:LR×Int=>da (Em h a (ba .row a) s.1 s.2)) (λs=>Dt h a (ba .row a) s.1 s.2) ([],0) (.x (Ec h a)):=by
  refine ja.fold a (λi b=>(b,(i:Int))) (λl=>Ec h l) rfl (λl x r hx=>?_) ?_
  .obtain⟨hlen,hrd,hin,hlss⟩:=Oa (t:=.row) hx;have hkv:=tk (hm x (by rw[hx];simp));obtain⟨e1,e2⟩:=vai hkv.1 hkv.2 hh;have hl1:=uk h l;have hlim:∀y,lim (ba .row (Ec h l)) (ba .row [y]):=λy=>Ab (t:=.row) (show(Ec h l).length<1099511627776 by omega);simp only[Dt,Em,Ct,vF,jac,iac,uF,Tr.val,Tr.ob,ga,hlss,hrd,Ia (l:=l) (by omega),e2];rw[vZ];cases hb:(lc h x.Key x.Val).2.2 with
   |true=>exact⟨by simp[hin,hlim,e1],by simp[da,Qg,hb]⟩
   |false=>exact⟨by simp[hin,hlim,e1],by simp[da,Qg,hb]⟩
  .have hend:cmp .lss (a.length:Int) (ba .row a)=false:=Ma (t:=.row);simp only[Dt,Em,Ct,Tr.val,Tr.ob,hend];exact⟨by simp,rfl⟩
 have a2:kac h a (ba .row a)=.x (Ec h a):=k.v;have b2:lac h a (ba .row a):=k.t;have hl2:=uk h a;obtain⟨q1,q2⟩:=Wo (xs:=Ec h a) (by omega) (uM λx hx=>Oe (hm x hx));simp only[BF,AF,nT,mT,zF,yF,nac,mac,xF,wF,lpS,Tr.val,Tr.ob,ga,a2,q2,ocR];exact⟨by simp[b2,q1],by unfold Nf;split<;>rfl⟩
theorem yai{a:List Row}(hr:Jb a=true){h:Int}(hh:1<=h/\h<=7):Tz a h/\Sz a h=Pa (Ec h a):=by
 obtain⟨hl,hm⟩:=gb hr
 have k:ja (λs:LR×Int=>da (kl a h s.1 s.2)) (λs=>sq a h s.1 s.2) ([],0) (.x (Ec h a)):=by
  refine ja.fold a (λi b=>(b,(i:Int))) (λl=>Ec h l) rfl (λl x r hx=>?_) ?_
  .obtain⟨hlen,hrd,hin,hlss⟩:=Oa (t:=.row) hx;have hkv:=tk (hm x (by rw[hx];simp));obtain⟨e1,e2⟩:=wai hkv.1 hkv.2 hh;have hl1:=uk h l;have hlim:∀y,lim (ba .row (Ec h l)) (ba .row [y]):=λy=>Ab (t:=.row) (show(Ec h l).length<1099511627776 by omega);simp only[sq,kl,rq,Nz,Z6,Y6,Mz,Tr.val,Tr.ob,ga,hlss,hrd,Ia (l:=l) (by omega),e2];rw[vZ];cases hb:(lc h x.Key x.Val).2.2 with
   |true=>exact⟨by simp[hin,hlim,e1],by simp[da,Qg,hb]⟩
   |false=>exact⟨by simp[hin,hlim,e1],by simp[da,Qg,hb]⟩
  .have hend:cmp .lss (a.length:Int) (ba .row a)=false:=Ma (t:=.row);simp only[sq,kl,rq,Tr.val,Tr.ob,hend];exact⟨by simp,rfl⟩
 have a2:c7 a h=.x (Ec h a):=k.v;have b2:d7 a h:=k.t;have hl2:=uk h a;obtain⟨q1,q2⟩:=Pg (Ec h a) (by omega) (uM λx hx=>Oe (hm x hx));simp only[Tz,Sz,SO,RO,Rz,Qz,i7,g7,Pz,Oz,lpS,Tr.val,Tr.ob,ga,a2,q2,ocR];exact⟨by simp[b2,q1],trivial⟩
theorem nM{s t:Time}(hs:Fa s=true)(ht:Fa t=true):Jt s t/\It s t=nb s t:=by
 simp only[Jt,It,ET,DT,RF,Tr.val,Tr.ob,ga,Fw,hs,ht,ocR];exact⟨by simp[Gw],rfl⟩
theorem wZ{s t:Time}(hs:Fa s=true)(ht:Fa t=true):Vg s t/\cj s t=nb s t:=by
 simp only[Vg,cj,Fy,VN,Qp,Tr.val,Tr.ob,ga,Fh,hs,ht,ocR];exact⟨by simp[pg],rfl⟩
theorem zai{x y:Int}(hx:0<=x/\x<=99)(hy:0<=y/\y<=99):BT x y/\AT x y=Po x y:=by
 refine⟨⟨⟨by decide,trivial⟩,trivial⟩,?_⟩;show ar .rem .i64 (ar .add .i64 (ar .mul .i64 10 x) y) 100=_;rw[Og (by omega),cc (by omega),ef (by omega)];rfl
theorem Aai{x y:Int}(hx:0<=x/\x<=99)(hy:0<=y/\y<=99):eP x y/\dP x y=Po x y:=by
 refine⟨⟨⟨by decide,trivial⟩,trivial⟩,?_⟩;show ar .rem .i64 (ar .add .i64 (ar .mul .i64 x 10) y) 100=_;rw[Og (by omega),cc (by omega),ef (by omega)];unfold Po;rw[Int.mul_comm]
theorem xZ{x y:Row}(hx:Db x=true)(hy:Db y=true):ar .mul .i64 x.Diff y.Diff=x.Diff*y.Diff:=by
 have h:=Nw (a:=[⟨0,x.Val,x.At,x.Diff⟩]) (b:=[⟨0,y.Val,y.At,y.Diff⟩]) (by simp[Db] at *;omega) (by simp[Db] at *;omega) ⟨0,Po x.Val y.Val,nb x.At y.At,x.Diff*y.Diff⟩ (by simp[mc,oc]);exact Og h.1
theorem Iw(x:Row):∀b:List Row,(b.flatMap (oc x)).length<=b.length
 |[]=>Nat.le_refl _
 |y::b=>by
  have:=Iw x b;rw[List.flatMap_cons,List.length_append,List.length_cons];have:(oc x y).length<=1:=by unfold oc;split<;>simp
  omega
theorem yZ(b:List Row):∀a:List Row,(mc a b).length<=a.length*b.length
 |[]=>by simp[mc]
 |x::a=>by
  have h1:=yZ b a;have h2:=Iw x b;unfold mc at *;rw[List.flatMap_cons,List.length_append,List.length_cons,Nat.add_mul,Nat.one_mul];omega
theorem zZ(a b:List Row)(x:Row):mc (a++[x]) b=mc a b++b.flatMap (oc x):=by unfold mc;rw[List.flatMap_append];simp
theorem AZ(x:Row)(b:List Row)(y:Row):(b++[y]).flatMap (oc x)=b.flatMap (oc x)++oc x y:=by rw[List.flatMap_append];simp
end Go.Proofs.YtiiidenbemkihaaGreat

namespace Go.Proofs.YtiiidenbemkihaaGreat
namespace Tg
open Go
theorem Eh{a b:Int}(h1 : -1000000000000<=a/\a<=1000000000000)(h2 : -1000000000000<=b/\b<=1000000000000):ar .add .i64 a b=a+b:=cc (by omega)
theorem ttF:Xb Tryz.prog tt:=ko (by kernel_rfl)
theorem foF : Tryz.prog.follows .mixedOrders=true:=by kernel_rfl
theorem g0:Good Tryz.prog tt []:=.nil ttF foF
theorem saf:Con Tryz.prog 51 om:=Aab (.nil ttF foF)
theorem wax:Con Tryz.prog 55 vt:=aac (.cons saf (.nil ttF foF))
theorem g1:Good Tryz.prog tt [(55,vt)]:=.cons wax (.nil ttF foF)
theorem xax:Con Tryz.prog 81 Kt:=xac (.cons saf (.nil ttF foF))
theorem g2:Good Tryz.prog tt [(81,Kt)]:=.cons xax (.nil ttF foF)
noncomputable def C7:Code:=Od Tryz.f165
abbrev LT(x:List Time):AV:=.v (.acc true) (.lst .time x)
abbrev N7(r:Nat):NP:=⟨27,none,[(0,.map (some r))]⟩
noncomputable def o8(i:Nat):Oper:=opN (opsOf (nav C7 [1,1,0,1,0,0,1,0,0,1,0,0,1,0,0,0])) i
theorem op8:(o8 0).op=.move (.tmp 0)/\(o8 0).dst=some 15/\(o8 0).guard=none/\(o8 4).op=.lookup 155 (.tmp 15) (.tmp 18) false/\(o8 4).dst=some 19/\(o8 4).guard=none /\
  (o8 1).guard=none/\(o8 2).guard=none/\(o8 3).guard=none/\(o8 1).dst=some 16/\(o8 2).dst=some 17/\(o8 3).dst=some 18:=⟨by kernel_rfl,by kernel_rfl,by kernel_rfl,by kernel_rfl,by kernel_rfl,by kernel_rfl,by kernel_rfl,by kernel_rfl,by kernel_rfl,by kernel_rfl,by kernel_rfl,by kernel_rfl⟩
theorem at8:List.range (opsOf (nav C7 [1,1,0,1,0,0,1,0,0,1,0,0,1,0,0,0])).size=[0,1,2,3,4]/\∀i,i<5->(opsOf (nav C7 [1,1,0,1,0,0,1,0,0,1,0,0,1,0,0,0]))[i]? = some (o8 i):=by
 refine⟨by kernel_rfl,λi hi=>?_⟩;rcases (show i=0\/i=1\/i=2\/i=3\/i=4 by omega) with rfl|rfl|rfl|rfl|rfl<;>kernel_rfl
noncomputable def yax:TypeInfo:=(Tryz.prog.info? 32).get (by kernel_rfl)
noncomputable def sv4:TypeInfo:=(Tryz.prog.info? 4).get (by kernel_rfl)
noncomputable def fsT:Array Field:=match Tryz.prog.underlying 32 with
 |some (.struct fs)=>fs
 |_=>#[]
def ee(S:za)(i:Int)(n:Nat):List Time:=((List.range n).filter λb:Nat=>decide ([i,(b:Int)]∈S)).map λb:Nat=>(⟨i,(b:Int)⟩ : Time)
def Uf(S:za):Nat->List Time
 |0=>[]
 |n+1=>Uf S n++ee S n 8
def Rb(S:za):List Time:=Uf S 8
theorem taf(S:za)(i:Int)(n:Nat):(ee S i n).length<=n:=by
 unfold ee;rw[List.length_map];exact Nat.le_trans (List.length_filter_le _ _) (by simp)
theorem bW(S:za):∀n,(Uf S n).length<=8*n
 |0=>by simp[Uf]
 |n+1=>by
  have h1:=bW S n;have h2:=taf S n 8;simp only[Uf,List.length_append];omega
theorem uaf(S:za)(i:Int)(n:Nat):ee S i (n+1)=ee S i n++(if [i,(n:Int)]∈S then [(⟨i,(n:Int)⟩ : Time)] else []):=by
 unfold ee;rw[List.range_succ,List.filter_append,List.map_append]
 congr 1
 by_cases h : [i,(n:Int)]∈S<;>simp[h]
theorem sty:oaf Tryz.prog 155 32 4 2:=by
 refine⟨by kernel_rfl,⟨fsT,by kernel_rfl⟩,ttF.eq _ ⟨.struct [(0,1),(1,1)],2,[.int .i64 0,.int .i64 0],some .time,true⟩ (by kernel_rfl) rfl,
  LK (fs:=fsT) (i:=yax) (by kernel_rfl) (by kernel_rfl) (by kernel_rfl) (by kernel_rfl),λw=>?_⟩
 have hi : Tryz.prog.info? 4=some sv4:=by kernel_rfl
 have hz:sv4.zero=some (.bool false):=by kernel_rfl
 simp[zeroValue,typeInfo,hi,hz]
def E7(l:List Time)(i j:Int):Env:=[(3,LT l),(4,.v .fr (.int .i64 i)),(5,.v .fr (.int .i64 j))]
def E7'(l:List Time)(i:Int):Env:=[(3,LT l),(4,.v .fr (.int .i64 i))]
set_option maxRecDepth 20000 in
theorem zax{Q:Exit->Act->World->Prop}{B:Nat}{W0:World}{F0:Fz}{r:Nat}{S:za}(hS:ic 2 S)(hW:W0.heap[r]? = some (Sa S)){l:List Time}{i j:Int}{a:Act}{w:World}(hs:MS (N7 r) B [] W0 F0 [] (E7 l i j) a w)
  (hQ:∀a w,MS (N7 r) B [] W0 F0 [] [(3,LT l),(4,.v .fr (.int .i64 i)),(5,.v .fr (.int .i64 j)),(19,.v .fr (.bool (decide ([i,j]∈S))))] a w->Q .normal a w):(nav C7 [1,1,0,1,0,0,1,0,0,1,0,0,1,0,0,0]).wp Tryz.prog Q a w:=by
 obtain⟨p0,d0,q0,p4,d4,q4,q1,q2,q3,d1,d2,d3⟩:=op8;refine Kc (by kernel_rfl) at8.1 ?_;rw[wpOps_cons];refine ya (at8.2 0 (by omega)) q0 ?_;refine Ua (Be p0) ?_;rw[d0,wpOps_cons,hs.k (s:=0) (v:=.map (some r)) (by simp)];have h1:=hs.val (d:=15) (by kernel_rfl) (v:=.map (some r)) (av:=.dead) rfl (λ_ _=>trivial);refine ya (at8.2 1 (by omega)) q1 ?_;refine h1.stepF g0 (ops:=opsOf (nav C7 [1,1,0,1,0,0,1,0,0,1,0,0,1,0,0,0])) (e':=(16,.v .fr (.int .i64 i))::(15,.dead)::E7 l i j) (ps:=[]) q1 (by kernel_rfl) trivial (λd h=>by rw[d1]at h;cases h;kernel_rfl) (λa2 w2 h2=>?_);rw[wpOps_cons];refine ya (at8.2 2 (by omega)) q2 ?_;refine h2.stepF g0 (ops:=opsOf (nav C7 [1,1,0,1,0,0,1,0,0,1,0,0,1,0,0,0])) (e':=(17,.v .fr (.int .i64 j))::(16,.v .fr (.int .i64 i))::(15,.dead)::E7 l i j) (ps:=[]) q2 (by kernel_rfl) trivial (λd h=>by rw[d2]at h;cases h;kernel_rfl) (λa3 w3 h3=>?_);rw[wpOps_cons];refine ya (at8.2 3 (by omega)) q3 ?_;refine h3.stepF g0 (ops:=opsOf (nav C7 [1,1,0,1,0,0,1,0,0,1,0,0,1,0,0,0])) (e':=(18,.agg true [.int .i64 i,.int .i64 j])::(17,.v .fr (.int .i64 j))::(16,.v .fr (.int .i64 i))::(15,.dead)::E7 l i j) (ps:=[]) q3 (by kernel_rfl) trivial (λd h=>by rw[d3]at h;cases h;kernel_rfl) (λa4 w4 h4=>?_);rw[wpOps_cons];refine ya (at8.2 4 (by omega)) q4 ?_;have hm:w4.heap[r]? = some (Sa S):=h4.kept.obj _ _ hW rfl
 have hkey:a4.tmps.getD 18 undef=La [i,j]:=by
  obtain⟨F,ow,hx⟩:=h4.sim.rep;obtain⟨vs,h1,h2⟩:=hx.sr 18;have h1:a4.tmps.getD 18 undef=.agg vs.toArray:=h1;rw[h1];cases h2 with
  |cons c1 h2=>cases h2 with
   |cons c2 h2=>cases h2;cases c1;cases c2;rfl
 refine Ua (qw p4 (by rw[h4.k (s:=15) (v:=.map (some r)) (by simp),hkey];exact paf sty hm hS rfl)) ?_;rw[d4];have h5:=h4.val (d:=19) (by kernel_rfl) (v:=.bool (decide ([i,j]∈S))) (av:=.v .fr (.bool (decide ([i,j]∈S)))) rfl (λ_ _=>.bool _);refine uc _ (hQ _ _ ?_);exact(h5.weak (Aa.cast (pat:=[(3,.same),(4,.same),(5,.same),(19,.same)]) (by kernel_rfl) (by kernel_rfl))).forget rfl rfl (λp hp=>by simp at hp⊢;simp[hp]) (λp hp=>hp)
set_option maxRecDepth 20000 in
theorem Aax{Q:Exit->Act->World->Prop}{B:Nat}{W0:World}{F0:Fz}{r:Nat}{S:za}(hS:ic 2 S)(hW:W0.heap[r]? = some (Sa S)){l:List Time}(hl:l.length<=100){i:Int}{a:Act}{w:World}(hs:MS (N7 r) B [] W0 F0 [] (E7 l i 0) a w)
  (hQ:∀a w,MS (N7 r) B [] W0 F0 [] (E7' (l++ee S i 8) i) a w->Q .normal a w):(nav C7 [1,1,0,1,0,0,1,0,0,1]).wp Tryz.prog Q a w:=by
 refine Tc (c1:=nav C7 [1,1,0,1,0,0,1,0,0,1,0]) (id:=2) (by kernel_rfl) ?_;rw[show nav C7 [1,1,0,1,0,0,1,0,0,1,0]=.loop (nav C7 [1,1,0,1,0,0,1,0,0,1,0,0]) by kernel_rfl];refine We (σ:=Nat) (λj a w=>j<=8/\MS (N7 r) B [] W0 F0 [] (E7 (l++ee S i j) i j) a w) (λj=>8 - j) ?_ 0 ⟨by omega,by simpa [ee] using hs⟩;rintro j a w ⟨hj,hs⟩;refine ra (c1:=nav C7 [1,1,0,1,0,0,1,0,0,1,0,0,0]) (c2:=nav C7 [1,1,0,1,0,0,1,0,0,1,0,0,1]) (by kernel_rfl) ?_;refine ra (c1:=nav C7 [1,1,0,1,0,0,1,0,0,1,0,0,0,0]) (c2:=nav C7 [1,1,0,1,0,0,1,0,0,1,0,0,0,1]) (by kernel_rfl) ?_;refine MS.regC g0 (keep:=[3,4,5,12]) (e':=[(3,LT (l++ee S i j)),(4,.v .fr (.int .i64 i)),(5,.v .fr (.int .i64 j)),(12,.v .fr (.bool (cmp .leq j 7)))]) (ps:=[]) (by kernel_rfl) trivial hs (λa w hs=>?_);show(nav C7 [1,1,0,1,0,0,1,0,0,1,0,0,0,1]).wp _ _ a w;refine sd (o:=.tmp 12) (c1:=nav C7 [1,1,0,1,0,0,1,0,0,1,0,0,0,1,0]) (c2:=nav C7 [1,1,0,1,0,0,1,0,0,1,0,0,0,1,1]) (by kernel_rfl) (hs.bool (k:=.fr) rfl) (λht=>Qd (by kernel_rfl) ?_) (λhf=>lg (i:=2) (by kernel_rfl) ?_)
 .have hlt:j<=7:=by
   have:=of_decide_eq_true (show decide ((j:Int)<=7)=true from ht);omega
  have hend:∀ {a:Act}{w:World},MS (N7 r) B [] W0 F0 [] (E7 (l++ee S i (j+1)) i j) a w->(nav C7 [1,1,0,1,0,0,1,0,0,1,0,0,1,1]).wp Tryz.prog (λe a' w'=>Exit.then (λa' w'=>∃s',8 - s'<8 - j/\(s'<=8/\MS (N7 r) B [] W0 F0 [] (E7 (l++ee S i s') i s') a' w')) (Exit.inBlock 2 Q) e a' w') a w:=λhs=>by
   refine MS.regC g0 (keep:=[3,4,5]) (e':=E7 (l++ee S i (j+1)) i (ar .add .i64 j 1)) (ps:=[]) (by kernel_rfl) trivial hs (λa w hs=>?_);refine⟨j+1,by omega,by omega,?_⟩;rw[Eh (by omega) (by omega)]at hs;exact hs
  show(nav C7 [1,1,0,1,0,0,1,0,0,1,0,0,1]).wp _ _ a w;refine ra (c1:=nav C7 [1,1,0,1,0,0,1,0,0,1,0,0,1,0]) (c2:=nav C7 [1,1,0,1,0,0,1,0,0,1,0,0,1,1]) (by kernel_rfl) ?_;refine Tc (c1:=nav C7 [1,1,0,1,0,0,1,0,0,1,0,0,1,0,0]) (id:=3) (by kernel_rfl) ?_;refine ra (c1:=nav C7 [1,1,0,1,0,0,1,0,0,1,0,0,1,0,0,0]) (c2:=nav C7 [1,1,0,1,0,0,1,0,0,1,0,0,1,0,0,1]) (by kernel_rfl) ?_;refine zax hS hW (hs.weak (Aa.cast (e':=E7 (l++ee S i j) i j) (pat:=[(3,.same),(4,.same),(5,.same)]) (by kernel_rfl) (by kernel_rfl))) (λa w hs=>?_);show(nav C7 [1,1,0,1,0,0,1,0,0,1,0,0,1,0,0,1]).wp _ _ a w;refine sd (o:=.tmp 19) (c1:=nav C7 [1,1,0,1,0,0,1,0,0,1,0,0,1,0,0,1,0]) (c2:=nav C7 [1,1,0,1,0,0,1,0,0,1,0,0,1,0,0,1,1]) (by kernel_rfl) (hs.bool (k:=.fr) rfl) (λht=>?_) (λhf=>Qd (by kernel_rfl) ?_)
  .have hm : [i,(j:Int)]∈S:=of_decide_eq_true ht;have hlen:=taf S i j;refine MS.regC g0 (keep:=[3,4,5]) (e':=E7 (l++ee S i j++[⟨i,j⟩]) i j) (ps:=[lim (ba .time (l++ee S i j)) (ba .time [(⟨i,j⟩ : Time)])]) (by kernel_rfl) ⟨by simp[lim,ba];omega,trivial⟩ hs (λa w hs=>?_);refine hend ?_;rw[uaf,if_pos hm,<-List.append_assoc];exact hs
  .have hm:¬ [i,(j:Int)]∈S:=of_decide_eq_false hf;refine hend ?_;rw[uaf,if_neg hm,List.append_nil];exact hs.weak (Aa.cast (pat:=[(3,.same),(4,.same),(5,.same)]) (by kernel_rfl) (by kernel_rfl))
 .have hge:j=8:=by
   have:=of_decide_eq_false (show decide ((j:Int)<=7)=false from hf);omega
  subst hge;show Exit.inBlock 2 Q (.exit 2) a w;simp only[Exit.inBlock,if_true];exact hQ a w (hs.weak (Aa.cast (pat:=[(3,.same),(4,.same)]) (by kernel_rfl) (by kernel_rfl)))
set_option maxRecDepth 20000 in
theorem Bax{Q:Exit->Act->World->Prop}{B:Nat}{W0:World}{F0:Fz}{r:Nat}{S:za}(hS:ic 2 S)(hW:W0.heap[r]? = some (Sa S)){a:Act}{w:World}(hs:MS (N7 r) B [] W0 F0 [] (E7' [] 0) a w)
  (hQ:∀a w,MS (N7 r) B [] W0 F0 [] [(3,LT (Rb S))] a w->Q .normal a w):(nav C7 [1,1,0,1]).wp Tryz.prog Q a w:=by
 refine Tc (c1:=nav C7 [1,1,0,1,0]) (id:=0) (by kernel_rfl) ?_;rw[show nav C7 [1,1,0,1,0]=.loop (nav C7 [1,1,0,1,0,0]) by kernel_rfl];refine We (σ:=Nat) (λi a w=>i<=8/\MS (N7 r) B [] W0 F0 [] (E7' (Uf S i) i) a w) (λi=>8 - i) ?_ 0 ⟨by omega,hs⟩;rintro i a w ⟨hi,hs⟩;refine ra (c1:=nav C7 [1,1,0,1,0,0,0]) (c2:=nav C7 [1,1,0,1,0,0,1]) (by kernel_rfl) ?_;refine ra (c1:=nav C7 [1,1,0,1,0,0,0,0]) (c2:=nav C7 [1,1,0,1,0,0,0,1]) (by kernel_rfl) ?_;refine MS.regC g0 (keep:=[3,4,8]) (e':=[(3,LT (Uf S i)),(4,.v .fr (.int .i64 i)),(8,.v .fr (.bool (cmp .leq i 7)))]) (ps:=[]) (by kernel_rfl) trivial hs (λa w hs=>?_);show(nav C7 [1,1,0,1,0,0,0,1]).wp _ _ a w;refine sd (o:=.tmp 8) (c1:=nav C7 [1,1,0,1,0,0,0,1,0]) (c2:=nav C7 [1,1,0,1,0,0,0,1,1]) (by kernel_rfl) (hs.bool (k:=.fr) rfl) (λht=>Qd (by kernel_rfl) ?_) (λhf=>lg (i:=0) (by kernel_rfl) ?_)
 .have hlt:i<=7:=by
   have:=of_decide_eq_true (show decide ((i:Int)<=7)=true from ht);omega
  have hlen:=bW S i;show(nav C7 [1,1,0,1,0,0,1]).wp _ _ a w;refine ra (c1:=nav C7 [1,1,0,1,0,0,1,0]) (c2:=nav C7 [1,1,0,1,0,0,1,1]) (by kernel_rfl) ?_;refine Tc (c1:=nav C7 [1,1,0,1,0,0,1,0,0]) (id:=1) (by kernel_rfl) ?_;refine ra (c1:=nav C7 [1,1,0,1,0,0,1,0,0,0]) (c2:=nav C7 [1,1,0,1,0,0,1,0,0,1]) (by kernel_rfl) ?_;refine MS.regC g0 (keep:=[3,4,5]) (e':=E7 (Uf S i) i 0) (ps:=[]) (by kernel_rfl) trivial hs (λa w hs=>?_);refine Aax hS hW (by omega) hs (λa w hs=>?_);show(nav C7 [1,1,0,1,0,0,1,1]).wp _ _ a w;refine MS.regC g0 (keep:=[3,4]) (e':=E7' (Uf S (i+1)) (ar .add .i64 i 1)) (ps:=[]) (by kernel_rfl) trivial hs (λa w hs=>?_);refine⟨i+1,by omega,by omega,?_⟩;rw[Eh (by omega) (by omega)]at hs;exact hs
 .have hge:i=8:=by
   have:=of_decide_eq_false (show decide ((i:Int)<=7)=false from hf);omega
  subst hge;show Exit.inBlock 0 Q (.exit 0) a w;simp only[Exit.inBlock,if_true];exact hQ a w (hs.weak (Aa.cast (pat:=[(3,.same)]) (by kernel_rfl) (by kernel_rfl)))
set_option maxRecDepth 20000 in
theorem tim{w0:World}{r:Nat}{S:za}(hS:ic 2 S)(hr:w0.heap[r]? = some (Sa S)){F:Fz}(hF:Live F w0):Calls Tryz.prog 165 #[.map (some r)] w0 (λe w'=>∃v F',e=.returned v/\RC F' w0.heap.size w' (.lst .time (Rb S)) v/\Ta F w0 F' w'/\Live F' w'):=by
 refine calls_of_wp (fn:=Tryz.f165) (c:=C7) (by kernel_rfl) (by kernel_rfl) ?_;have hn:(Tryz.f165).ntmps=27:=by kernel_rfl
 rw[hn]
 have hsim:Sim (N7 r) w0.heap.size [] w0 F [] { tmps:=#[.map (some r)]++Array.replicate (27 - (#[Value.map (some r)]).size) undef,defers:=[] } w0:=by
  refine⟨rfl,⟨by simp,(λs h=>by cases h),λp hp=>?_⟩,Nat.le_refl _,(λb o h=>⟨hF.lt h,by simp⟩),Kept.refl _ _ _,F,λ_ _=>none,⟨λ_ _ h=>h,λ_ _ h=>.inl h,hF,λs i s' i' b h=>(by cases h),λs i b h=>(by cases h),λs=>trivial⟩⟩;have hp:p=(0,.map (some r)):=by simpa using hp
  subst hp;show(#[Value.map (some r)]++Array.replicate 26 undef).getD 0 undef=.map (some r);rw[Array.getD_eq_getD_getElem?,Array.getElem?_append_left (by simp)];simp
 have hms:=MS.of hsim rfl;refine ra (c1:=nav C7 [0]) (c2:=nav C7 [1]) (by kernel_rfl) ?_;refine MS.regC g0 (keep:=[]) (e':=[]) (ps:=[]) (by kernel_rfl) trivial hms (λa w hs=>?_);show(nav C7 [1]).wp _ _ a w;refine ra (c1:=nav C7 [1,0]) (c2:=nav C7 [1,1]) (by kernel_rfl) ?_;refine MS.regC g0 (keep:=[3]) (e':=[(3,LT [])]) (ps:=[]) (by kernel_rfl) trivial hs (λa w hs=>?_);show(nav C7 [1,1]).wp _ _ a w;refine ra (c1:=nav C7 [1,1,0]) (c2:=nav C7 [1,1,1]) (by kernel_rfl) ?_;refine ra (c1:=nav C7 [1,1,0,0]) (c2:=nav C7 [1,1,0,1]) (by kernel_rfl) ?_;refine MS.regC g0 (keep:=[3,4]) (e':=E7' [] 0) (ps:=[]) (by kernel_rfl) trivial hs (λa w hs=>?_);refine Bax hS hr hs (λa w hs=>?_);show(nav C7 [1,1,1]).wp _ _ a w;refine ra (c1:=nav C7 [1,1,1,0]) (c2:=nav C7 [1,1,1,1]) (by kernel_rfl) ?_;refine MS.regC g0 (keep:=[2]) (e':=[(2,LT (Rb S))]) (ps:=[]) (by kernel_rfl) trivial hs (λa w hs=>?_);refine Ji (by kernel_rfl) ?_;have ht:=hs.to;obtain⟨F',ow,hx⟩:=ht.rep;have h2:RC F' w0.heap.size w (.lst .time (Rb S)) (a.tmps.getD 2 undef):=(show Ea F' (lof w0.heap.size true) w (ow 2 none) (.lst .time (Rb S)) (a.tmps.getD 2 undef) from hx.sr 2).1
 have hrun:=fw (P:=Tryz.prog) (w:=w) (tmps:=a.tmps) (fn:=Tryz.f165) (rs:=[.tmp 2]) (by kernel_rfl) (vs:=[a.tmps.getD 2 undef]) rfl (λj rv v h h'=>by
  cases j with
  |zero=>simp only[List.getElem?_cons_zero,Option.some.injEq]at h h';subst h;subst h';rfl
  |succ j=>simp at h)
 exact⟨ht.defers,_,hrun,_,F',rfl,h2,⟨ht.kept.os,ht.kept.tape,ht.kept.output,ht.kept.size,λk hk=>ht.kept.block k hk (by simp),hx.sub,λb o h=>(hx.new b o h).imp_right λh=>h.elim id (λh=>by simp at h)⟩,hx.live⟩
noncomputable def C8:Code:=Od Tryz.f136
abbrev N8(r:Nat):NP:=⟨61,none,[(5,.map (some r))]⟩
noncomputable def q3(i:Nat):Oper:=opN (opsOf (nav C8 [1,1,0])) i
noncomputable def q13(i:Nat):Oper:=opN (opsOf (nav C8 [1,1,1,1,0,1,0,0,1,0,1,0])) i
noncomputable def q26(i:Nat):Oper:=opN (opsOf (nav C8 [1,1,1,1,1,0])) i
theorem ops3:(q3 0).op=.makeMap 155 none/\(q3 0).dst=some 18/\(q3 0).guard=none/\(q3 1).op=.assign (.tmp 18)/\(q3 1).dst=some 5/\(q3 1).guard=none /\
  List.range (opsOf (nav C8 [1,1,0])).size=[0,1]/\(opsOf (nav C8 [1,1,0]))[0]? = some (q3 0)/\(opsOf (nav C8 [1,1,0]))[1]? = some (q3 1):=⟨by kernel_rfl,by kernel_rfl,by kernel_rfl,by kernel_rfl,by kernel_rfl,by kernel_rfl,by kernel_rfl,by kernel_rfl,by kernel_rfl⟩
theorem Cax:(q13 0).op=.move (.tmp 5)/\(q13 0).dst=some 34/\(q13 0).guard=none/\(q13 1).op=.call ⟨.value (.func 165),#[.tmp 34],#[155]⟩/\(q13 1).dst=some 35/\(q13 1).guard=none/\(q13 2).dst=some 9/\(q13 2).guard=none /\
  List.range (opsOf (nav C8 [1,1,1,1,0,1,0,0,1,0,1,0])).size=[0,1,2]/\(opsOf (nav C8 [1,1,1,1,0,1,0,0,1,0,1,0]))[0]? = some (q13 0)/\(opsOf (nav C8 [1,1,1,1,0,1,0,0,1,0,1,0]))[1]? = some (q13 1)/\(opsOf (nav C8 [1,1,1,1,0,1,0,0,1,0,1,0]))[2]? = some (q13 2):=⟨by kernel_rfl,by kernel_rfl,by kernel_rfl,by kernel_rfl,by kernel_rfl,by kernel_rfl,by kernel_rfl,by kernel_rfl,by kernel_rfl,by kernel_rfl,by kernel_rfl,by kernel_rfl⟩
theorem Dax:(q26 0).op=.move (.tmp 5)/\(q26 0).dst=some 59/\(q26 0).guard=none/\(q26 1).op=.call ⟨.value (.func 165),#[.tmp 59],#[155]⟩/\(q26 1).dst=some 60/\(q26 1).guard=none/\(q26 2).dst=some 4/\(q26 2).guard=none /\
  List.range (opsOf (nav C8 [1,1,1,1,1,0])).size=[0,1,2]/\(opsOf (nav C8 [1,1,1,1,1,0]))[0]? = some (q26 0)/\(opsOf (nav C8 [1,1,1,1,1,0]))[1]? = some (q26 1)/\(opsOf (nav C8 [1,1,1,1,1,0]))[2]? = some (q26 2):=⟨by kernel_rfl,by kernel_rfl,by kernel_rfl,by kernel_rfl,by kernel_rfl,by kernel_rfl,by kernel_rfl,by kernel_rfl,by kernel_rfl,by kernel_rfl,by kernel_rfl,by kernel_rfl⟩
def te(k:Int):List Row->za->za
 |[],S=>S
 |x::r,S=>te k r (if x.Key=k then Jd S (tK x.At) else S)
def vaf(x:Row):AV:=.box [(.fr,.int .i64 x.Key),(.fr,.int .i64 x.Val),(.fr,.int .i64 x.At.A),(.fr,.int .i64 x.At.B),(.fr,.int .i64 x.Diff)]
def EA(xs:List Row)(k i:Int):Env:=[(1,.v .fr (.int .i64 k)),(19,.v .sh (.lst .row xs)),(20,.v .fr (.int .i64 (ba .row xs))),(21,.v .fr (.int .i64 i))]
def EB(xs:List Row)(k i:Int)(x:Row):Env:=[(1,.v .fr (.int .i64 k)),(7,vaf x),(19,.v .sh (.lst .row xs)),(20,.v .fr (.int .i64 (ba .row xs))),(21,.v .fr (.int .i64 i))]
theorem Eax{n:Nat}{S:za}(h:ic n S){ks:List Int}(hk:ks.length=n):ic n (Jd S ks):=by
 unfold Jd;split
 .exact h
 .intro p hp;rcases List.mem_append.1 hp with hp|hp
  .exact h p hp
  .simp at hp;subst hp;exact hk
noncomputable def r8(i:Nat):Oper:=opN (opsOf (nav C8 [1,1,1,0,1,0,0,1,1,0,0,1,1,0])) i
theorem Fax:(r8 0).op=.move (.tmp 5)/\(r8 0).dst=some 29/\(r8 0).guard=none/\(r8 1).dst=some 30/\(r8 1).guard=none/\(r8 2).dst=some 31/\(r8 2).guard=none /\
  (r8 3).op=.mapUpdate 155 (.tmp 29) (.tmp 31) (.const (.bool true))/\(r8 3).dst=none/\(r8 3).guard=none/\List.range (opsOf (nav C8 [1,1,1,0,1,0,0,1,1,0,0,1,1,0])).size=[0,1,2,3]:=⟨by kernel_rfl,by kernel_rfl,by kernel_rfl,by kernel_rfl,by kernel_rfl,by kernel_rfl,by kernel_rfl,by kernel_rfl,by kernel_rfl,by kernel_rfl,by kernel_rfl⟩
theorem bJ:∀i,i<4->(opsOf (nav C8 [1,1,1,0,1,0,0,1,1,0,0,1,1,0]))[i]? = some (r8 i):=by
 intro i hi;rcases (show i=0\/i=1\/i=2\/i=3 by omega) with rfl|rfl|rfl|rfl<;>kernel_rfl
set_option maxRecDepth 20000 in
theorem Gax{Q:Exit->Act->World->Prop}{B:Nat}{W0:World}{F0:Fz}{r:Nat}{S:za}(hS:ic 2 S){xs:List Row}{k i:Int}{x:Row}{a:Act}{w:World}(hs:MS (N8 r) B [] W0 F0 [(r,Sa S)] (EB xs k i x) a w)
  (hQ:∀a w,MS (N8 r) B [] W0 F0 [(r,Sa (Jd S (tK x.At)))] (EA xs k i) a w->Q .normal a w):(nav C8 [1,1,1,0,1,0,0,1,1,0,0,1,1,0]).wp Tryz.prog Q a w:=by
 obtain⟨p0,d0,q0,d1,q1,d2,q2,p3,d3,q3,hsz⟩:=Fax;refine Kc (by kernel_rfl) hsz ?_;rw[wpOps_cons];refine ya (bJ 0 (by omega)) q0 ?_;refine Ua (Be p0) ?_;rw[d0,wpOps_cons,hs.k (s:=5) (v:=.map (some r)) (by simp)];have h1:=hs.val (d:=29) (by kernel_rfl) (v:=.map (some r)) (av:=.dead) rfl (λ_ _=>trivial);refine ya (bJ 1 (by omega)) q1 ?_;refine h1.stepF g0 (ops:=opsOf (nav C8 [1,1,1,0,1,0,0,1,1,0,0,1,1,0])) (e':=(30,.baddr 7 2)::(29,.dead)::EB xs k i x) (ps:=[]) q1 (by kernel_rfl) trivial (λd h=>by rw[d1]at h;cases h;kernel_rfl) (λa2 w2 h2=>?_);rw[wpOps_cons];refine ya (bJ 2 (by omega)) q2 ?_;refine h2.stepF g0 (ops:=opsOf (nav C8 [1,1,1,0,1,0,0,1,1,0,0,1,1,0])) (e':=(31,.agg true [.int .i64 x.At.A,.int .i64 x.At.B])::(30,.baddr 7 2)::(29,.dead)::EB xs k i x) (ps:=[]) q2 (by kernel_rfl) trivial (λd h=>by rw[d2]at h;cases h;kernel_rfl) (λa3 w3 h3=>?_);rw[wpOps_cons];refine ya (bJ 3 (by omega)) q3 ?_;have hm:w3.heap[r]? = some (Sa S):=h3.o (by simp)
 have hkey:a3.tmps.getD 31 undef=La (tK x.At):=by
  obtain⟨F,ow,hx⟩:=h3.sim.rep;obtain⟨vs,h1,h2⟩:=hx.sr 31;have h1:a3.tmps.getD 31 undef=.agg vs.toArray:=h1;rw[h1];cases h2 with
  |cons c1 h2=>cases h2 with
   |cons c2 h2=>cases h2;cases c1;cases c2;rfl
 refine Ii (raf p3 (by rw[h3.k (s:=29) (v:=.map (some r)) (by simp),hkey];exact qaf sty hm hS rfl)) ?_;rw[d3];refine uc _ (hQ _ _ ?_)
 have h4:=h3.set (r:=r) (o0:=Sa S) (by simp) (Bh w3 r (Sa (Jd S (tK x.At)))) (obs':=[(r,Sa (Jd S (tK x.At)))]) (λp hp=>by
  simp at hp;subst hp;exact .inr ⟨rfl,Ch hm,rfl⟩)
 have hw:Aa ((31,.agg true [.int .i64 x.At.A,.int .i64 x.At.B])::(30,.baddr 7 2)::(29,.dead)::EB xs k i x) (EA xs k i):=by
  have he:mask (clean ((31,.agg true [.int .i64 x.At.A,.int .i64 x.At.B])::(30,.baddr 7 2)::(29,.dead)::EB xs k i x)) [1,19,20,21]=EA xs k i:=by kernel_rfl
  rw[<-he];exact λ_ _ _ _ _ _ _ hs=>hs.cleanMask _
 exact(h4.weak hw).forget rfl rfl (λp hp=>by simp at hp⊢;simp[hp]) (λp hp=>hp)
theorem cW(k:Int)(x:Row):∀(l:List Row) (S:za),te k (l++[x]) S=if x.Key=k then Jd (te k l S) (tK x.At) else te k l S
 |[],_S=>rfl
 |_y::r,_S=>cW k x r _
theorem waf(k:Int):∀(l:List Row) (S:za),ic 2 S->ic 2 (te k l S)
 |[],S,h=>h
 |x::r,S,h=>by
  simp only[te];refine waf k r _ ?_;split
  .exact Eax h rfl
  .exact h
set_option maxRecDepth 20000 in
theorem loopA{xs:List Row}{k:Int}(hlim:xs.length<=1000000){Q:Exit->Act->World->Prop}{B:Nat}{W0:World}{F0:Fz}{r:Nat}{a:Act}{w:World}(hs:MS (N8 r) B [] W0 F0 [(r,Sa [])] (EA xs k 0) a w)
  (hQ:∀a w,MS (N8 r) B [] W0 F0 [(r,Sa (te k xs []))] [] a w->Q .normal a w):(nav C8 [1,1,1,0,1]).wp Tryz.prog Q a w:=by
 refine Tc (c1:=nav C8 [1,1,1,0,1,0]) (id:=0) (by kernel_rfl) ?_;rw[show nav C8 [1,1,1,0,1,0]=.loop (nav C8 [1,1,1,0,1,0,0]) by kernel_rfl];refine We (σ:=Nat) (λi a w=>i<=xs.length/\MS (N8 r) B [] W0 F0 [(r,Sa (te k (xs.take i) []))] (EA xs k i) a w) (λi=>xs.length - i) ?_ 0 ⟨Nat.zero_le _,hs⟩;rintro i a w ⟨hi,hs⟩;refine ra (c1:=nav C8 [1,1,1,0,1,0,0,0]) (c2:=nav C8 [1,1,1,0,1,0,0,1]) (by kernel_rfl) ?_;refine MS.regC g0 (keep:=[1,19,20,21,22]) (e':=[(1,.v .fr (.int .i64 k)),(19,.v .sh (.lst .row xs)),(20,.v .fr (.int .i64 (ba .row xs))),(21,.v .fr (.int .i64 i)),(22,.v .fr (.bool (cmp .lss i (ba .row xs))))]) (ps:=[]) (by kernel_rfl) trivial hs (λa w hs=>?_);show(nav C8 [1,1,1,0,1,0,0,1]).wp _ _ a w;refine ra (c1:=nav C8 [1,1,1,0,1,0,0,1,0]) (c2:=nav C8 [1,1,1,0,1,0,0,1,1]) (by kernel_rfl) ?_;refine sd (o:=.tmp 22) (c1:=nav C8 [1,1,1,0,1,0,0,1,0,0]) (c2:=nav C8 [1,1,1,0,1,0,0,1,0,1]) (by kernel_rfl) (hs.bool (k:=.fr) rfl) (λht=>Qd (by kernel_rfl) ?_) (λhf=>lg (i:=0) (by kernel_rfl) ?_)
 .have hlt:i<xs.length:=by
   have:=of_decide_eq_true (show decide ((i:Int)<ba .row xs)=true from ht);unfold ba at this;omega
  have htake:xs.take (i+1)=xs.take i++[rd .row xs i]:=by
   rw[List.take_succ_eq_append_getElem hlt]
   congr 2
   unfold rd;rw[List.getD_eq_getElem?_getD,show(i:Int).toNat=i from rfl,List.getElem?_eq_getElem hlt];rfl
  have hend:∀ {a:Act}{w:World},MS (N8 r) B [] W0 F0 [(r,Sa (te k (xs.take (i+1)) []))] (EA xs k i) a w->(nav C8 [1,1,1,0,1,0,0,1,1,1]).wp Tryz.prog (λe a' w'=>Exit.then (λa' w'=>∃s',xs.length - s'<xs.length - i/\(s'<=xs.length/\MS (N8 r) B [] W0 F0 [(r,Sa (te k (xs.take s') []))] (EA xs k s') a' w')) (Exit.inBlock 0 Q) e a' w') a w:=λhs=>by
   refine MS.regC g0 (keep:=[1,19,20,21]) (e':=EA xs k (ar .add .i64 i 1)) (ps:=[]) (by kernel_rfl) trivial hs (λa w hs=>?_);refine⟨i+1,by omega,by omega,?_⟩;rw[Eh (by omega) (by omega)]at hs;exact hs
  show(nav C8 [1,1,1,0,1,0,0,1,1]).wp _ _ a w;refine ra (c1:=nav C8 [1,1,1,0,1,0,0,1,1,0]) (c2:=nav C8 [1,1,1,0,1,0,0,1,1,1]) (by kernel_rfl) ?_;refine Tc (c1:=nav C8 [1,1,1,0,1,0,0,1,1,0,0]) (id:=1) (by kernel_rfl) ?_;refine ra (c1:=nav C8 [1,1,1,0,1,0,0,1,1,0,0,0]) (c2:=nav C8 [1,1,1,0,1,0,0,1,1,0,0,1]) (by kernel_rfl) ?_;refine MS.regC g0 (keep:=[1,7,19,20,21]) (e':=EB xs k i (rd .row xs i)) (ps:=[inb i (ba .row xs)]) (by kernel_rfl) ⟨⟨by omega,by unfold ba;omega⟩,trivial⟩ hs (λa w hs=>?_);show(nav C8 [1,1,1,0,1,0,0,1,1,0,0,1]).wp _ _ a w;refine ra (c1:=nav C8 [1,1,1,0,1,0,0,1,1,0,0,1,0]) (c2:=nav C8 [1,1,1,0,1,0,0,1,1,0,0,1,1]) (by kernel_rfl) ?_;refine MS.regC g0 (keep:=[1,7,19,20,21,28]) (e':=[(1,.v .fr (.int .i64 k)),(7,vaf (rd .row xs i)),(19,.v .sh (.lst .row xs)),(20,.v .fr (.int .i64 (ba .row xs))),(21,.v .fr (.int .i64 i)),(28,.v .fr (.bool (cmp .eql (rd .row xs i).Key k)))]) (ps:=[]) (by kernel_rfl) trivial hs (λa w hs=>?_);show(nav C8 [1,1,1,0,1,0,0,1,1,0,0,1,1]).wp _ _ a w;refine sd (o:=.tmp 28) (c1:=nav C8 [1,1,1,0,1,0,0,1,1,0,0,1,1,0]) (c2:=nav C8 [1,1,1,0,1,0,0,1,1,0,0,1,1,1]) (by kernel_rfl) (hs.bool (k:=.fr) rfl) (λht=>?_) (λhf=>Qd (by kernel_rfl) ?_)
  .have hk:(rd .row xs i).Key=k:=by simpa [cmp] using ht
   refine Gax (xs:=xs) (k:=k) (i:=i) (x:=rd .row xs i) (waf k _ [] (λp hp=>by cases hp)) (hs.weak (Aa.cast (e':=EB xs k i (rd .row xs i)) (pat:=[(1,.same),(7,.same),(19,.same),(20,.same),(21,.same)]) (by kernel_rfl) (by kernel_rfl))) (λa w hs=>?_);refine hend ?_;rw[htake,cW,if_pos hk];exact hs
  .have hk:¬ (rd .row xs i).Key=k:=by simpa [cmp] using hf
   refine hend ?_;rw[htake,cW,if_neg hk];exact hs.weak (Aa.cast (pat:=[(1,.same),(19,.same),(20,.same),(21,.same)]) (by kernel_rfl) (by kernel_rfl))
 .have hge:xs.length<=i:=by
   have:=of_decide_eq_false (show decide ((i:Int)<ba .row xs)=false from hf);unfold ba at this;omega
  show Exit.inBlock 0 Q (.exit 0) a w;simp only[Exit.inBlock,if_true];refine hQ a w ?_;rw[List.take_of_length_le hge]at hs;exact hs.weak (Aa.cast (pat:=[]) (by kernel_rfl) (by kernel_rfl))
theorem xaf{N:NP}{B:Nat}{W0:World}{F0:Fz}{obs:List (Nat×Obj)}{e:Env}{a:Act}{w:World}(hs:MS N B [] W0 F0 obs e a w){r:Nat}{S:za}(hS:ic 2 S)(hr:(r,Sa S)∈obs){o:Oper}{x d:Nat}
  (hop:o.op=.call ⟨.value (.func 165),#[.tmp x],#[155]⟩) (hx:a.tmps.getD x undef=.map (some r)) (hd:o.dst=some d) (hdN:N.ok d=true) {next:Act->World->Prop}{Q:Exit->Act->World->Prop}
  (hn:∀v w',MS ⟨N.n,N.r,(d,v)::N.k⟩ B [] W0 F0 obs (put e d (.v .fr (.lst .time (Rb S)))) (a.put (some d) v) w'->next (a.put (some d) v) w'):o.wp Tryz.prog a w next Q:=by
 have hfn : Tryz.prog.funcs[165]? = some Tryz.f165:=by kernel_rfl
 have hname:((Tryz.f165).name == "runtime.NumGoroutine")=false:=by kernel_rfl
 have hbody:(Tryz.f165).body.isNone=false:=by kernel_rfl
 have hrun:(execOp a.eval o).run Tryz.prog w=.ok (.enter 165 #[.map (some r)]) w:=by
  obtain⟨dst,op,ty,pos,aft,gd⟩:=o;simp only[]at hop;subst hop;have hname':¬ (Tryz.f165).name="runtime.NumGoroutine":=by simpa using hname
  have hbody':¬ (Tryz.f165).body=none:=by intro e;rw[e]at hbody;simp at hbody
  simp[execOp,resolve,Act.eval,Deferred.ofValue,invoke,callFunc,hfn,hname',hbody',hx]
 unfold Oper.wp;rw[hrun,Oper.upon_enter];obtain⟨F,ow,hxx⟩:=hs.sim.rep;refine(tim hS (hs.o hr) (F:=F) hxx.live).mono ?_;rintro e' w' ⟨v,F',rfl,hrc,hg,hl⟩;show next (a.put o.dst v) w';rw[hd];refine hn v w' ?_
 have hkp:Kept B [] w w':=⟨hg.os,hg.tape,hg.output,hg.size,λk hk _=>hg.block k (Nat.lt_of_lt_of_le hk hs.sim.base),λk o hk _=>by
  rw[hg.block k (Array.getElem?_eq_some_iff.1 hk).1];exact hk⟩
 refine⟨⟨hs.sim.defers,hs.sim.tmps.putK hdN v,Nat.le_trans hs.sim.base hg.size,hs.sim.f0,Kept.refl _ _ _,F',λs=>if s=d then(λ_=>none) else ow s,?_⟩,hs.kept.trans hkp,λp hp=>⟨hkp.obj _ _ (hs.ob p hp).1 (hs.ob p hp).2.1,(hs.ob p hp).2⟩,hs.hB⟩;rw[show(λn=>(a.put (some d) v).tmps.getD n undef)=λn=>if n=d then v else a.tmps.getD n undef from funext (Ka a d v (by rw[hs.sim.tmps.size];exact NP.ok_lt hdN))];refine hxx.put hs.sim.base hg hl (λi b h=>by simp at h) (λi i' b h=>by simp at h) (λg' _ _=>?_);show RC F' B w' _ (if d=d then v else _);rw[if_pos rfl];exact hrc.mono (λ_ _ h=>h) hs.sim.base (λ_ _ _=>rfl)
abbrev TL(l:List Time):AV:=.v .fr (.lst .time l)
def yn(t:Time):AV:=.box [(.fr,.int .i64 t.A),(.fr,.int .i64 t.B)]
def EJ(l:List Time)(b:Bool)(i:Int)(s:Time)(j:Int):Env:=[(8,.v .fr (.bool b)),(9,TL l),(11,yn s),(36,TL l),(37,.v .fr (.int .i64 (ba .time l))),(38,.v .fr (.int .i64 i)),(42,TL l),(43,.v .fr (.int .i64 (ba .time l))),(44,.v .fr (.int .i64 j))]
def EI(l:List Time)(b:Bool)(i:Int):Env:=[(8,.v .fr (.bool b)),(9,TL l),(36,TL l),(37,.v .fr (.int .i64 (ba .time l))),(38,.v .fr (.int .i64 i))]
def Vf(st:za×Bool)(t:Time):za×Bool:=if tK t∈st.1 then st else(st.1++[tK t],true)
theorem Hax{st:za×Bool}(h:ic 2 st.1)(t:Time):ic 2 (Vf st t).1:=by
 unfold Vf;split
 .exact h
 .intro p hp;rcases List.mem_append.1 hp with hp|hp
  .exact h p hp
  .simp at hp;subst hp;rfl
def EK(l:List Time)(b:Bool)(i:Int)(s:Time)(j:Int)(t:Time):Env:=(14,yn t)::EJ l b i s j
noncomputable def r21(i:Nat):Oper:=opN (opsOf (nav C8 [1,1,1,1,0,1,0,0,1,0,1,1,1,0,0,1,1,0,0,1,1,0,0,1,1,0,0,1,1,0])) i
noncomputable def r22(i:Nat):Oper:=opN (opsOf (nav C8 [1,1,1,1,0,1,0,0,1,0,1,1,1,0,0,1,1,0,0,1,1,0,0,1,1,0,0,1,1,1,0,0])) i
theorem Iax:(r21 0).op=.move (.tmp 5)/\(r21 0).dst=some 51/\(r21 0).guard=none/\(r21 1).dst=some 52/\(r21 1).guard=none/\(r21 2).op=.lookup 155 (.tmp 51) (.tmp 52) false/\(r21 2).dst=some 53/\(r21 2).guard=none/\(r21 3).dst=some 54/\(r21 3).guard=none /\
  List.range (opsOf (nav C8 [1,1,1,1,0,1,0,0,1,0,1,1,1,0,0,1,1,0,0,1,1,0,0,1,1,0,0,1,1,0])).size=[0,1,2,3]/\(opsOf (nav C8 [1,1,1,1,0,1,0,0,1,0,1,1,1,0,0,1,1,0,0,1,1,0,0,1,1,0,0,1,1,0]))[0]? = some (r21 0)/\(opsOf (nav C8 [1,1,1,1,0,1,0,0,1,0,1,1,1,0,0,1,1,0,0,1,1,0,0,1,1,0,0,1,1,0]))[1]? = some (r21 1)/\(opsOf (nav C8 [1,1,1,1,0,1,0,0,1,0,1,1,1,0,0,1,1,0,0,1,1,0,0,1,1,0,0,1,1,0]))[2]? = some (r21 2)/\(opsOf (nav C8 [1,1,1,1,0,1,0,0,1,0,1,1,1,0,0,1,1,0,0,1,1,0,0,1,1,0,0,1,1,0]))[3]? = some (r21 3):=⟨by kernel_rfl,by kernel_rfl,by kernel_rfl,by kernel_rfl,by kernel_rfl,by kernel_rfl,by kernel_rfl,by kernel_rfl,by kernel_rfl,by kernel_rfl,by kernel_rfl,by kernel_rfl,by kernel_rfl,by kernel_rfl,by kernel_rfl⟩
set_option maxRecDepth 20000 in
theorem Jax{Q:Exit->Act->World->Prop}{B:Nat}{W0:World}{F0:Fz}{r:Nat}{S:za}(hS:ic 2 S){l:List Time}{b:Bool}{i j:Int}{s t:Time}{a:Act}{w:World}(hs:MS (N8 r) B [] W0 F0 [(r,Sa S)] (EK l b i s j t) a w)
  (hQ:∀a w,MS (N8 r) B [] W0 F0 [(r,Sa S)] ((54,.v .fr (.bool (!decide (tK t∈S))))::EK l b i s j t) a w->Q .normal a w):(nav C8 [1,1,1,1,0,1,0,0,1,0,1,1,1,0,0,1,1,0,0,1,1,0,0,1,1,0,0,1,1,0]).wp Tryz.prog Q a w:=by
 obtain⟨p0,d0,q0,d1,q1,p2,d2,q2,d3,q3,hsz,a0,a1,a2,a3⟩:=Iax;refine Kc (by kernel_rfl) hsz ?_;rw[wpOps_cons];refine ya a0 q0 ?_;refine Ua (Be p0) ?_;rw[d0,wpOps_cons,hs.k (s:=5) (v:=.map (some r)) (by simp)];have h1:=hs.val (d:=51) (by kernel_rfl) (v:=.map (some r)) (av:=.dead) rfl (λ_ _=>trivial);refine ya a1 q1 ?_;refine h1.stepF g0 (ops:=opsOf (nav C8 [1,1,1,1,0,1,0,0,1,0,1,1,1,0,0,1,1,0,0,1,1,0,0,1,1,0,0,1,1,0])) (e':=(52,.agg true [.int .i64 t.A,.int .i64 t.B])::(51,.dead)::EK l b i s j t) (ps:=[]) q1 (by kernel_rfl) trivial (λd h=>by rw[d1]at h;cases h;kernel_rfl) (λa' w' h2=>?_);rw[wpOps_cons];refine ya a2 q2 ?_;have hm:w'.heap[r]? = some (Sa S):=h2.o (by simp)
 have hkey:a'.tmps.getD 52 undef=La (tK t):=by
  obtain⟨F,ow,hx⟩:=h2.sim.rep;obtain⟨vs,h1,h2⟩:=hx.sr 52;have h1:a'.tmps.getD 52 undef=.agg vs.toArray:=h1;rw[h1];cases h2 with
  |cons c1 h2=>cases h2 with
   |cons c2 h2=>cases h2;cases c1;cases c2;rfl
 refine Ua (qw p2 (by rw[h2.k (s:=51) (v:=.map (some r)) (by simp),hkey];exact paf sty hm hS rfl)) ?_;rw[d2,wpOps_cons];have h3:=h2.val (d:=53) (by kernel_rfl) (v:=.bool (decide (tK t∈S))) (av:=.v .fr (.bool (decide (tK t∈S)))) rfl (λ_ _=>.bool _);refine ya a3 q3 ?_;refine h3.stepF g0 (ops:=opsOf (nav C8 [1,1,1,1,0,1,0,0,1,0,1,1,1,0,0,1,1,0,0,1,1,0,0,1,1,0,0,1,1,0])) (e':=(54,.v .fr (.bool (!decide (tK t∈S))))::(53,.v .fr (.bool (decide (tK t∈S))))::(52,.agg true [.int .i64 t.A,.int .i64 t.B])::(51,.dead)::EK l b i s j t) (ps:=[]) q3 (by kernel_rfl) trivial (λd h=>by rw[d3]at h;cases h;kernel_rfl) (λa'' w'' h4=>?_);refine uc _ (hQ _ _ ?_);exact(h4.weak (Aa.cast (pat:=[(54,.same),(14,.same),(8,.same),(9,.same),(11,.same),(36,.same),(37,.same),(38,.same),(42,.same),(43,.same),(44,.same)]) (by kernel_rfl) (by kernel_rfl))).forget rfl rfl (λp hp=>by simp at hp⊢;simp[hp]) (λp hp=>hp)
theorem Kax:(r22 0).op=.move (.tmp 5)/\(r22 0).dst=some 55/\(r22 0).guard=none/\(r22 1).dst=some 56/\(r22 1).guard=none/\(r22 2).op=.mapUpdate 155 (.tmp 55) (.tmp 56) (.const (.bool true))/\(r22 2).dst=none/\(r22 2).guard=none /\
  List.range (opsOf (nav C8 [1,1,1,1,0,1,0,0,1,0,1,1,1,0,0,1,1,0,0,1,1,0,0,1,1,0,0,1,1,1,0,0])).size=[0,1,2]/\(opsOf (nav C8 [1,1,1,1,0,1,0,0,1,0,1,1,1,0,0,1,1,0,0,1,1,0,0,1,1,0,0,1,1,1,0,0]))[0]? = some (r22 0)/\(opsOf (nav C8 [1,1,1,1,0,1,0,0,1,0,1,1,1,0,0,1,1,0,0,1,1,0,0,1,1,0,0,1,1,1,0,0]))[1]? = some (r22 1)/\(opsOf (nav C8 [1,1,1,1,0,1,0,0,1,0,1,1,1,0,0,1,1,0,0,1,1,0,0,1,1,0,0,1,1,1,0,0]))[2]? = some (r22 2):=⟨by kernel_rfl,by kernel_rfl,by kernel_rfl,by kernel_rfl,by kernel_rfl,by kernel_rfl,by kernel_rfl,by kernel_rfl,by kernel_rfl,by kernel_rfl,by kernel_rfl,by kernel_rfl⟩
set_option maxRecDepth 20000 in
theorem Lax{Q:Exit->Act->World->Prop}{B:Nat}{W0:World}{F0:Fz}{r:Nat}{S:za}(hS:ic 2 S){l:List Time}{b:Bool}{i j:Int}{s t:Time}{a:Act}{w:World}(hs:MS (N8 r) B [] W0 F0 [(r,Sa S)] (EK l b i s j t) a w)
  (hQ:∀a w,MS (N8 r) B [] W0 F0 [(r,Sa (Jd S (tK t)))] (EJ l b i s j) a w->Q .normal a w):(nav C8 [1,1,1,1,0,1,0,0,1,0,1,1,1,0,0,1,1,0,0,1,1,0,0,1,1,0,0,1,1,1,0,0]).wp Tryz.prog Q a w:=by
 obtain⟨p0,d0,q0,d1,q1,p2,d2,q2,hsz,a0,a1,a2⟩:=Kax;refine Kc (by kernel_rfl) hsz ?_;rw[wpOps_cons];refine ya a0 q0 ?_;refine Ua (Be p0) ?_;rw[d0,wpOps_cons,hs.k (s:=5) (v:=.map (some r)) (by simp)];have h1:=hs.val (d:=55) (by kernel_rfl) (v:=.map (some r)) (av:=.dead) rfl (λ_ _=>trivial);refine ya a1 q1 ?_;refine h1.stepF g0 (ops:=opsOf (nav C8 [1,1,1,1,0,1,0,0,1,0,1,1,1,0,0,1,1,0,0,1,1,0,0,1,1,0,0,1,1,1,0,0])) (e':=(56,.agg true [.int .i64 t.A,.int .i64 t.B])::(55,.dead)::EK l b i s j t) (ps:=[]) q1 (by kernel_rfl) trivial (λd h=>by rw[d1]at h;cases h;kernel_rfl) (λa' w' h2=>?_);rw[wpOps_cons];refine ya a2 q2 ?_;have hm:w'.heap[r]? = some (Sa S):=h2.o (by simp)
 have hkey:a'.tmps.getD 56 undef=La (tK t):=by
  obtain⟨F,ow,hx⟩:=h2.sim.rep;obtain⟨vs,h1,h2⟩:=hx.sr 56;have h1:a'.tmps.getD 56 undef=.agg vs.toArray:=h1;rw[h1];cases h2 with
  |cons c1 h2=>cases h2 with
   |cons c2 h2=>cases h2;cases c1;cases c2;rfl
 refine Ii (raf p2 (by rw[h2.k (s:=55) (v:=.map (some r)) (by simp),hkey];exact qaf sty hm hS rfl)) ?_;rw[d2];refine uc _ (hQ _ _ ?_)
 have h4:=h2.set (r:=r) (o0:=Sa S) (by simp) (Bh w' r (Sa (Jd S (tK t)))) (obs':=[(r,Sa (Jd S (tK t)))]) (λp hp=>by
  simp at hp;subst hp;exact .inr ⟨rfl,Ch hm,rfl⟩)
 exact(h4.weak (Aa.cast (pat:=[(8,.same),(9,.same),(11,.same),(36,.same),(37,.same),(38,.same),(42,.same),(43,.same),(44,.same)]) (by kernel_rfl) (by kernel_rfl))).forget rfl rfl (λp hp=>by simp at hp⊢;simp[hp]) (λp hp=>hp)
def jc(l:List Time)(s:Time)(st:za×Bool):za×Bool:=l.foldl (λst t=>Vf st (nb s t)) st
def Je(l:List Time)(ss:List Time)(st:za×Bool):za×Bool:=ss.foldl (λst s=>jc l s st) st
def rnd(S:za):za×Bool:=Je (Rb S) (Rb S) (S,false)
theorem Max(l:List Time)(s t:Time)(st:za×Bool):jc (l++[t]) s st=Vf (jc l s st) (nb s t):=by unfold jc;rw[List.foldl_append];rfl
theorem Nax(l ss:List Time)(s:Time)(st:za×Bool):Je l (ss++[s]) st=jc l s (Je l ss st):=by unfold Je;rw[List.foldl_append];rfl
theorem dW:∀(l:List Time) (s:Time) (st:za×Bool),ic 2 st.1->ic 2 (jc l s st).1
 |[],_,_,h=>h
 |t::l,s,st,h=>dW l s (Vf st (nb s t)) (Hax h _)
theorem yaf(l:List Time):∀(ss:List Time) (st:za×Bool),ic 2 st.1->ic 2 (Je l ss st).1
 |[],_,h=>h
 |s::ss,st,h=>yaf l ss (jc l s st) (dW l s st h)
def fi(S:za)(t:Time):Bool:=decide (tK t∈S)
theorem eW(S:za):∀n,Uf S n=Bc (fi S) n
 |0=>rfl
 |n+1=>by
  simp only[Uf,Bc,eW S n];rfl
theorem fW{S:za}{t:Time}:t∈Rb S↔tK t∈S/\Fa t=true:=by
 unfold Rb;rw[eW,aJ];simp only[fi,Fa,decide_eq_true_eq];exact⟨λh=>⟨h.1,by omega⟩,λh=>⟨h.1,by omega⟩⟩
def mu(S:za):Nat:=cnt (fi S) allT
def GoodS(xs:List Row)(k:Int)(S:za):Prop:=∀p∈S,∃t,p=tK t/\Fa t=true/\jT xs k t=true
structure Wf(xs:List Row)(k:Int)(S0:za)(st:za×Bool)(D:Time->Time->Prop):Prop where
 sub:∀p∈S0,p∈st.1
 good:GoodS xs k st.1
 same:st.2=false->st.1=S0/\∀s t,D s t->tK (nb s t)∈S0
 less:st.2=true->mu st.1<mu S0
theorem Oax{s t:Time}(hs:Fa s=true)(ht:Fa t=true):Fa (nb s t)=true:=by
 simp only[Fa,nb,Cj,decide_eq_true_eq] at *;refine⟨?_,?_,?_,?_⟩<;>split<;>omega
theorem Wf.add{xs:List Row}{k:Int}{S0:za}{st:za×Bool}{D:Time->Time->Prop}(h:Wf xs k S0 st D){s t:Time}(hs:Fa s=true/\jT xs k s=true)(ht:Fa t=true/\jT xs k t=true) :
  Wf xs k S0 (Vf st (nb s t)) (λa b=>D a b\/(a=s/\b=t)):=by
 have hok:=Oax hs.1 ht.1;unfold Vf;split
 .rename_i hm;exact⟨h.sub,h.good,λhf=>⟨(h.same hf).1,λa b hab=>hab.elim ((h.same hf).2 a b) λe=>by rw[e.1,e.2,<-(h.same hf).1];exact hm⟩,h.less⟩
 .rename_i hm;refine⟨λp hp=>List.mem_append.2 (.inl (h.sub p hp)),λp hp=>?_,λhf=>(by cases hf),λ_=>?_⟩
  .rcases List.mem_append.1 hp with hp|hp
   .exact h.good p hp
   .simp at hp;exact⟨_,hp,hok,gaf hs.2 ht.2⟩
  .have h1:mu (st.1++[tK (nb s t)])<mu st.1:=cnt_lt (y:=nb s t) (λx _ hx=>by simp only[fi,decide_eq_true_eq]at hx⊢;exact List.mem_append.2 (.inl hx)) (jaf.2 hok) (by simpa [fi] using hm) (by simp[fi])
   cases hb:st.2 with
   |true=>exact Nat.lt_trans h1 (h.less hb)
   |false=>rw[(h.same hb).1]at h1⊢;exact h1
theorem Wf.mono{xs:List Row}{k:Int}{S0:za}{st:za×Bool}{D D':Time->Time->Prop}(h:Wf xs k S0 st D)(hd:∀a b,D' a b->D a b):Wf xs k S0 st D':=⟨h.sub,h.good,λhf=>⟨(h.same hf).1,λa b hab=>(h.same hf).2 a b (hd a b hab)⟩,h.less⟩
theorem zaf{xs:List Row}{k:Int}{S0:za}{s:Time}(hs:Fa s=true/\jT xs k s=true):∀(l:List Time) (st:za×Bool) (D:Time->Time->Prop),(∀t∈l,Fa t=true/\jT xs k t=true)->Wf xs k S0 st D ->
  Wf xs k S0 (jc l s st) (λa b=>D a b\/(a=s/\b∈l))
 |[],st,D,_,h=>h.mono λa b hab=>hab.elim id λe=>by cases e.2
 |t::l,st,D,hl,h=>(zaf hs l (Vf st (nb s t)) _ (λu hu=>hl u (by simp[hu])) (h.add hs (hl t (by simp)))).mono λa b hab=>by
  rcases hab with hab|⟨e1,e2⟩
  .exact .inl (.inl hab)
  .rcases List.mem_cons.1 e2 with rfl|e2
   .exact .inl (.inr ⟨e1,rfl⟩)
   .exact .inr ⟨e1,e2⟩
theorem Aaf{xs:List Row}{k:Int}{S0:za}{l:List Time}(hl:∀t∈l,Fa t=true/\jT xs k t=true):∀(ss:List Time) (st:za×Bool) (D:Time->Time->Prop),(∀t∈ss,Fa t=true/\jT xs k t=true)->Wf xs k S0 st D ->
  Wf xs k S0 (Je l ss st) (λa b=>D a b\/(a∈ss/\b∈l))
 |[],st,D,_,h=>h.mono λa b hab=>hab.elim id λe=>by cases e.1
 |s::ss,st,D,hss,h=>(Aaf hl ss (jc l s st) _ (λu hu=>hss u (by simp[hu])) (zaf (hss s (by simp)) l st D hl h)).mono λa b hab=>by
  rcases hab with hab|⟨e1,e2⟩
  .exact .inl (.inl hab)
  .rcases List.mem_cons.1 e1 with rfl|e1
   .exact .inl (.inr ⟨rfl,e2⟩)
   .exact .inr ⟨e1,e2⟩
theorem Baf{xs:List Row}{k:Int}{S:za}(h:GoodS xs k S):∀t∈Rb S,Fa t=true/\jT xs k t=true:=λt ht=>by
 obtain⟨h1,h2⟩:=fW.1 ht;obtain⟨u,e,_,h3⟩:=h _ h1;rw[YI e];exact⟨by rw[<-YI e];exact h2,h3⟩
theorem Pax{xs:List Row}{k:Int}{S:za}(h:GoodS xs k S):Wf xs k S (rnd S) (λa b=>a∈Rb S/\b∈Rb S):=(Aaf (Baf h) (Rb S) (S,false) (λ_ _=>False) (Baf h) ⟨λ_ hp=>hp,h,λ_=>⟨rfl,λ_ _ h=>h.elim⟩,λhf=>by cases hf⟩).mono λ_ _ hab=>.inr hab
def jv(xs:List Row)(k:Int)(S:za):Prop:=∀x∈xs,x.Key=k->tK x.At∈S
def gW(S:za):Prop:=∀s t,s∈Rb S->t∈Rb S->tK (nb s t)∈S
theorem Qax{xs:List Row}{k:Int}{S:za}(h1:GoodS xs k S)(h2:jv xs k S)(h3:gW S):Rb S=Bc (jT xs k) 8:=by
 unfold Rb;rw[eW];refine YV λa b ha hb=>?_;rw[Bool.eq_iff_iff];constructor
 .intro h;simp only[fi,decide_eq_true_eq]at h;obtain⟨u,e,_,h4⟩:=h1 _ h;rw[YI e];exact h4
 .intro h
  have hM:∀t:Time,tK t∈S->t∈Rb S:=λt ht=>by
   obtain⟨u,e,h5,_⟩:=h1 _ ht;rw[<-YI e]at h5;exact fW.2 ⟨ht,h5⟩
  have:=haf (M:=λt=>tK t∈S) h2 (λs t hs ht=>h3 s t (hM s hs) (hM t ht)) h;simpa [fi] using this
theorem iW(k:Int):∀(xs:List Row) (S:za) (p:List Int),p∈te k xs S↔p∈S\/∃x∈xs,x.Key=k/\p=tK x.At
 |[],S,p=>by simp[te]
 |x::r,S,p=>by
  rw[te,iW k r];by_cases hk:x.Key=k
  .have hi:p∈Jd S (tK x.At)↔p∈S\/p=tK x.At:=by
    unfold Jd;split
    .rename_i hm;exact⟨.inl,λh=>h.elim id λe=>e▸hm⟩
    .simp
   rw[if_pos hk,hi];constructor
   .rintro ((h|h)|⟨y,h1,h2,h3⟩)
    .exact .inl h
    .exact .inr ⟨x,by simp,hk,h⟩
    .exact .inr ⟨y,by simp[h1],h2,h3⟩
   .rintro (h|⟨y,h1,h2,h3⟩)
    .exact .inl (.inl h)
    .rcases List.mem_cons.1 h1 with rfl|h1
     .exact .inl (.inr h3)
     .exact .inr ⟨y,h1,h2,h3⟩
  .rw[if_neg hk];constructor
   .rintro (h|⟨y,h1,h2,h3⟩)
    .exact .inl h
    .exact .inr ⟨y,by simp[h1],h2,h3⟩
   .rintro (h|⟨y,h1,h2,h3⟩)
    .exact .inl h
    .rcases List.mem_cons.1 h1 with rfl|h1
     .exact absurd h2 hk
     .exact .inr ⟨y,h1,h2,h3⟩
end Tg
end Go.Proofs.YtiiidenbemkihaaGreat

namespace Go.Proofs.YtiiidenbemkihaaGreat
namespace Tg
open Go
set_option maxRecDepth 20000 in
theorem Rax{Q:Exit->Act->World->Prop}{B:Nat}{W0:World}{F0:Fz}{r:Nat}{S:za}(hS:ic 2 S){l:List Time}(hlen:l.length<=64)(hl:∀t∈l,Fa t=true){b:Bool}{i:Int}{s:Time}(hs0:Fa s=true){a:Act}{w:World}(hs:MS (N8 r) B [] W0 F0 [(r,Sa S)] (EJ l b i s 0) a w)
  (hQ:∀a w,MS (N8 r) B [] W0 F0 [(r,Sa (jc l s (S,b)).1)] (EI l (jc l s (S,b)).2 i) a w->Q .normal a w):(nav C8 [1,1,1,1,0,1,0,0,1,0,1,1,1,0,0,1,1,0,0,1,1]).wp Tryz.prog Q a w:=by
 refine Tc (c1:=nav C8 [1,1,1,1,0,1,0,0,1,0,1,1,1,0,0,1,1,0,0,1,1,0]) (id:=6) (by kernel_rfl) ?_;rw[show nav C8 [1,1,1,1,0,1,0,0,1,0,1,1,1,0,0,1,1,0,0,1,1,0]=.loop (nav C8 [1,1,1,1,0,1,0,0,1,0,1,1,1,0,0,1,1,0,0,1,1,0,0]) by kernel_rfl];refine We (σ:=Nat) (λj a w=>j<=l.length/\MS (N8 r) B [] W0 F0 [(r,Sa (jc (l.take j) s (S,b)).1)] (EJ l (jc (l.take j) s (S,b)).2 i s j) a w) (λj=>l.length - j) ?_ 0 ⟨Nat.zero_le _,hs⟩;rintro j a w ⟨hj,hs⟩;refine ra (c1:=nav C8 [1,1,1,1,0,1,0,0,1,0,1,1,1,0,0,1,1,0,0,1,1,0,0,0]) (c2:=nav C8 [1,1,1,1,0,1,0,0,1,0,1,1,1,0,0,1,1,0,0,1,1,0,0,1]) (by kernel_rfl) ?_;refine MS.regC g0 (keep:=[8,9,11,36,37,38,42,43,44,45]) (e':=[(8,.v .fr (.bool (jc (l.take j) s (S,b)).2)),(9,TL l),(11,yn s),(36,TL l),(37,.v .fr (.int .i64 (ba .time l))),(38,.v .fr (.int .i64 i)),(42,TL l),(43,.v .fr (.int .i64 (ba .time l))),(44,.v .fr (.int .i64 j)),(45,.v .fr (.bool (cmp .lss j (ba .time l))))]) (ps:=[]) (by kernel_rfl) trivial hs (λa w hs=>?_);show(nav C8 [1,1,1,1,0,1,0,0,1,0,1,1,1,0,0,1,1,0,0,1,1,0,0,1]).wp _ _ a w;refine ra (c1:=nav C8 [1,1,1,1,0,1,0,0,1,0,1,1,1,0,0,1,1,0,0,1,1,0,0,1,0]) (c2:=nav C8 [1,1,1,1,0,1,0,0,1,0,1,1,1,0,0,1,1,0,0,1,1,0,0,1,1]) (by kernel_rfl) ?_;refine sd (o:=.tmp 45) (c1:=nav C8 [1,1,1,1,0,1,0,0,1,0,1,1,1,0,0,1,1,0,0,1,1,0,0,1,0,0]) (c2:=nav C8 [1,1,1,1,0,1,0,0,1,0,1,1,1,0,0,1,1,0,0,1,1,0,0,1,0,1]) (by kernel_rfl) (hs.bool (k:=.fr) rfl) (λht=>Qd (by kernel_rfl) ?_) (λhf=>lg (i:=6) (by kernel_rfl) ?_)
 .have hlt:j<l.length:=by
   have:=of_decide_eq_true (show decide ((j:Int)<ba .time l)=true from ht);unfold ba at this;omega
  have hrd:rd .time l j=l[j]:=by
   unfold rd;rw[List.getD_eq_getElem?_getD,show(j:Int).toNat=j from rfl,List.getElem?_eq_getElem hlt];rfl
  have htake:l.take (j+1)=l.take j++[rd .time l j]:=by rw[List.take_succ_eq_append_getElem hlt,hrd]
  have hokt:Fa (rd .time l j)=true:=by rw[hrd];exact hl _ (List.getElem_mem hlt)
  have hkj:=dW (l.take j) s (S,b) hS;have hnext:jc (l.take (j+1)) s (S,b)=Vf (jc (l.take j) s (S,b)) (nb s (rd .time l j)):=by rw[List.take_succ_eq_append_getElem hlt,Max,<-hrd]
  generalize jc (l.take j) s (S,b)=st at hs hkj hnext;generalize htt:rd .time l j=t at hnext hokt
  have hend:∀ {a:Act}{w:World},MS (N8 r) B [] W0 F0 [(r,Sa (jc (l.take (j+1)) s (S,b)).1)] (EJ l (jc (l.take (j+1)) s (S,b)).2 i s j) a w->(nav C8 [1,1,1,1,0,1,0,0,1,0,1,1,1,0,0,1,1,0,0,1,1,0,0,1,1,1]).wp Tryz.prog (λe a' w'=>Exit.then (λa' w'=>∃s',l.length - s'<l.length - j/\(s'<=l.length/\MS (N8 r) B [] W0 F0 [(r,Sa (jc (l.take s') s (S,b)).1)] (EJ l (jc (l.take s') s (S,b)).2 i s s') a' w')) (Exit.inBlock 6 Q) e a' w') a w:=λhs=>by
   refine MS.regC g0 (keep:=[8,9,11,36,37,38,42,43,44]) (e':=EJ l (jc (l.take (j+1)) s (S,b)).2 i s (ar .add .i64 j 1)) (ps:=[]) (by kernel_rfl) trivial hs (λa w hs=>?_);refine⟨j+1,by omega,by omega,?_⟩;rw[Eh (by omega) (by omega)]at hs;exact hs
  show(nav C8 [1,1,1,1,0,1,0,0,1,0,1,1,1,0,0,1,1,0,0,1,1,0,0,1,1]).wp _ _ a w;refine ra (c1:=nav C8 [1,1,1,1,0,1,0,0,1,0,1,1,1,0,0,1,1,0,0,1,1,0,0,1,1,0]) (c2:=nav C8 [1,1,1,1,0,1,0,0,1,0,1,1,1,0,0,1,1,0,0,1,1,0,0,1,1,1]) (by kernel_rfl) ?_;refine Tc (c1:=nav C8 [1,1,1,1,0,1,0,0,1,0,1,1,1,0,0,1,1,0,0,1,1,0,0,1,1,0,0]) (id:=7) (by kernel_rfl) ?_;refine ra (c1:=nav C8 [1,1,1,1,0,1,0,0,1,0,1,1,1,0,0,1,1,0,0,1,1,0,0,1,1,0,0,0]) (c2:=nav C8 [1,1,1,1,0,1,0,0,1,0,1,1,1,0,0,1,1,0,0,1,1,0,0,1,1,0,0,1]) (by kernel_rfl) ?_;refine MS.regC g0 (keep:=[13,8,9,11,36,37,38,42,43,44]) (e':=(13,yn (rd .time l j))::EJ l st.2 i s j) (ps:=[inb j (ba .time l)]) (by kernel_rfl) ⟨⟨by omega,by unfold ba;omega⟩,trivial⟩ hs (λa w hs=>?_);rw[htt]at hs;show(nav C8 [1,1,1,1,0,1,0,0,1,0,1,1,1,0,0,1,1,0,0,1,1,0,0,1,1,0,0,1]).wp _ _ a w;refine ra (c1:=nav C8 [1,1,1,1,0,1,0,0,1,0,1,1,1,0,0,1,1,0,0,1,1,0,0,1,1,0,0,1,0]) (c2:=nav C8 [1,1,1,1,0,1,0,0,1,0,1,1,1,0,0,1,1,0,0,1,1,0,0,1,1,0,0,1,1]) (by kernel_rfl) ?_;refine MS.regC g2 (keep:=[14,8,9,11,36,37,38,42,43,44]) (e':=(14,yn (It s t))::EJ l st.2 i s j) (ps:=[Jt s t]) (by kernel_rfl) ⟨(nM hs0 hokt).1,trivial⟩ hs (λa w hs=>?_);rw[(nM hs0 hokt).2]at hs;show(nav C8 [1,1,1,1,0,1,0,0,1,0,1,1,1,0,0,1,1,0,0,1,1,0,0,1,1,0,0,1,1]).wp _ _ a w;refine ra (c1:=nav C8 [1,1,1,1,0,1,0,0,1,0,1,1,1,0,0,1,1,0,0,1,1,0,0,1,1,0,0,1,1,0]) (c2:=nav C8 [1,1,1,1,0,1,0,0,1,0,1,1,1,0,0,1,1,0,0,1,1,0,0,1,1,0,0,1,1,1]) (by kernel_rfl) ?_;refine Jax (S:=st.1) hkj (l:=l) (b:=st.2) (i:=i) (j:=j) (s:=s) (t:=nb s t) hs (λa w hs=>?_);show(nav C8 [1,1,1,1,0,1,0,0,1,0,1,1,1,0,0,1,1,0,0,1,1,0,0,1,1,0,0,1,1,1]).wp _ _ a w;refine sd (o:=.tmp 54) (c1:=nav C8 [1,1,1,1,0,1,0,0,1,0,1,1,1,0,0,1,1,0,0,1,1,0,0,1,1,0,0,1,1,1,0]) (c2:=nav C8 [1,1,1,1,0,1,0,0,1,0,1,1,1,0,0,1,1,0,0,1,1,0,0,1,1,0,0,1,1,1,1]) (by kernel_rfl) (hs.bool (k:=.fr) rfl) (λht=>?_) (λhf=>Qd (by kernel_rfl) ?_)
  .have hm:¬ tK (nb s t)∈st.1:=by simpa using ht
   have hs2:=hs.weak (Aa.cast (e':=EK l st.2 i s j (nb s t)) (pat:=[(14,.same),(8,.same),(9,.same),(11,.same),(36,.same),(37,.same),(38,.same),(42,.same),(43,.same),(44,.same)]) (by kernel_rfl) (by kernel_rfl));refine ra (c1:=nav C8 [1,1,1,1,0,1,0,0,1,0,1,1,1,0,0,1,1,0,0,1,1,0,0,1,1,0,0,1,1,1,0,0]) (c2:=nav C8 [1,1,1,1,0,1,0,0,1,0,1,1,1,0,0,1,1,0,0,1,1,0,0,1,1,0,0,1,1,1,0,1]) (by kernel_rfl) ?_;refine Lax (S:=st.1) hkj (l:=l) (b:=st.2) (i:=i) (j:=j) (s:=s) (t:=nb s t) hs2 (λa w hs=>?_);show(nav C8 [1,1,1,1,0,1,0,0,1,0,1,1,1,0,0,1,1,0,0,1,1,0,0,1,1,0,0,1,1,1,0,1]).wp _ _ a w;refine MS.regC g0 (keep:=[8,9,11,36,37,38,42,43,44]) (e':=EJ l true i s j) (ps:=[]) (by kernel_rfl) trivial hs (λa w hs=>?_);refine hend ?_;rw[hnext];unfold Vf;rw[if_neg hm];unfold Jd at hs;rw[if_neg hm]at hs;exact hs
  .have hm:tK (nb s t)∈st.1:=by simpa using hf
   refine hend ?_;rw[hnext];unfold Vf;rw[if_pos hm];exact hs.weak (Aa.cast (pat:=[(8,.same),(9,.same),(11,.same),(36,.same),(37,.same),(38,.same),(42,.same),(43,.same),(44,.same)]) (by kernel_rfl) (by kernel_rfl))
 .have hge:l.length<=j:=by
   have:=of_decide_eq_false (show decide ((j:Int)<ba .time l)=false from hf);unfold ba at this;omega
  show Exit.inBlock 6 Q (.exit 6) a w;simp only[Exit.inBlock,if_true];refine hQ a w ?_;rw[List.take_of_length_le hge]at hs;exact hs.weak (Aa.cast (pat:=[(8,.same),(9,.same),(36,.same),(37,.same),(38,.same)]) (by kernel_rfl) (by kernel_rfl))
set_option maxRecDepth 20000 in
theorem Sax{Q:Exit->Act->World->Prop}{B:Nat}{W0:World}{F0:Fz}{r:Nat}{S:za}(hS:ic 2 S){l:List Time}(hlen:l.length<=64)(hl:∀t∈l,Fa t=true){b:Bool}{a:Act}{w:World}(hs:MS (N8 r) B [] W0 F0 [(r,Sa S)] (EI l b 0) a w)
  (hQ:∀a w,MS (N8 r) B [] W0 F0 [(r,Sa (Je l l (S,b)).1)] [(8,.v .fr (.bool (Je l l (S,b)).2))] a w->Q .normal a w):(nav C8 [1,1,1,1,0,1,0,0,1,0,1,1,1]).wp Tryz.prog Q a w:=by
 refine Tc (c1:=nav C8 [1,1,1,1,0,1,0,0,1,0,1,1,1,0]) (id:=4) (by kernel_rfl) ?_;rw[show nav C8 [1,1,1,1,0,1,0,0,1,0,1,1,1,0]=.loop (nav C8 [1,1,1,1,0,1,0,0,1,0,1,1,1,0,0]) by kernel_rfl];refine We (σ:=Nat) (λi a w=>i<=l.length/\MS (N8 r) B [] W0 F0 [(r,Sa (Je l (l.take i) (S,b)).1)] (EI l (Je l (l.take i) (S,b)).2 i) a w) (λi=>l.length - i) ?_ 0 ⟨Nat.zero_le _,hs⟩;rintro i a w ⟨hi,hs⟩;refine ra (c1:=nav C8 [1,1,1,1,0,1,0,0,1,0,1,1,1,0,0,0]) (c2:=nav C8 [1,1,1,1,0,1,0,0,1,0,1,1,1,0,0,1]) (by kernel_rfl) ?_;refine MS.regC g0 (keep:=[8,9,36,37,38,39]) (e':=[(8,.v .fr (.bool (Je l (l.take i) (S,b)).2)),(9,TL l),(36,TL l),(37,.v .fr (.int .i64 (ba .time l))),(38,.v .fr (.int .i64 i)),(39,.v .fr (.bool (cmp .lss i (ba .time l))))]) (ps:=[]) (by kernel_rfl) trivial hs (λa w hs=>?_);show(nav C8 [1,1,1,1,0,1,0,0,1,0,1,1,1,0,0,1]).wp _ _ a w;refine ra (c1:=nav C8 [1,1,1,1,0,1,0,0,1,0,1,1,1,0,0,1,0]) (c2:=nav C8 [1,1,1,1,0,1,0,0,1,0,1,1,1,0,0,1,1]) (by kernel_rfl) ?_;refine sd (o:=.tmp 39) (c1:=nav C8 [1,1,1,1,0,1,0,0,1,0,1,1,1,0,0,1,0,0]) (c2:=nav C8 [1,1,1,1,0,1,0,0,1,0,1,1,1,0,0,1,0,1]) (by kernel_rfl) (hs.bool (k:=.fr) rfl) (λht=>Qd (by kernel_rfl) ?_) (λhf=>lg (i:=4) (by kernel_rfl) ?_)
 .have hlt:i<l.length:=by
   have:=of_decide_eq_true (show decide ((i:Int)<ba .time l)=true from ht);unfold ba at this;omega
  have hrd:rd .time l i=l[i]:=by
   unfold rd;rw[List.getD_eq_getElem?_getD,show(i:Int).toNat=i from rfl,List.getElem?_eq_getElem hlt];rfl
  have hokt:Fa (rd .time l i)=true:=by rw[hrd];exact hl _ (List.getElem_mem hlt)
  have hki:=yaf l (l.take i) (S,b) hS;have hnext:Je l (l.take (i+1)) (S,b)=jc l (rd .time l i) (Je l (l.take i) (S,b)):=by rw[List.take_succ_eq_append_getElem hlt,Nax,<-hrd]
  generalize Je l (l.take i) (S,b)=st at hs hki hnext;generalize htt:rd .time l i=s at hnext hokt;show(nav C8 [1,1,1,1,0,1,0,0,1,0,1,1,1,0,0,1,1]).wp _ _ a w;refine ra (c1:=nav C8 [1,1,1,1,0,1,0,0,1,0,1,1,1,0,0,1,1,0]) (c2:=nav C8 [1,1,1,1,0,1,0,0,1,0,1,1,1,0,0,1,1,1]) (by kernel_rfl) ?_;refine Tc (c1:=nav C8 [1,1,1,1,0,1,0,0,1,0,1,1,1,0,0,1,1,0,0]) (id:=5) (by kernel_rfl) ?_;refine ra (c1:=nav C8 [1,1,1,1,0,1,0,0,1,0,1,1,1,0,0,1,1,0,0,0]) (c2:=nav C8 [1,1,1,1,0,1,0,0,1,0,1,1,1,0,0,1,1,0,0,1]) (by kernel_rfl) ?_;refine MS.regC g0 (keep:=[8,9,11,36,37,38]) (e':=[(8,.v .fr (.bool st.2)),(9,TL l),(11,yn (rd .time l i)),(36,TL l),(37,.v .fr (.int .i64 (ba .time l))),(38,.v .fr (.int .i64 i))]) (ps:=[inb i (ba .time l)]) (by kernel_rfl) ⟨⟨by omega,by unfold ba;omega⟩,trivial⟩ hs (λa w hs=>?_);rw[htt]at hs;show(nav C8 [1,1,1,1,0,1,0,0,1,0,1,1,1,0,0,1,1,0,0,1]).wp _ _ a w;refine ra (c1:=nav C8 [1,1,1,1,0,1,0,0,1,0,1,1,1,0,0,1,1,0,0,1,0]) (c2:=nav C8 [1,1,1,1,0,1,0,0,1,0,1,1,1,0,0,1,1,0,0,1,1]) (by kernel_rfl) ?_;refine MS.regC g0 (keep:=[8,9,11,36,37,38,42,43,44]) (e':=EJ l st.2 i s 0) (ps:=[]) (by kernel_rfl) trivial hs (λa w hs=>?_);refine Rax (S:=st.1) hki hlen hl hokt hs (λa w hs=>?_);show(nav C8 [1,1,1,1,0,1,0,0,1,0,1,1,1,0,0,1,1,1]).wp _ _ a w;have hs:MS (N8 r) B [] W0 F0 [(r,Sa (jc l s st).1)] (EI l (jc l s st).2 i) a w:=hs;refine MS.regC g0 (keep:=[8,9,36,37,38]) (e':=EI l (jc l s st).2 (ar .add .i64 i 1)) (ps:=[]) (by kernel_rfl) trivial hs (λa w hs=>?_);refine⟨i+1,by omega,by omega,?_⟩;rw[Eh (by omega) (by omega)]at hs;rw[hnext];exact hs
 .have hge:l.length<=i:=by
   have:=of_decide_eq_false (show decide ((i:Int)<ba .time l)=false from hf);unfold ba at this;omega
  show Exit.inBlock 4 Q (.exit 4) a w;simp only[Exit.inBlock,if_true];refine hQ a w ?_;rw[List.take_of_length_le hge]at hs;exact hs.weak (Aa.cast (pat:=[(8,.same)]) (by kernel_rfl) (by kernel_rfl))
set_option maxRecDepth 20000 in
theorem Tax{Q:Exit->Act->World->Prop}{B:Nat}{W0:World}{F0:Fz}{r:Nat}{S:za}(hS:ic 2 S){a:Act}{w:World}(hs:MS (N8 r) B [] W0 F0 [(r,Sa S)] [(8,.v .fr (.bool false))] a w)
  (hQ:∀a w,MS (N8 r) B [] W0 F0 [(r,Sa S)] [(8,.v .fr (.bool false)),(9,TL (Rb S))] a w->Q .normal a w):(nav C8 [1,1,1,1,0,1,0,0,1,0,1,0]).wp Tryz.prog Q a w:=by
 obtain⟨p0,d0,g0',p1,d1,g1',d2,g2',hsz,a0,a1,a2⟩:=Cax;refine Kc (by kernel_rfl) hsz ?_;rw[wpOps_cons];refine ya a0 g0' ?_;refine Ua (Be p0) ?_;rw[d0,wpOps_cons,hs.k (s:=5) (v:=.map (some r)) (by simp)];have h1:=hs.val (d:=34) (by kernel_rfl) (v:=.map (some r)) (av:=.dead) rfl (λ_ _=>trivial);refine ya a1 g1' ?_;refine xaf h1 hS (r:=r) (by simp) p1 (h1.k (s:=34) (v:=.map (some r)) (by simp)) d1 (by kernel_rfl) (λv w' h2=>?_);rw[wpOps_cons];refine ya a2 g2' ?_;refine h2.stepF g0 (ops:=opsOf (nav C8 [1,1,1,1,0,1,0,0,1,0,1,0])) (e':=[(9,TL (Rb S)),(35,TL (Rb S)),(34,.dead),(8,.v .fr (.bool false))]) (ps:=[]) g2' (by kernel_rfl) trivial (λd h=>by rw[d2]at h;cases h;kernel_rfl) (λa3 w3 h3=>?_);refine uc _ (hQ _ _ ?_);exact(h3.weak (Aa.cast (pat:=[(8,.same),(9,.same)]) (by kernel_rfl) (by kernel_rfl))).forget rfl rfl (λp hp=>by simp at hp⊢;simp[hp]) (λp hp=>hp)
set_option maxRecDepth 20000 in
theorem Uax{Q:Exit->Act->World->Prop}{B:Nat}{W0:World}{F0:Fz}{r:Nat}{S:za}(hS:ic 2 S){a:Act}{w:World}(hs:MS (N8 r) B [] W0 F0 [(r,Sa S)] [] a w)
  (hQ:∀a w,MS (N8 r) B [] W0 F0 [(r,Sa S)] [(4,TL (Rb S))] a w->Q .normal a w):(nav C8 [1,1,1,1,1,0]).wp Tryz.prog Q a w:=by
 obtain⟨p0,d0,g0',p1,d1,g1',d2,g2',hsz,a0,a1,a2⟩:=Dax;refine Kc (by kernel_rfl) hsz ?_;rw[wpOps_cons];refine ya a0 g0' ?_;refine Ua (Be p0) ?_;rw[d0,wpOps_cons,hs.k (s:=5) (v:=.map (some r)) (by simp)];have h1:=hs.val (d:=59) (by kernel_rfl) (v:=.map (some r)) (av:=.dead) rfl (λ_ _=>trivial);refine ya a1 g1' ?_;refine xaf h1 hS (r:=r) (by simp) p1 (h1.k (s:=59) (v:=.map (some r)) (by simp)) d1 (by kernel_rfl) (λv w' h2=>?_);rw[wpOps_cons];refine ya a2 g2' ?_;refine h2.stepF g0 (ops:=opsOf (nav C8 [1,1,1,1,1,0])) (e':=[(4,TL (Rb S)),(60,TL (Rb S)),(59,.dead)]) (ps:=[]) g2' (by kernel_rfl) trivial (λd h=>by rw[d2]at h;cases h;kernel_rfl) (λa3 w3 h3=>?_);refine uc _ (hQ _ _ ?_);exact(h3.weak (Aa.cast (pat:=[(4,.same)]) (by kernel_rfl) (by kernel_rfl))).forget rfl rfl (λp hp=>by simp at hp⊢;simp[hp]) (λp hp=>hp)
theorem Vax(S:za):(Rb S).length<=64:=bW S 8
set_option maxRecDepth 20000 in
theorem Wax{xs:List Row}{k:Int}{Q:Exit->Act->World->Prop}{B:Nat}{W0:World}{F0:Fz}{r:Nat}{S:za}(hS:GoodS xs k S)(hH:jv xs k S){a:Act}{w:World}(hs:MS (N8 r) B [] W0 F0 [(r,Sa S)] [(8,.v .fr (.bool true))] a w)
  (hQ:∀S a w,GoodS xs k S->jv xs k S->gW S->MS (N8 r) B [] W0 F0 [(r,Sa S)] [] a w->Q .normal a w):(nav C8 [1,1,1,1,0,1]).wp Tryz.prog Q a w:=by
 have hkd:∀ {S:za},GoodS xs k S->ic 2 S:=λh p hp=>by obtain⟨t,rfl,_⟩:=h p hp;rfl
 refine Tc (c1:=nav C8 [1,1,1,1,0,1,0]) (id:=2) (by kernel_rfl) ?_;rw[show nav C8 [1,1,1,1,0,1,0]=.loop (nav C8 [1,1,1,1,0,1,0,0]) by kernel_rfl];refine We (σ:=za×Bool) (λst a w=>(GoodS xs k st.1/\jv xs k st.1/\(st.2=false->gW st.1))/\MS (N8 r) B [] W0 F0 [(r,Sa st.1)] [(8,.v .fr (.bool st.2))] a w) (λst=>2*mu st.1+st.2.toNat) ?_ (S,true) ⟨⟨hS,hH,λh=>by cases h⟩,hs⟩;rintro⟨S,b⟩ a w ⟨⟨hS,hH,hC⟩,hs⟩;refine ra (c1:=nav C8 [1,1,1,1,0,1,0,0,0]) (c2:=nav C8 [1,1,1,1,0,1,0,0,1]) (by kernel_rfl) ?_;refine ra (c1:=nav C8 [1,1,1,1,0,1,0,0,0,0]) (c2:=nav C8 [1,1,1,1,0,1,0,0,0,1]) (by kernel_rfl) ?_;refine MS.regC g0 (keep:=[33]) (e':=[(33,.v .fr (.bool b))]) (ps:=[]) (by kernel_rfl) trivial hs (λa w hs=>?_);show(nav C8 [1,1,1,1,0,1,0,0,0,1]).wp _ _ a w;refine sd (o:=.tmp 33) (c1:=nav C8 [1,1,1,1,0,1,0,0,0,1,0]) (c2:=nav C8 [1,1,1,1,0,1,0,0,0,1,1]) (by kernel_rfl) (hs.bool (k:=.fr) rfl) (λht=>Qd (by kernel_rfl) ?_) (λhf=>lg (i:=2) (by kernel_rfl) ?_)
 .subst ht;show(nav C8 [1,1,1,1,0,1,0,0,1]).wp _ _ a w;refine Tc (c1:=nav C8 [1,1,1,1,0,1,0,0,1,0]) (id:=3) (by kernel_rfl) ?_;refine ra (c1:=nav C8 [1,1,1,1,0,1,0,0,1,0,0]) (c2:=nav C8 [1,1,1,1,0,1,0,0,1,0,1]) (by kernel_rfl) ?_;refine MS.regC g0 (keep:=[8]) (e':=[(8,.v .fr (.bool false))]) (ps:=[]) (by kernel_rfl) trivial hs (λa w hs=>?_);show(nav C8 [1,1,1,1,0,1,0,0,1,0,1]).wp _ _ a w;refine ra (c1:=nav C8 [1,1,1,1,0,1,0,0,1,0,1,0]) (c2:=nav C8 [1,1,1,1,0,1,0,0,1,0,1,1]) (by kernel_rfl) ?_;refine Tax (hkd hS) hs (λa w hs=>?_);show(nav C8 [1,1,1,1,0,1,0,0,1,0,1,1]).wp _ _ a w;refine ra (c1:=nav C8 [1,1,1,1,0,1,0,0,1,0,1,1,0]) (c2:=nav C8 [1,1,1,1,0,1,0,0,1,0,1,1,1]) (by kernel_rfl) ?_;refine MS.regC g0 (keep:=[8,9,36,37,38]) (e':=EI (Rb S) false 0) (ps:=[]) (by kernel_rfl) trivial hs (λa w hs=>?_);refine Sax (hkd hS) (Vax S) (λt ht=>(fW.1 ht).2) hs (λa w hs=>?_);have hs:MS (N8 r) B [] W0 F0 [(r,Sa (rnd S).1)] [(8,.v .fr (.bool (rnd S).2))] a w:=hs;have hI:=Pax (S:=S) hS;refine⟨rnd S,?_,⟨hI.good,λx hx hk=>hI.sub _ (hH x hx hk),λhf=>?_⟩,hs⟩
  .show 2*mu (rnd S).1+(rnd S).2.toNat<2*mu S+true.toNat;cases hb:(rnd S).2 with
   |true=>
    have:=hI.less hb;simp only[Bool.toNat_true];omega
   |false=>
    rw[(hI.same hb).1];simp
  .obtain⟨e,h2⟩:=hI.same hf;intro s t hs ht;rw[e]at hs ht⊢;exact h2 s t ⟨hs,ht⟩
 .subst hf;show Exit.inBlock 2 Q (.exit 2) a w;simp only[Exit.inBlock,if_true];exact hQ S a w hS hH (hC rfl) (hs.weak (Aa.cast (pat:=[]) (by kernel_rfl) (by kernel_rfl)))
end Tg
open Tg in
set_option maxRecDepth 20000 in
theorem Xax:Con Tryz.prog 136 eaf:=by
 refine jo ttF (fn:=Tryz.f136) (c:=C8) (by kernel_rfl) (by kernel_rfl) (by kernel_rfl) (rs:=[.tmp 4]) (by kernel_rfl) (by kernel_rfl) (λ_=>rfl) ?_;intro x hx fr hfB hfL hIO a w hs;obtain⟨B,IoB,W0,F0⟩:=fr;have hIO:IoB=[]:=hIO rfl;subst hIO;obtain⟨xs,kk,u⟩:=x;have hx:xs.length<=1000000:=hx;obtain⟨q1,q2⟩:=rZ xs (by omega);have hms:MS ⟨61,none,[]⟩ B [] W0 F0 [] [(0,.v .sh (.lst .row xs)),(1,.v .fr (.int .i64 kk))] a w:=(MS.of hs hfB).forget (by kernel_rfl) rfl (λp h=>by cases h) (λp h=>by cases h);refine ra (c1:=nav C8 [0]) (c2:=nav C8 [1]) (by kernel_rfl) ?_;refine MS.regC g1 (keep:=[0,1]) (e':=[(0,.v .sh (.lst .row xs)),(1,.v .fr (.int .i64 kk))]) (ps:=[]) (by kernel_rfl) trivial hms (λa w hs=>?_);show(nav C8 [1]).wp _ _ a w;refine ra (c1:=nav C8 [1,0]) (c2:=nav C8 [1,1]) (by kernel_rfl) ?_;refine ra (c1:=nav C8 [1,0,0]) (c2:=nav C8 [1,0,1]) (by kernel_rfl) ?_;refine MS.regC g1 (keep:=[0,1,17]) (e':=[(0,.v .sh (.lst .row xs)),(1,.v .fr (.int .i64 kk)),(17,.v .fr (.bool (!(qt xs))))]) (ps:=[ut xs]) (by kernel_rfl) ⟨q1,trivial⟩ hs (λa w hs=>?_);show(nav C8 [1,0,1]).wp _ _ a w;refine sd (o:=.tmp 17) (c1:=nav C8 [1,0,1,0]) (c2:=nav C8 [1,0,1,1]) (by kernel_rfl) (hs.bool (k:=.fr) rfl) (λht=>?_) (λhf=>Qd (by kernel_rfl) ?_)
 .have hro:¬ Jb xs=true:=by
   intro h;rw[q2,h]at ht;cases ht
  refine ra (c1:=nav C8 [1,0,1,0,0]) (c2:=nav C8 [1,0,1,0,1]) (by kernel_rfl) ?_;refine MS.regC g1 (keep:=[4]) (e':=[(4,.v .fr (.nl .time))]) (ps:=[]) (by kernel_rfl) trivial hs (λa w hs=>?_);refine Ji (by kernel_rfl) ?_;refine⟨[(4,.v .fr (.nl .time))],?_,?_⟩
  .exact (hs.forget (N':=⟨(Tryz.f136).ntmps,none,[]⟩) (obs':=[]) (by kernel_rfl) rfl (λp h=>by cases h) (λp h=>by cases h)).to
  .have hv:ib xs kk=[]:=by unfold ib;rw[if_neg hro]
   refine⟨?_,trivial⟩;show _=some (RT.av (.one .fr (.lst .time)) (ib xs kk));rw[hv];rfl
 have hro:Jb xs=true:=by
  rw[q2]at hf;cases h:Jb xs with
  |true=>rfl
  |false=>rw[h]at hf;cases hf
 show(nav C8 [1,1]).wp _ _ a w;refine ra (c1:=nav C8 [1,1,0]) (c2:=nav C8 [1,1,1]) (by kernel_rfl) ?_;obtain⟨p0,d0,g0',p1,d1,g1',hsz,a0,a1⟩:=ops3;refine Kc (by kernel_rfl) hsz ?_;rw[wpOps_cons];refine ya a0 g0' ?_;refine Ua (TK p0) ?_;rw[d0,wpOps_cons];have h1:=hs.alloc (d:=18) (by kernel_rfl) (v:=.map (some w.heap.size)) (o:=.map #[] 0) rfl;refine ya a1 g1' ?_;refine Ua (pw p1) ?_;rw[d1,h1.k (s:=18) (v:=.map (some w.heap.size)) (by simp)];have h2:=h1.val (d:=5) (by kernel_rfl) (v:=.map (some w.heap.size)) (av:=.dead) rfl (λ_ _=>trivial);have h3:MS (N8 w.heap.size) B [] W0 F0 [(w.heap.size,Sa [])] [(0,.v .sh (.lst .row xs)),(1,.v .fr (.int .i64 kk))] _ _:=(h2.weak (Aa.cast (pat:=[(0,.same),(1,.same)]) (by kernel_rfl) (by kernel_rfl))).forget rfl rfl (λp hp=>by simp at hp⊢;simp[hp]) (λp hp=>hp);generalize w.heap.size=r at h3;clear h1 h2;refine uc _ ?_;show(nav C8 [1,1,1]).wp _ _ _ _;generalize w.alloc (.map #[] 0)=w1 at h3⊢;generalize (a.put (some 18) _).put (some 5) _=a1 at h3⊢;refine ra (c1:=nav C8 [1,1,1,0]) (c2:=nav C8 [1,1,1,1]) (by kernel_rfl) ?_;refine ra (c1:=nav C8 [1,1,1,0,0]) (c2:=nav C8 [1,1,1,0,1]) (by kernel_rfl) ?_;refine MS.regC Tg.g0 (keep:=[1,19,20,21]) (e':=EA xs kk 0) (ps:=[]) (by kernel_rfl) trivial h3 (λa w hs=>?_);refine loopA hx hs (λa w hs=>?_)
 have hG:GoodS xs kk (te kk xs []):=λp hp=>by
  rcases (iW kk xs [] p).1 hp with h|⟨y,h1,h2,h3⟩
  .cases h
  .exact⟨y.At,h3,Mf ((gb hro).2 y h1),faf h1 h2⟩
 have hH:jv xs kk (te kk xs []):=λy h1 h2=>(iW kk xs [] _).2 (.inr ⟨y,h1,h2,rfl⟩);show(nav C8 [1,1,1,1]).wp _ _ a w;refine ra (c1:=nav C8 [1,1,1,1,0]) (c2:=nav C8 [1,1,1,1,1]) (by kernel_rfl) ?_;refine ra (c1:=nav C8 [1,1,1,1,0,0]) (c2:=nav C8 [1,1,1,1,0,1]) (by kernel_rfl) ?_;refine MS.regC Tg.g0 (keep:=[8]) (e':=[(8,.v .fr (.bool true))]) (ps:=[]) (by kernel_rfl) trivial hs (λa w hs=>?_);refine Wax hG hH hs (λS a w hG hH hC hs=>?_);show(nav C8 [1,1,1,1,1]).wp _ _ a w;refine ra (c1:=nav C8 [1,1,1,1,1,0]) (c2:=nav C8 [1,1,1,1,1,1]) (by kernel_rfl) ?_;refine Uax (λp hp=>by obtain⟨t,rfl,_⟩:=hG p hp;rfl) hs (λa w hs=>?_);show(nav C8 [1,1,1,1,1,1]).wp _ _ a w;refine Ji (by kernel_rfl) ?_;have hv:ib xs kk=Rb S:=by unfold ib;rw[if_pos hro,Qax hG hH hC]
 refine⟨[(4,TL (Rb S))],?_,?_⟩
 .exact (hs.forget (N':=⟨(Tryz.f136).ntmps,none,[]⟩) (obs':=[]) (by kernel_rfl) rfl (λp h=>by cases h) (λp h=>by cases h)).to
 .refine⟨?_,trivial⟩;show _=some (RT.av (.one .fr (.lst .time)) (ib xs kk));rw[hv];rfl
end Go.Proofs.YtiiidenbemkihaaGreat

namespace Go.Proofs.YtiiidenbemkihaaGreat
open Go Tg
theorem Canon.filter{s:List Item}(h:Canon s)(φ:Item->Bool):Canon (s.filter φ):=⟨h.1.sublist List.filter_sublist,λx hx=>h.2 x (List.mem_filter.1 hx).1⟩
theorem qaj(kind k:Int):fb kind k []=[]:=by
 unfold fb;split
 .rfl
 .split<;>rfl
def Rg(kind:Int)(s:List Item):List Item:=(List.range 4).flatMap λk:Nat=>fb kind k (s.filter λx=>decide (x.Key=k))
theorem Canon.append{s u:List Item}(hs:Canon s)(hu:Canon u)(h:∀x∈s,∀y∈u,x.Key<y.Key):Canon (s++u):=by
 refine⟨List.pairwise_append.2 ⟨hs.1,hu.1,λx hx y hy=>?_⟩,λx hx=>(List.mem_append.1 hx).elim (hs.2 x) (hu.2 x)⟩;have:=h x hx y hy;simp[kI,ltK,this]
theorem Vi(f:Nat->List Item):(List.range 4).flatMap f=f 0++(f 1++(f 2++(f 3++[]))):=rfl
end Go.Proofs.YtiiidenbemkihaaGreat

namespace Go.Proofs.YtiiidenbemkihaaGreat
open Go Tg
theorem Bai{a b m0:List Row}{x:Row}{n i:Int}(hb:Jb b=true)(hx:Db x=true)(hm0:m0.length<=160000) :
  Bac b m0 x a n i (ba .row b)/\Aac b m0 x a n i (ba .row b)=.x (m0++b.flatMap (oc x)):=by
 obtain⟨hl,hm⟩:=gb hb
 have k:ja (λs:LR×Int=>da (Hm b m0 x a n i (ba .row b) s.1 s.2)) (λs=>Mt b m0 x a n i (ba .row b) s.1 s.2) (m0,0) (.x (m0++b.flatMap (oc x))):=by
  refine ja.fold b (λi b=>(b,(i:Int))) (λl=>m0++l.flatMap (oc x)) (by simp) (λl y r hy=>?_) ?_
  .obtain⟨hlen,hrd,hin,hlss⟩:=Oa (t:=.row) hy;have hoy:=hm y (by rw[hy];simp);obtain⟨v1,v2⟩:=zai (tk hx).2 (tk hoy).2;obtain⟨t1,t2⟩:=nM (Mf hx) (Mf hoy);have hl1:=Iw x l;have hlim:∀z,lim (ba .row (m0++l.flatMap (oc x))) (ba .row [z]):=λz=>Ab (t:=.row) (show(m0++l.flatMap (oc x)).length<1099511627776 by rw[List.length_append];omega);simp only[Mt,Hm,Lt,UF,zac,yac,SF,Tr.val,Tr.ob,ga,hlss,hrd,Ia (l:=l) (by omega),v2,t2,xZ hx hoy,Bb];rw[AZ];by_cases hk:x.Key=y.Key
   .exact⟨by simp[hin,hlim,v1,t1],by simp[da,oc,hk]⟩
   .exact⟨by simp[hin,hlim,hk],by simp[da,oc,hk]⟩
  .have hend:cmp .lss (b.length:Int) (ba .row b)=false:=Ma (t:=.row);simp only[Mt,Hm,Lt,Tr.val,Tr.ob,hend];exact⟨by simp,rfl⟩
 exact⟨k.t,k.v⟩
theorem Xo{a b:List Row}(ha:a.length<=400)(hb:b.length<=400):(mc a b).length<=160000:=Nat.le_trans (yZ b a) (Nat.mul_le_mul ha hb)
theorem Cai{a b:List Row}(ha:Jb a=true)(hb:Jb b=true):dG a b/\cG a b=Nf (Pa (mc a b)):=by
 obtain⟨hl,hm⟩:=gb ha;obtain⟨hlb,hmb⟩:=gb hb
 have k:ja (λs:LR×Int=>da (Im b a (ba .row a) s.1 s.2)) (λs=>Ot b a (ba .row a) s.1 s.2) ([],0) (.x (mc a b)):=by
  refine ja.fold a (λi m=>(m,(i:Int))) (λl=>mc l b) rfl (λl x r hx=>?_) ?_
  .obtain⟨hlen,hrd,hin,hlss⟩:=Oa (t:=.row) hx;have hox:=hm x (by rw[hx];simp);obtain⟨c1,c2⟩:=Bai (a:=a) (n:=ba .row a) (i:=(l.length:Int)) hb hox (Xo (a:=l) (b:=b) (by omega) hlb);simp only[Ot,Im,Nt,XF,Dac,Cac,WF,VF,lpS,Tr.val,Tr.ob,ga,hlss,hrd,Ia (l:=l) (by omega),c2];rw[zZ];exact⟨by simp[hin,c1],rfl⟩
  .have hend:cmp .lss (a.length:Int) (ba .row a)=false:=Ma (t:=.row);simp only[Ot,Im,Nt,Tr.val,Tr.ob,hend];exact⟨by simp,rfl⟩
 have a2:Eac b a (ba .row a)=.x (mc a b):=k.v;have b2:Fac b a (ba .row a):=k.t;have hl2:=Xo (a:=a) (b:=b) hl hlb;obtain⟨q1,q2⟩:=Wo (xs:=mc a b) (by omega) λx hx=>(Nw hm hmb x hx).1;simp only[dG,cG,MT,JT,bG,aG,Hac,Gac,ZF,YF,lpS,Tr.val,Tr.ob,ga,a2,q2,ocR];exact⟨by simp[b2,q1],by unfold Nf;split<;>rfl⟩
theorem Dai{a b:List Row}(ha:Jb a=true)(hb:Jb b=true):oA a b/\nA a b=Pa (mc a b):=by
 obtain⟨hl,hm⟩:=gb ha;obtain⟨hlb,hmb⟩:=gb hb
 have k4:∀(l:List Row) (x:Row) (r m0:List Row),a=l++x::r->m0.length<=160000->ja (λs:LR×Int=>da (ol a b m0 (l.length:Int) s.1 s.2)) (λs=>Aq a b m0 (l.length:Int) s.1 s.2) (m0,0) (.x (m0++b.flatMap (oc x))):=by
  intro l x r m0 hx hm0;obtain⟨_,hrdx,hinx,_⟩:=Oa (t:=.row) hx;have hox:=hm x (by rw[hx];simp);generalize (l.length:Int)=i at hrdx hinx;refine ja.fold b (λi b=>(b,(i:Int))) (λl=>m0++l.flatMap (oc x)) (by simp) (λl y r hy=>?_) ?_
  .obtain⟨hlen,hrd,hin,hlss⟩:=Oa (t:=.row) hy;have hoy:=hmb y (by rw[hy];simp);obtain⟨v1,v2⟩:=Aai (tk hox).2 (tk hoy).2;obtain⟨t1,t2⟩:=wZ (Mf hox) (Mf hoy);have hl1:=Iw x l;have hlim:∀z,lim (ba .row (m0++l.flatMap (oc x))) (ba .row [z]):=λz=>Ab (t:=.row) (show(m0++l.flatMap (oc x)).length<1099511627776 by rw[List.length_append];omega);simp only[Aq,ol,zq,eA,H7,G7,cA,Tr.val,Tr.ob,ga,hlss,hrd,hrdx,Ia (l:=l) (by omega),v2,t2,xZ hox hoy,Bb];rw[AZ];by_cases hk:x.Key=y.Key
   .exact⟨by simp[hin,hinx,hlim,v1,t1],by simp[da,oc,hk]⟩
   .exact⟨by simp[hin,hinx,hlim,hk],by simp[da,oc,hk]⟩
  .have hend:cmp .lss (b.length:Int) (ba .row b)=false:=Ma (t:=.row);simp only[Aq,ol,zq,Tr.val,Tr.ob,hend];exact⟨by simp,rfl⟩
 have k:ja (λs:LR×Int=>da (ql a b s.1 s.2)) (λs=>Cq a b s.1 s.2) ([],0) (.x (mc a b)):=by
  refine ja.fold a (λi m=>(m,(i:Int))) (λl=>mc l b) rfl (λl x r hx=>?_) ?_
  .obtain⟨hlen,_,_,hlss⟩:=Oa (t:=.row) hx;have k:=k4 l x r (mc l b) hx (Xo (a:=l) (b:=b) (by omega) hlb);have c2:I7 a b (mc l b) (l.length:Int)=.x (mc l b++b.flatMap (oc x)):=k.v;have c1:J7 a b (mc l b) (l.length:Int):=k.t;simp only[Cq,ql,Bq,iA,O7,L7,gA,fA,lpS,Tr.val,Tr.ob,hlss,Ia (l:=l) (by omega),c2];rw[zZ];exact⟨by simp[c1],rfl⟩
  .have hend:cmp .lss (a.length:Int) (ba .row a)=false:=Ma (t:=.row);simp only[Cq,ql,Bq,Tr.val,Tr.ob,hend];exact⟨by simp,rfl⟩
 have a2:P7 a b=.x (mc a b):=k.v;have b2:Q7 a b:=k.t;have hl2:=Xo (a:=a) (b:=b) hl hlb;obtain⟨q1,q2⟩:=Pg (mc a b) (by omega) λx hx=>(Nw hm hmb x hx).1;simp only[oA,nA,lP,kP,mA,lA,T7,R7,kA,jA,lpS,Tr.val,Tr.ob,ga,a2,q2,ocR];exact⟨by simp[b2,q1],trivial⟩
end Go.Proofs.YtiiidenbemkihaaGreat

namespace Go.Proofs.YtiiidenbemkihaaGreat
open Go Tg
theorem Eai{a b:List Row}(ha:a.length<1000000000)(hb:b.length<1000000000):EF a b/\DF a b=a++b:=by
 simp only[EF,DF,qT,pT,CF,Tr.val,Tr.ob,ga,List.nil_append,ocR];refine⟨⟨⟨?_,?_,trivial⟩,trivial⟩,trivial⟩<;>simp only[lim,ba,List.length_nil]<;>omega
theorem oM{a:List Row}(ha:a.length<1000000000):Bm a/\Am a=a:=by
 simp only[Bm,Am,aT,ZS,nF,Tr.val,Tr.ob,ga,ocR];refine⟨⟨⟨⟨rfl,by simp only[ba];omega⟩,trivial⟩,trivial⟩,?_⟩;have h:Int.toNat (ba .row a)=a.length:=by simp[ba]
 rw[h,List.length_replicate,List.take_of_length_le (Nat.le_refl _),List.drop_of_length_le (by rw[List.length_replicate];exact Nat.le_refl _),List.append_nil]
theorem Fai{a:List Row}(hl:a.length<1000000):MF a/\LF a=Ya a:=by
 have k:ja (λs:LR×Int=>da (Fm a (ba .row a) s.1 s.2)) (λs=>Gt a (ba .row a) s.1 s.2) (a,0) (.x (Ya a)):=by
  refine ja.fold a (λi b=>(b,(i:Int))) (λl=>Ya l++a.drop l.length) (by simp[Ya]) (λl x r hx=>?_) ?_
  .have hlen:a.length=l.length+(r.length+1):=by rw[hx];simp
   have hd:a.drop l.length=x::r:=by rw[hx];simp
   have hd2:a.drop (l++[x]).length=r:=by rw[hx];simp
   have hnl:(Ya l).length=l.length:=by simp[Ya]
   have hrd:rd .row (Ya l++x::r) (l.length:Int)=x:=by rw[<-hnl];exact Ri
   have hin:inb (l.length:Int) (ba .row (Ya l++x::r)):=by rw[<-hnl];exact Si (t:=.row)
   have hlss:cmp .lss (l.length:Int) (ba .row a)=true:=by rw[hx];exact IL
   have hset:List.set (Ya l++x::r) (Int.toNat (l.length:Int)) (qg x)=Ya (l++[x])++r:=by
    rw[show Int.toNat (l.length:Int)=(Ya l).length by rw[hnl];rfl,List.set_append_right _ _ (Nat.le_refl _),Nat.sub_self];simp[Ya]
   simp only[hd,hd2,Gt,Fm,Ft,Tr.val,Tr.ob,ga,hlss,hrd,Ia (l:=l) (by omega)];refine⟨by simp[hin],?_⟩;show Lp.go (List.set (Ya l++x::r) (Int.toNat (l.length:Int)) (qg x),_)=_;rw[hset]
  .have hend:cmp .lss (a.length:Int) (ba .row a)=false:=Ma (t:=.row);simp only[Gt,Fm,Ft,Tr.val,Tr.ob,ga,hend];exact⟨by simp,by simp[da]⟩
 have a2:pac a (ba .row a)=.x (Ya a):=k.v;have b2:qac a (ba .row a):=k.t;have hlim:lim (ba .row ([]:List Row)) (ba .row a):=by simp only[lim,ba,List.length_nil];omega
 simp only[MF,LF,wT,vT,JF,IF,sac,rac,HF,GF,lpS,Tr.val,Tr.ob,ga,List.nil_append,a2,ocR];exact⟨by simp[b2,hlim],trivial⟩
theorem Gai{x y z:Row}(h1:Kf x y)(h2:Kf y z):Kf x z:=Ig h1 h2
theorem BZ:∀(xs:List Row) (y:Option Row),ub Td y xs=true->xs.Pairwise Kf/\(∀x∈xs,x.Diff≠0)/\∀z,y=some z->∀x∈xs,Kf z x
 |[],_,_=>⟨.nil,by simp,by simp⟩
 |x::r,y,h=>by
  simp only[ub,Bool.and_eq_true,Bool.not_eq_true']at h;obtain⟨h1,h2,h3⟩:=BZ r (some x) h.2
  have hx:x.Diff≠0:=by
   have:=h.1;cases y<;>simp[Td]at this
   .exact this
   .exact this.1
  refine⟨List.pairwise_cons.2 ⟨h3 x rfl,h1⟩,λz hz=>?_,λz hz w hw=>?_⟩
  .rcases List.mem_cons.1 hz with rfl|hz
   .exact hx
   .exact h2 z hz
  .subst hz
   have hzx:Kf z x:=by
    have:=h.1;simp[Td]at this;exact this.2
   rcases List.mem_cons.1 hw with rfl|hw
   .exact hzx
   .exact Gai hzx (h3 x rfl w hw)
theorem CZ{xs:List Row}(h1:xs.Pairwise Kf)(h2:∀x∈xs,x.Diff≠0/\InR x.Diff):Pa xs=xs:=by
 have h3:tc (chR xs)=chR xs:=laj (n:=4) (List.pairwise_map.2 h1) (Lo xs) λp hp=>by
  obtain⟨x,hx,rfl⟩:=List.mem_map.1 hp;exact h2 x hx
 unfold Pa;rw[h3,Zah]
theorem Yo{xs:List Row}(h:Ga xs=true):xs.Pairwise Kf/\(∀x∈xs,x.Diff≠0)/\∀x∈xs,Db x=true:=by
 simp only[Ga,Bool.and_eq_true]at h;obtain⟨h1,h2,_⟩:=BZ xs none h.1;exact⟨h1,h2,(gb h.2).2⟩
theorem DZ{xs:List Row}(h:Ga xs=true):Pa xs=xs:=by
 obtain⟨h1,h2,h3⟩:=Yo h;exact CZ h1 λx hx=>⟨h2 x hx,Oe (h3 x hx)⟩
theorem EZ{x:Row}(h:Db x=true)(_h0:x.Diff≠0):Db (qg x)=true/\(qg x).Diff=-x.Diff:=by
 simp only[Db,decide_eq_true_eq]at h;have e:IntKind.wrap .i64 (0 - x.Diff)=-x.Diff:=by rw[UL (by unfold InR;omega)];omega
 refine⟨?_,e⟩;simp only[Db,qg,e,decide_eq_true_eq];omega
theorem FZ{xs:List Row}(h:Ga xs=true):Ga (Ya xs)=true:=by
 obtain⟨h1,h2,h3⟩:=Yo h;have hr:=(gb (oe h)).1
 have hp:(Ya xs).Pairwise Kf:=by
  unfold Ya;rw[List.pairwise_map];exact h1
 unfold Ga;rw[lM (Ya xs) none hp (λx hx=>?_) (λz hz=>by cases hz),Bool.true_and]
 .simp only[Jb,Bool.and_eq_true,decide_eq_true_eq,List.all_eq_true];refine⟨λx hx=>?_,by simpa [Ya] using hr⟩;obtain⟨y,hy,rfl⟩:=List.mem_map.1 hx;exact(EZ (h3 y hy) (h2 y hy)).1
 .obtain⟨y,hy,rfl⟩:=List.mem_map.1 hx;rw[(EZ (h3 y hy) (h2 y hy)).2];have:=h2 y hy;omega
theorem GZ(xs:List Row)(hl:xs.length<1000000000):uq xs/\tq xs=if Ga xs=true then xs else []:=by
 obtain⟨b1,b2⟩:=Vo xs hl;simp only[uq,tq,WO,VO,Uz,Tr.val,Tr.ob,ga,b2];cases Ga xs<;>simp[b1,ocR]
theorem HZ{a:List Row}(h:Ga a=true):yq a/\nj a=Ya a:=by
 have hr:=oe h;obtain⟨hl,hm⟩:=gb hr;obtain⟨r1,r2⟩:=Uo a (by omega);have hn:=FZ h
 have k:ja (λs:LR×Int=>da (ll a s.1 s.2)) (λs=>xq a s.1 s.2) ([],0) (.x (Ya a)):=by
  refine ja.fold a (λi b=>(b,(i:Int))) (λl=>Ya l) rfl (λl x r hx=>?_) ?_
  .obtain⟨hlen,hrd,hin,hlss⟩:=Oa (t:=.row) hx;have hnl:(Ya l).length=l.length:=by simp[Ya]
   have hlim:∀y,lim (ba .row (Ya l)) (ba .row [y]):=λy=>Ab (t:=.row) (show(Ya l).length<1099511627776 by omega);simp only[xq,ll,wq,Tr.val,Tr.ob,ga,hlss,hrd,r2,hr,Ia (l:=l) (by omega)];exact⟨by simp[hin,hlim,r1],by simp[da,Ya,qg]⟩
  .have hend:cmp .lss (a.length:Int) (ba .row a)=false:=Ma (t:=.row);simp only[xq,ll,wq,Tr.val,Tr.ob,ga,hend];exact⟨by simp,rfl⟩
 have a2:l7 a=.x (Ya a):=k.v;have b2:m7 a:=k.t;have hnl:(Ya a).length=a.length:=by simp[Ya]
 obtain⟨q1,q2⟩:=Pg (Ya a) (by omega) (vM a);rw[DZ hn]at q2;obtain⟨f1,f2⟩:=GZ (Ya a) (by omega);rw[if_pos hn]at f2;simp only[yq,nj,aP,ZO,aA,Zz,v7,t7,Yz,Xz,lpS,Tr.val,Tr.ob,ga,a2,q2,f2,ocR];exact⟨by simp[b2,q1,q2,f1],trivial⟩
end Go.Proofs.YtiiidenbemkihaaGreat

namespace Go.Proofs.YtiiidenbemkihaaGreat
open Go Tg
def Qa(k:Int)(s:List Item):List Item:=s.filter λx=>decide (x.Key=k)
theorem IZ(k:Int)(l:List Item)(x:Item):Qa k (l++[x])=Qa k l++if x.Key=k then [x] else []:=by
 unfold Qa;rw[List.filter_append]
 congr 1
 by_cases h:x.Key=k<;>simp[h]
theorem JZ(l:List Item)(x:Item):Fe (l++[x])=ar .add .i64 (Fe l) x.Count:=by unfold Fe;rw[List.foldl_append];rfl
theorem pM{ρ β:Type}[Inhabited ρ]{step:β×Int->Lp (β×Int) ρ}{ob:β×Int->Prop}(f:Nat->β){fin:ρ}(hgo:∀i:Nat,i<4->ob (f i,(i:Int))/\step (f i,(i:Int))=.go (f (i+1),((i+1:Nat):Int)))
  (hout:ob (f 4,((4:Nat):Int))/\step (f 4,((4:Nat):Int))=.out fin):ja step ob (f 0,0) fin:=by
 refine ja.fold (List.range 4) (λi b=>(b,(i:Int))) (λl=>f l.length) rfl (λl x r hx=>?_) ?_
 .have hlen:4=l.length+(r.length+1):=by have:=congrArg List.length hx;simpa using this
  have:=hgo l.length (by omega);rw[List.length_append,List.length_singleton];exact this
 .exact hout
theorem Hai{s:List Item}(hl:s.length<1000000):BG s/\AG s=Rg 1 s:=by
 have k5:∀(y:List Item) (k:Int),ja (λt:Int×Int=>da (Lm s y k (ba .item s) t.1 t.2)) (λt=>Vt s y k (ba .item s) t.1 t.2) (0,0) (.x (Fe (Qa k s))):=λy k=>by
  refine ja.fold s (λi b=>(b,(i:Int))) (λl=>Fe (Qa k l)) rfl (λl x r hx=>?_) ?_
  .obtain⟨hlen,hrd,hin,hlss⟩:=Oa (t:=.item) hx;simp only[Vt,Lm,Ut,qG,Sac,Rac,pG,Tr.val,Tr.ob,ga,hlss,hrd,Ia (l:=l) (by omega),Bb];rw[IZ];by_cases h:x.Key=k
   .exact⟨by simp[hin],by simp[da,h,JZ]⟩
   .exact⟨by simp[hin],by simp[da,h]⟩
  .have hend:cmp .lss (s.length:Int) (ba .item s)=false:=Ma (t:=.item);simp only[Vt,Lm,Ut,Tr.val,Tr.ob,hend];exact⟨by simp,rfl⟩
 have a5:∀y k,Tac s y k (ba .item s)=.x (Fe (Qa k s)):=λy k=>(k5 y k).v;have b5:∀y k,Uac s y k (ba .item s):=λy k=>(k5 y k).t
 have hlen:∀i:Nat,i<=4->((List.range i).flatMap λk:Nat=>fb 1 k (Qa k s)).length<=i:=λi _=>by
  induction i with
  |zero=>simp
  |succ i ih=>
   have:=ih (by omega);rw[List.range_succ,List.flatMap_append,List.length_append]
   have:(List.flatMap (λk:Nat=>fb 1 k (Qa k s)) [i]).length<=1:=by
    rw[List.flatMap_singleton];unfold fb;rw[if_pos rfl];split<;>simp
   omega
 have k2:ja (λt:LI×Int=>da (Mm s t.1 t.2)) (λt=>Xt s t.1 t.2) ([],0) (.x (Rg 1 s)):=by
  refine pM (λi=>(List.range i).flatMap λk:Nat=>fb 1 k (Qa k s)) (λi hi=>?_) ?_
  .have hlss:cmp .lss (i:Int) 4=true:=by rw[bc];simp;omega
   have hadd:ar .add .i64 (i:Int) 1=((i+1:Nat):Int):=by rw[cc (by omega)];omega
   have hl4:=hlen i (by omega);have hlim:∀y,lim (ba .item ((List.range i).flatMap λk:Nat=>fb 1 k (Qa k s))) (ba .item [y]):=λy=>Ab (t:=.item) (by omega);simp only[Xt,Mm,Wt,vG,Yac,Xac,uG,tG,Wac,Vac,sG,rG,lpS,Tr.val,Tr.ob,ga,hlss,hadd,a5,Rd];rw[List.range_succ,List.flatMap_append,List.flatMap_singleton];by_cases h:Fe (Qa i s)=0
   .exact⟨by simp[b5,h],by simp[da,fb,h]⟩
   .exact⟨by simp[b5,h,hlim],by simp[da,fb,h,sk]⟩
  .have hend:cmp .lss ((4:Nat):Int) 4=false:=rfl;simp only[Xt,Mm,Wt,Tr.val,Tr.ob,hend];exact⟨by simp,rfl⟩
 have a2:Zac s=.x (Rg 1 s):=k2.v;have b2:aad s:=k2.t;simp only[BG,AG,bU,aU,zG,yG,dad,cad,xG,wG,lpS,Tr.val,Tr.ob,a2,ocR];exact⟨by simp[b2],trivial⟩
theorem Iai{s:List Item}(hs:Canon s)(hk:∀x∈s,0<=x.Key/\x.Key<=3):s=(List.range 4).flatMap λk:Nat=>Qa k s:=by
 have hc:Canon ((List.range 4).flatMap λk:Nat=>Qa k s):=by
  have hm:∀(k:Nat) x,x∈Qa k s->x.Key=k:=λk x hx=>by simpa using(List.mem_filter.1 hx).2
  have h:∀k:Nat,Canon (Qa k s):=λk=>hs.filter _;rw[Vi,List.append_nil];refine(h 0).append ((h 1).append ((h 2).append (h 3) λx hx y hy=>?_) λx hx y hy=>?_) λx hx y hy=>?_
  .rw[hm 2 x hx,hm 3 y hy];decide
  .rw[hm 1 x hx];rcases List.mem_append.1 hy with hy|hy
   .rw[hm 2 y hy];decide
   .rw[hm 3 y hy];decide
  .rw[hm 0 x hx];rcases List.mem_append.1 hy with hy|hy
   .rw[hm 1 y hy];decide
   .rcases List.mem_append.1 hy with hy|hy
    .rw[hm 2 y hy];decide
    .rw[hm 3 y hy];decide
 refine NL (lt:=λx y:Item=>ltK (kI x) (kI y)=true) (λx h=>by rw[Ff]at h;cases h) (λh1 h2=>Ig h1 h2) hs.1 hc.1 λx=>?_;simp only[List.mem_flatMap,List.mem_range,Qa,List.mem_filter,decide_eq_true_eq];constructor
 .intro hx;have:=hk x hx;exact⟨x.Key.toNat,by omega,hx,by omega⟩
 .rintro⟨k,_,hx,_⟩;exact hx
theorem Jai(f:Nat->List Item):Lc ((List.range 4).flatMap f)=(List.range 4).flatMap λk=>Lc (f k):=by
 rw[Vi,Vi];unfold Lc;simp only[List.filter_append,List.map_append,List.filter_nil,List.map_nil]
theorem Kai{k:Int}(s:List Item):Lc (Qa k s)=Mc k (Qa k s):=by
 unfold Lc Mc;refine List.map_congr_left λx hx=>?_;have:=(List.mem_filter.1 (List.mem_filter.1 hx).1).2;simp only[decide_eq_true_eq]at this;rw[this]
theorem LZ{s:List Item}(hs:Canon s)(hk:∀x∈s,0<=x.Key/\x.Key<=3):Lc s=Rg 2 s:=by
 conv=>lhs;rw[Iai hs hk]
 rw[Jai];unfold Rg;rw[Vi,Vi];simp only[Kai];rfl
def gc(out:List Item)(x:Item):List Item:=if out=[]\/(∃y,out.getLast? = some y/\y.Key≠x.Key) then out++[x] else out
theorem Jw{k:Int}:∀(l out:List Item),(∀x∈l,x.Key=k)->(∀y∈out,y.Key≠k)->l.foldl gc out=out++l.take 1
 |[],out,_,_=>by simp
 |x::l,out,hl,ho=>by
  have h1:gc out x=out++[x]:=by
   unfold gc;rw[if_pos];rcases last_cases out with⟨h,_⟩|⟨l',y,h,h2⟩
   .exact .inl h
   .exact .inr ⟨y,h2,by rw[hl x (by simp)];exact ho y (by rw[h];simp)⟩
  have h2:∀(m:List Item),(∀z∈m,z.Key=k)->m.foldl gc (out++[x])=out++[x]:=by
   intro m
   induction m with
   |nil=>intro _;rfl
   |cons z m ih=>
    intro hm
    have:gc (out++[x]) z=out++[x]:=by
     unfold gc;rw[if_neg];rintro (h|⟨y,h3,h4⟩)
     .simp at h
     .simp at h3;subst h3;exact h4 (by rw[hl x (by simp),hm z (by simp)])
    rw[List.foldl_cons,this];exact ih λw hw=>hm w (by simp[hw])
  rw[List.foldl_cons,h1,h2 l λz hz=>hl z (by simp[hz])];simp
theorem Lai{s:List Item}(hs:Canon s)(hk:∀x∈s,0<=x.Key/\x.Key<=3):(Lc s).foldl gc []=Rg 3 s:=by
 have hm:∀(k:Nat) x,x∈Mc k (Qa k s)->x.Key=k:=λk x hx=>by
  obtain⟨y,_,rfl⟩:=List.mem_map.1 hx;rfl
 have ht:∀(k:Nat) x,x∈(Mc k (Qa k s)).take 1->x.Key=k:=λk x hx=>hm k x (List.mem_of_mem_take hx);rw[LZ hs hk];unfold Rg;rw[Vi,Vi,List.append_nil,List.append_nil];have e:∀k:Nat,fb 2 k (Qa k s)=Mc k (Qa k s):=λk=>by unfold fb;simp
 have e3:∀k:Nat,fb 3 k (Qa k s)=(Mc k (Qa k s)).take 1:=λk=>by unfold fb;simp
 show List.foldl gc [] (fb 2 (0:Nat) (Qa (0:Nat) s)++(fb 2 (1:Nat) (Qa (1:Nat) s)++(fb 2 (2:Nat) (Qa (2:Nat) s)++fb 2 (3:Nat) (Qa (3:Nat) s))))=fb 3 (0:Nat) (Qa (0:Nat) s)++(fb 3 (1:Nat) (Qa (1:Nat) s)++(fb 3 (2:Nat) (Qa (2:Nat) s)++fb 3 (3:Nat) (Qa (3:Nat) s)));simp only[e,e3]
 rw[List.foldl_append,List.foldl_append,List.foldl_append,Jw _ _ (hm 0) (λy hy=>by cases hy),List.nil_append,
  Jw _ _ (hm 1) (λy hy=>by rw[ht 0 y hy];decide),Jw _ _ (hm 2) (λy hy=>?_),Jw _ _ (hm 3) (λy hy=>?_)]
 .simp only[List.append_assoc]
 .rcases List.mem_append.1 hy with hy|hy
  .rcases List.mem_append.1 hy with hy|hy
   .rw[ht 0 y hy];decide
   .rw[ht 1 y hy];decide
  .rw[ht 2 y hy];decide
 .rcases List.mem_append.1 hy with hy|hy
  .rw[ht 0 y hy];decide
  .rw[ht 1 y hy];decide
theorem MZ:∀(l out:List Item),(l.foldl gc out).length<=out.length+l.length
 |[],out=>by simp
 |x::l,out=>by
  have:=MZ l (gc out x);have h2:(gc out x).length<=out.length+1:=by unfold gc;split<;>simp
  rw[List.foldl_cons,List.length_cons];omega
theorem Mai{s:List Item}(hl:s.length<1000000):WG s/\VG s=(Lc s).foldl gc []:=by
 obtain⟨o1,o2⟩:=gZ s (by omega);have hol:(Lc s).length<=s.length:=by unfold Lc;rw[List.length_map];exact List.length_filter_le _ _
 generalize hL:Lc s=L at o2 hol
 have k:ja (λt:LI×Int=>da (Rm L (ba .item L) t.1 t.2)) (λt=>ku L (ba .item L) t.1 t.2) ([],0) (.x (L.foldl gc [])):=by
  refine ja.fold L (λi b=>(b,(i:Int))) (λl=>l.foldl gc []) rfl (λl x r hx=>?_) ?_
  .obtain⟨hlen,hrd,hin,hlss⟩:=Oa (t:=.item) hx;have hll:=MZ l [];rw[List.length_nil]at hll;have hlim:∀y,lim (ba .item (l.foldl gc [])) (ba .item [y]):=λy=>Ab (t:=.item) (show(l.foldl gc []).length<1099511627776 by omega);rw[List.foldl_append];show _/\_=Lp.go (gc (l.foldl gc []) x,_);generalize l.foldl gc []=out at hll hlim;simp only[ku,Rm,iu,MG,mad,lad,LG,Tr.val,Tr.ob,ga,hlss,hrd,Ia (l:=l) (by omega),Bb,Rd];rcases last_cases out with⟨h,h2⟩|⟨l',y,h,h2⟩
   .subst h;have h0:ba .item ([]:List Item)=0:=rfl;simp only[h0];exact⟨by simp[hin];exact hlim x,by simp[da,gc]⟩
   .have hn0:¬ ba .item out=0:=by rw[h];simp only[ba,List.length_append,List.length_singleton];omega
    have hsub:ar .sub .i64 (ba .item out) 1=(l'.length:Int):=by
     rw[bf (by simp only[ba];omega),h];simp only[ba,List.length_append,List.length_singleton];omega
    have hrd2:rd .item out (l'.length:Int)=y:=by rw[h];exact Ri (r:=[])
    have hin2:inb (l'.length:Int) (ba .item out):=by rw[h];exact Si (t:=.item) (r:=[])
    simp only[hn0,hsub,hrd2];have hne:out≠[]:=by rw[h];simp
    by_cases hk:y.Key=x.Key
    .refine⟨by simp[hin,hin2,hk],?_⟩
     have:gc out x=out:=by
      unfold gc;rw[if_neg];rintro (h3|⟨z,h3,h4⟩)
      .exact hne h3
      .rw[h2]at h3;cases h3;exact h4 hk
     rw[this];simp[da,hk]
    .refine⟨by simp[hin,hin2,hk,hlim],?_⟩
     have:gc out x=out++[x]:=by
      unfold gc;rw[if_pos (.inr ⟨y,h2,hk⟩)]
     rw[this];simp[da,hk]
  .have hend:cmp .lss (L.length:Int) (ba .item L)=false:=Ma (t:=.item);simp only[ku,Rm,iu,Tr.val,Tr.ob,hend];exact⟨by simp,rfl⟩
 have a2:nad L (ba .item L)=.x (L.foldl gc []):=k.v;have b2:oad L (ba .item L):=k.t;simp only[WG,VG,lU,kU,UG,SG,qad,pad,RG,QG,lpS,Tr.val,Tr.ob,ga,o2,a2,ocR];exact⟨by simp[b2,o1],trivial⟩
theorem Nai{s:List Item}(hl:s.length<1000000)(hs:Canon s)(hk:∀x∈s,0<=x.Key/\x.Key<=3){kind:Int}(hkind:1<=kind/\kind<=3):ZG s kind/\YG s kind=Rg kind s:=by
 obtain⟨c1,c2⟩:=Hai hl;obtain⟨o1,o2⟩:=gZ s (by omega);obtain⟨l1,l2⟩:=Mai hl;rw[LZ hs hk]at o2;rw[Lai hs hk]at l2;simp only[ZG,YG,pU,oU,XG,Tr.val,Tr.ob,ga,c2,o2,l2,Bb];have hc:kind=1\/kind=2\/kind=3:=by omega
 rcases hc with rfl|rfl|rfl
 .exact⟨by simp[c1],by simp[ocR]⟩
 .exact⟨by simp[o1],by simp[ocR]⟩
 .exact⟨by simp[l1],by simp[ocR]⟩
theorem NZ{k:Int}{s:List Item}(h:∀x∈s,x.Key=k):Qa k s=s:=List.filter_eq_self.2 λx hx=>by simpa using h x hx
theorem Oai{k:Int}{s:List Item}(h:∀x∈s,x.Key≠k):Qa k s=[]:=List.filter_eq_nil_iff.2 λx hx=>by simpa using h x hx
theorem Pai{kind:Int}{k:Nat}(hk:k<4){s:List Item}(h:∀x∈s,x.Key=k):Rg kind s=fb kind k s:=by
 have hn:∀j:Nat,j≠k->fb kind j (Qa j s)=[]:=λj hj=>by
  rw[Oai λx hx=>by rw[h x hx];omega,qaj]
 have hy:fb kind k (Qa k s)=fb kind k s:=by rw[NZ h]
 show fb kind (0:Nat) (Qa (0:Nat) s)++(fb kind (1:Nat) (Qa (1:Nat) s)++(fb kind (2:Nat) (Qa (2:Nat) s)++(fb kind (3:Nat) (Qa (3:Nat) s)++[])))=_;have hc:k=0\/k=1\/k=2\/k=3:=by omega
 rcases hc with rfl|rfl|rfl|rfl
 .rw[hn 1 (by decide),hn 2 (by decide),hn 3 (by decide),hy];simp
 .rw[hn 0 (by decide),hn 2 (by decide),hn 3 (by decide),hy];simp
 .rw[hn 0 (by decide),hn 1 (by decide),hn 3 (by decide),hy];simp
 .rw[hn 0 (by decide),hn 1 (by decide),hn 2 (by decide),hy];simp
def Nc(kind k:Int)(s:List Item):List Item:=if kind=2 then Mc k s else if kind=3 then(Mc k s).take 1 else []
theorem Kw(k:Int)(l:List Item)(x:Item):Mc k (l++[x])=Mc k l++if 0<x.Count then [⟨k,x.Val,1⟩] else []:=by
 unfold Mc;rw[List.filter_append,List.map_append]
 congr 1
 by_cases h:0<x.Count<;>simp[h]
theorem PZ(kind k:Int)(s:List Item):(Nc kind k s).length<=s.length:=by
 have h:(Mc k s).length<=s.length:=by unfold Mc;rw[List.length_map];exact List.length_filter_le _ _
 unfold Nc;split
 .exact h
 .split
  .rw[List.length_take];omega
  .simp
theorem Qai{s:List Item}(hl:s.length<1000000){key kind:Int}(hkind:1<=kind/\kind<=3):FB s key kind/\DB s key kind=fb kind key (Qa key s):=by
 have k:ja (λt:LI×Int×Int=>da (Fl s key kind t.1 t.2.1 t.2.2)) (λt=>gr s key kind t.1 t.2.1 t.2.2) ([],0,0) (.x (Nc kind key (Qa key s),Fe (Qa key s))):=by
  refine ja.fold s (λi b=>(b.1,b.2,(i:Int))) (λl=>(Nc kind key (Qa key l),Fe (Qa key l))) (by simp[Qa,Nc,Mc,Fe]) (λl x r hx=>?_) ?_
  .obtain⟨hlen,hrd,hin,hlss⟩:=Oa (t:=.item) hx;have hkl:(Qa key l).length<=l.length:=List.length_filter_le _ _;have hol:=PZ kind key (Qa key l);have hlim:∀y,lim (ba .item (Nc kind key (Qa key l))) (ba .item [y]):=λy=>Ab (t:=.item) (show(Nc kind key (Qa key l)).length<1099511627776 by omega);simp only[gr,Fl,br,wB,E9,C9,vB,Tr.val,Tr.ob,ga,hlss,hrd,Ia (l:=l) (by omega),Bb,Rd,xc];rw[IZ];by_cases h:x.Key=key
   .rw[if_pos h,JZ];generalize hK:Qa key l=K at hlim
    have hz:∀o:List Item,decide (ba .item o=0)=decide (o=[]):=λo=>by
     cases o with
     |nil=>rfl
     |cons a o=>
      have:¬ ba .item (a::o)=0:=by simp only[ba,List.length_cons];omega
      simp[this]
    have hc:kind=1\/kind=2\/kind=3:=by omega
    by_cases hp:0<x.Count
    .rcases hc with rfl|rfl|rfl
     .exact⟨by simp[hin,h,hp],by simp[da,Nc,h,hp]⟩
     .refine⟨by simp[hin,h,hp];exact hlim _,?_⟩;simp[da,Nc,h,hp,Kw]
     .simp only[hz];refine⟨by simp[hin,h,hp];exact λ_=>hlim _,?_⟩;have e3:∀s,Nc 3 key s=(Mc key s).take 1:=λs=>by simp[Nc]
      rw[e3,e3,Kw,if_pos hp];cases hO:Mc key K with
      |nil=>simp[da,h,hp]
      |cons a O=>simp[da,h,hp]
    .rcases hc with rfl|rfl|rfl
     .exact⟨by simp[hin,h,hp],by simp[da,Nc,h,hp]⟩
     .exact⟨by simp[hin,h,hp],by simp[da,Nc,h,hp,Kw]⟩
     .exact⟨by simp[hin,h,hp],by simp[da,Nc,h,hp,Kw]⟩
   .rw[if_neg h,List.append_nil];exact⟨by simp[hin,h],by simp[da,h]⟩
  .have hend:cmp .lss (s.length:Int) (ba .item s)=false:=Ma (t:=.item);simp only[gr,Fl,br,Tr.val,Tr.ob,hend];exact⟨by simp,rfl⟩
 have a2:H9 s key kind=.x (Nc kind key (Qa key s),Fe (Qa key s)):=k.v;have b2:I9 s key kind:=k.t;have hkl:(Qa key s).length<=s.length:=List.length_filter_le _ _;have hol:=PZ kind key (Qa key s);have hlim:∀y,lim (ba .item (Nc kind key (Qa key s))) (ba .item [y]):=λy=>Ab (t:=.item) (show(Nc kind key (Qa key s)).length<1099511627776 by omega);have hcnt:∀n,UP n/\uB n=sk n:=λn=>⟨⟨⟨by decide,by decide,trivial⟩,trivial⟩,rfl⟩;simp only[FB,DB,cQ,bQ,CB,zB,L9,J9,yB,xB,BB,O9,M9,AB,lpS,Tr.val,Tr.ob,ga,a2,(hcnt _).2,Bb,Rd];have hc:kind=1\/kind=2\/kind=3:=by omega
 rcases hc with rfl|rfl|rfl
 .by_cases h:Fe (Qa key s)=0
  .exact⟨by simp[b2,h],by simp[ocR,fb,Nc,h]⟩
  .exact⟨by simp[b2,h,hlim,(hcnt _).1],by simp[ocR,fb,Nc,h]⟩
 .exact⟨by simp[b2],by simp[ocR,fb,Nc]⟩
 .exact⟨by simp[b2],by simp[ocR,fb,Nc]⟩
end Go.Proofs.YtiiidenbemkihaaGreat

namespace Go.Proofs.YtiiidenbemkihaaGreat
open Go Tg
theorem ja.while{σ ρ:Type}[Inhabited ρ]{step:σ->Lp σ ρ}{ob:σ->Prop}(I:σ->Prop)(m:σ->Nat){Q:ρ->Prop}
  (h:∀s,I s->ob s/\((∃s',step s=.go s'/\I s'/\m s'<m s)\/∃q,step s=.out q/\Q q)):∀(n:Nat) (s:σ),m s=n->I s->∃q,ja step ob s q/\Q q:=by
 intro n
 induction n using Nat.strongRecOn with
 |_ n ih=>
  intro s hn hI;obtain⟨ho,⟨s',h1,h2,h3⟩|⟨q,h1,h2⟩⟩:=h s hI
  .obtain⟨q,hq,hQ⟩:=ih (m s') (by omega) s' rfl h2;exact⟨q,.go ho h1 hq,hQ⟩
  .exact⟨q,.out ho h1,h2⟩
theorem QZ{ρ β:Type}[Inhabited ρ]{step:β×Int->Lp (β×Int) ρ}{ob:β×Int->Prop}(f:Nat->β){fin:ρ}(hgo:∀i:Nat,i<8->ob (f i,(i:Int))/\step (f i,(i:Int))=.go (f (i+1),((i+1:Nat):Int)))
  (hout:ob (f 8,((8:Nat):Int))/\step (f 8,((8:Nat):Int))=.out fin):ja step ob (f 0,0) fin:=by
 refine ja.fold (List.range 8) (λi b=>(b,(i:Int))) (λl=>f l.length) rfl (λl x r hx=>?_) ?_
 .have hlen:8=l.length+(r.length+1):=by have:=congrArg List.length hx;simpa using this
  have:=hgo l.length (by omega);rw[List.length_append,List.length_singleton];exact this
 .exact hout
theorem RZ{α:Type}:∀ {S L:List α},S.Nodup->(∀t∈S,t∈L)->S.length<=L.length
 |[],L,_,_=>by simp
 |x::S,L,h,hs=>by
  obtain⟨A,B,rfl⟩:=List.append_of_mem (hs x (by simp));have h':=List.nodup_cons.1 h
  have:=RZ (S:=S) (L:=A++B) h'.2 λt ht=>by
   have h1:=hs t (by simp[ht]);simp only[List.mem_append,List.mem_cons]at h1⊢;rcases h1 with h1|rfl|h1
   .exact .inl h1
   .exact absurd ht h'.1
   .exact .inr h1
  simp only[List.length_append,List.length_cons]at this⊢;omega
def Lb(l:List Time)(t:Time):Bool:=decide (t∈l)
theorem Rai{s t:Time}:(decide (s.A=t.A)&&(decide (s.B=t.B)&&true))=decide (s=t):=by
 obtain⟨a,b⟩:=s;obtain⟨c,d⟩:=t;rw[Bool.eq_iff_iff];simp
theorem qM(l:List Time)(t:Time)(hl:l.length<1000000):ul l t/\tl l t=Lb l t:=by
 have k:ja (λs:Int=>da (rl l t s)) (λs=>Fq l t s) 0 (if ub (λ_ x=>decide (x=t)) none l=true then .x () else .r true):=by
  refine ja.scan l _ (λm x r hx=>?_) ?_
  .obtain⟨hlen,hrd,hin,hlss⟩:=Oa (t:=.time) hx;simp only[Fq,rl,Eq,Tr.val,Tr.ob,ga,hlss,hrd,Ia (l:=m) (by omega),Bb,Rai];refine⟨by simp[hin],?_⟩;cases decide (x=t)<;>rfl
  .have hend:cmp .lss (l.length:Int) (ba .time l)=false:=Ma (t:=.time);simp only[Fq,rl,Eq,Tr.val,Tr.ob,ga,hend];exact⟨by simp,rfl⟩
 have a2:U7 l t=_:=k.v;have b2:V7 l t:=k.t
 have hs:ub (λ_ x=>decide (x=t)) none l=!Lb l t:=by
  have:=rg (λx:Time=>!decide (x=t)) l none;simp only[Bool.not_not]at this;rw[this,Bool.eq_iff_iff];simp only[Lb,List.all_eq_true,decide_eq_false_iff_not,Bool.not_eq_eq_eq_not,Bool.not_true];exact⟨λh hm=>h t hm rfl,λh x hx e=>h (e▸hx)⟩
 rw[hs]at a2;simp only[ul,tl,rP,qP,tA,sA,Y7,X7,rA,qA,lpS,Tr.val,Tr.ob,a2];refine⟨by simp[b2],?_⟩;cases Lb l t<;>rfl
structure Ge(xs:List Row)(k:Int)(S:List Time):Prop where
 nd:S.Nodup
 ok:∀t∈S,Fa t=true/\jT xs k t=true
theorem Ge.len{xs:List Row}{k:Int}{S:List Time}(h:Ge xs k S):S.length<=64:=by
 have:=RZ h.nd λt ht=>jaf.2 (h.ok t ht).1;have h2:allT.length<=64:=ZI _ 8;omega
theorem Ge.snoc{xs:List Row}{k:Int}{S:List Time}(h:Ge xs k S){t:Time}(ht:Fa t=true/\jT xs k t=true)(hn:t ∉ S):Ge xs k (S++[t]):=by
 refine⟨?_,λu hu=>?_⟩
 .rw[List.nodup_append];exact⟨h.nd,by simp,λa ha b hb=>by simp at hb;subst hb;exact λe=>hn (e▸ha)⟩
 .rcases List.mem_append.1 hu with hu|hu
  .exact h.ok u hu
  .simp at hu;subst hu;exact ht
def dc(k:Int)(l:List Row):List Time:=l.foldl (λs x=>if x.Key=k/\x.At ∉ s then s++[x.At] else s) []
theorem SZ(k:Int)(l:List Row)(x:Row):dc k (l++[x])=if x.Key=k/\x.At ∉ dc k l then dc k l++[x.At] else dc k l:=by unfold dc;rw[List.foldl_append];rfl
theorem TZ{xs:List Row}{k:Int}(hr:∀x∈xs,Db x=true):∀r l,xs=l++r->Ge xs k (dc k l)/\(∀x∈l,x.Key=k->x.At∈dc k l):=by
 suffices ∀l,(∀x∈l,x∈xs)->Ge xs k (dc k l)/\(∀x∈l,x.Key=k->x.At∈dc k l) from λr l h=>this l λx hx=>by rw[h];simp[hx]
 intro l
 induction hn:l.length generalizing l with
 |zero=>
  have:l=[]:=List.length_eq_zero_iff.1 hn;subst this;exact λ_=>⟨⟨by simp[dc],by simp[dc]⟩,by simp⟩
 |succ n ih=>
  rcases last_cases l with⟨h,_⟩|⟨l',x,h,_⟩
  .rw[h]at hn;simp at hn
  .subst h;intro hm;obtain⟨i1,i2⟩:=ih l' (by simpa using hn) λy hy=>hm y (by simp[hy]);rw[SZ];have hx:=hm x (by simp);split
   .rename_i hc;refine⟨i1.snoc ⟨Mf (hr x hx),faf hx hc.1⟩ hc.2,λy hy hk=>?_⟩;rcases List.mem_append.1 hy with hy|hy
    .exact List.mem_append.2 (.inl (i2 y hy hk))
    .simp at hy;subst hy;simp
   .rename_i hc;refine⟨i1,λy hy hk=>?_⟩;rcases List.mem_append.1 hy with hy|hy
    .exact i2 y hy hk
    .simp at hy;subst hy;by_cases hin:y.At∈dc k l'
     .exact hin
     .exact absurd ⟨hk,hin⟩ hc
theorem Sai(s t:Time):nb s t=nb t s:=by
 unfold nb;simp only[Cj]
 congr 1<;>split<;>split<;>omega
theorem Tai(s:Time):nb s s=s:=by
 obtain⟨a,b⟩:=s;simp[nb,Cj]
theorem vk{S:List Time}{p:Nat}(hp:p<S.length)(t:Time):rd .time (S++[t]) (p:Int)=rd .time S (p:Int):=by
 unfold rd;simp only[Int.toNat_natCast];rw[List.getD_eq_getElem?_getD,List.getD_eq_getElem?_getD,List.getElem?_append_left hp]
theorem UZ{S:List Time}{p:Nat}(hp:p<S.length):rd .time S (p:Int)∈S:=by
 unfold rd;simp only[Int.toNat_natCast];rw[List.getD_eq_getElem?_getD,List.getElem?_eq_getElem hp];exact List.getElem_mem hp
def sg(S:List Time)(i j:Nat):Prop:=(∀p q,p<i->q<p->nb (rd .time S (p:Int)) (rd .time S (q:Int))∈S)/\∀q,q<j->nb (rd .time S (i:Int)) (rd .time S (q:Int))∈S
theorem sg.snoc{S:List Time}{i j:Nat}(h:sg S i j)(hi:i<S.length)(hj:j<=i)(t:Time):sg (S++[t]) i j:=⟨λp q hp hq=>by rw[vk (by omega),vk (by omega)];exact List.mem_append.2 (.inl (h.1 p q hp hq)),λq hq=>by rw[vk hi,vk (by omega)];exact List.mem_append.2 (.inl (h.2 q hq))⟩
theorem Uai{xs:List Row}(hr:Jb xs=true)(k:Int):aB xs k/\ZA xs k=ib xs k:=by
 obtain⟨hl,hm⟩:=gb hr;obtain⟨r1,r2⟩:=Uo xs (by omega)
 have k2:ja (λs:List Time×Int=>da (vl xs k s.1 s.2)) (λs=>Hq xs k s.1 s.2) ([],0) (.x (dc k xs)):=by
  refine ja.fold xs (λi b=>(b,(i:Int))) (λl=>dc k l) rfl (λl x r hx=>?_) ?_
  .obtain⟨hlen,hrd,hin,hlss⟩:=Oa (t:=.row) hx;obtain⟨i1,_⟩:=TZ (xs:=xs) (k:=k) hm (x::r) l hx;have hl6:=i1.len;obtain⟨q1,q2⟩:=qM (dc k l) x.At (by omega);have hlim:∀y,lim (ba .time (dc k l)) (ba .time [y]):=λy=>Ab (t:=.time) (show(dc k l).length<1099511627776 by omega);simp only[Hq,vl,Gq,vA,c8,Z7,uA,Tr.val,Tr.ob,ga,hlss,hrd,r2,hr,Ia (l:=l) (by omega),Bb,q2];rw[SZ];by_cases hk:x.Key=k
   .by_cases hh:x.At∈dc k l
    .exact⟨by simp[hin,r1,hk,q1,Lb,hh],by simp[da,hk,Lb,hh]⟩
    .exact⟨by simp[hin,r1,hk,q1,Lb,hh,hlim],by simp[da,hk,Lb,hh]⟩
   .exact⟨by simp[hin,r1,hk],by simp[da,hk]⟩
  .have hend:cmp .lss (xs.length:Int) (ba .row xs)=false:=Ma (t:=.row);simp only[Hq,vl,Gq,Tr.val,Tr.ob,ga,hend];exact⟨by simp,rfl⟩
 have a2:d8 xs k=.x (dc k xs):=k2.v;have b2:g8 xs k:=k2.t;obtain⟨j1,j2⟩:=TZ (xs:=xs) (k:=k) hm [] xs (by simp)
 have k7:∀(S:List Time) (i:Nat),Ge xs k S->i<S.length->sg S i 0->∃q,ja (λs:List Time×Int=>da (wl S (i:Int) s.1 s.2)) (λs=>Jq S (i:Int) s.1 s.2) (S,0) q /\
   ∃S',q=.x S'/\Ge xs k S'/\i<S'.length/\sg S' (i+1) 0/\∀t∈S,t∈S':=by
  intro S0 i hI0 hi0 hJ0;refine ja.while (λs:List Time×Int=>∃j:Nat,s.2=(j:Int)/\j<=i/\Ge xs k s.1/\i<s.1.length/\sg s.1 i j/\∀t∈S0,t∈s.1) (λs=>i - s.2.toNat) (λs hs=>?_) _ _ rfl ⟨0,rfl,Nat.zero_le _,hI0,hi0,hJ0,λ_ h=>h⟩;obtain⟨S,_⟩:=s;obtain⟨j,rfl,hj,hI,hi,hJ,hsub⟩:=hs;have hI:Ge xs k S:=hI;have hi:i<S.length:=hi;have hJ:sg S i j:=hJ;have hsub:∀t∈S0,t∈S:=hsub;have hl6:=hI.len;by_cases hlt:j<i
  .have hlss:cmp .lss (j:Int) (i:Int)=true:=by rw[bc];simpa using hlt
   have hadd:ar .add .i64 (j:Int) 1=((j+1:Nat):Int):=by rw[cc (by omega)];omega
   have hin1:inb (i:Int) (ba .time S):=by unfold inb ba;omega
   have hin2:inb (j:Int) (ba .time S):=by unfold inb ba;omega
   have h1:=hI.ok _ (UZ hi);have h2:=hI.ok _ (UZ (show j<S.length by omega));obtain⟨t1,t2⟩:=wZ h1.1 h2.1;obtain⟨q1,q2⟩:=qM S (nb (rd .time S (i:Int)) (rd .time S (j:Int))) (by omega);have hok:=vax h1.1 h2.1;have hjj:=gaf h1.2 h2.2;have hlim:∀y,lim (ba .time S) (ba .time [y]):=λy=>Ab (t:=.time) (show S.length<1099511627776 by omega);simp only[Jq,wl,Iq,AA,n8,m8,zA,Tr.val,Tr.ob,ga,hlss,hadd,t2,q2];by_cases hh:nb (rd .time S (i:Int)) (rd .time S (j:Int))∈S
   .refine⟨by simp[hin1,hin2,t1,q1,Lb,hh],.inl ⟨(S,((j+1:Nat):Int)),by simp[da,Lb,hh],⟨j+1,rfl,by omega,hI,hi,⟨hJ.1,λq hq=>?_⟩,hsub⟩,?_⟩⟩
    .by_cases e:q=j
     .rw[e];exact hh
     .exact hJ.2 q (by omega)
    .simp only[Int.toNat_natCast];omega
   .refine⟨by simp[hin1,hin2,t1,q1,Lb,hh,hlim],.inl ⟨(S++[nb (rd .time S (i:Int)) (rd .time S (j:Int))],((j+1:Nat):Int)),by simp[da,Lb,hh],⟨j+1,rfl,by omega,hI.snoc ⟨hok,hjj⟩ hh,by simp;omega,?_,λt ht=>List.mem_append.2 (.inl (hsub t ht))⟩,?_⟩⟩
    .have hJ':=hJ.snoc hi (by omega) (nb (rd .time S (i:Int)) (rd .time S (j:Int)));refine⟨hJ'.1,λq hq=>?_⟩;by_cases e:q=j
     .rw[e,vk hi,vk (by omega)];simp
     .exact hJ'.2 q (by omega)
    .simp only[Int.toNat_natCast];omega
  .have hlss:cmp .lss (j:Int) (i:Int)=false:=by rw[bc];simp;omega
   have hji:j=i:=by omega
   subst hji;simp only[Jq,wl,Iq,Tr.val,Tr.ob,hlss];refine⟨by simp,.inr ⟨_,rfl,S,rfl,hI,hi,⟨λp q hp hq=>?_,λq hq=>absurd hq (by omega)⟩,hsub⟩⟩;by_cases e:p=j
   .rw[e]at hq⊢;exact hJ.2 q hq
   .exact hJ.1 p q (by omega) hq
 have k5:∃q,ja (λs:List Time×Int=>da (xl (dc k xs) s.1 s.2)) (λs=>Lq (dc k xs) s.1 s.2) (dc k xs,0) q/\∃S',q=.x S'/\Ge xs k S'/\sg S' S'.length 0/\∀t∈dc k xs,t∈S':=by
  refine ja.while (λs:List Time×Int=>∃i:Nat,s.2=(i:Int)/\i<=s.1.length/\Ge xs k s.1/\sg s.1 i 0/\∀t∈dc k xs,t∈s.1) (λs=>64 - s.2.toNat) (λs hs=>?_) _ _ rfl ⟨0,rfl,Nat.zero_le _,j1,⟨λp q hp=>by omega,λq hq=>by omega⟩,λ_ h=>h⟩;obtain⟨S,_⟩:=s;obtain⟨i,rfl,hi,hI,hJ,hsub⟩:=hs;have hI:Ge xs k S:=hI;have hi:i<=S.length:=hi;have hJ:sg S i 0:=hJ;have hsub:∀t∈dc k xs,t∈S:=hsub;have hl6:=hI.len;by_cases hlt:i<S.length
  .have hlss:cmp .lss (i:Int) (ba .time S)=true:=by rw[bc];simp[ba];omega
   have hadd:ar .add .i64 (i:Int) 1=((i+1:Nat):Int):=by rw[cc (by omega)];omega
   obtain⟨q,h1,S',rfl,h2,h3,h4,h5⟩:=k7 S i hI hlt hJ;have a7:t8 S (i:Int)=.x S':=h1.v;have b7:v8 S (i:Int):=h1.t;simp only[Lq,xl,Kq,FA,A8,z8,CA,BA,lpS,Tr.val,Tr.ob,hlss,hadd,a7];refine⟨by simp[b7],.inl ⟨(S',((i+1:Nat):Int)),rfl,⟨i+1,rfl,h3,h2,h4,λt ht=>h5 t (hsub t ht)⟩,?_⟩⟩;simp only[Int.toNat_natCast];omega
  .have hlss:cmp .lss (i:Int) (ba .time S)=false:=by rw[bc];simp[ba];omega
   have hii:i=S.length:=by omega
   subst hii;simp only[Lq,xl,Kq,Tr.val,Tr.ob,hlss];exact⟨by simp,.inr ⟨_,rfl,S,rfl,hI,hJ,hsub⟩⟩
 obtain⟨q,hq,S,rfl,hI,hJ,hsub⟩:=k5;have a5:B8 (dc k xs)=.x S:=hq.v;have b5:D8 (dc k xs):=hq.t;have hl6:=hI.len
 have hcl:∀s t,s∈S->t∈S->nb s t∈S:=λs t hs ht=>by
  obtain⟨p,hp,e1⟩:=List.getElem_of_mem hs;obtain⟨q,hq,e2⟩:=List.getElem_of_mem ht;have r1:rd .time S (p:Int)=s:=by unfold rd;simp only[Int.toNat_natCast];rw[List.getD_eq_getElem?_getD,List.getElem?_eq_getElem hp];exact e1
  have r2:rd .time S (q:Int)=t:=by unfold rd;simp only[Int.toNat_natCast];rw[List.getD_eq_getElem?_getD,List.getElem?_eq_getElem hq];exact e2
  rcases Nat.lt_trichotomy p q with h|h|h
  .have:=hJ.1 q p hq h;rw[r1,r2,Sai]at this;exact this
  .subst h;rw[r1]at r2;rw[<-r2,Tai];exact hs
  .have:=hJ.1 p q hp h;rw[r1,r2]at this;exact this
 have k12:∀(o:List Time) (x:Nat),x<8->o.length<=64->ja (λs:List Time×Int=>da (pj S o (x:Int) s.1 s.2)) (λs=>yl S o (x:Int) s.1 s.2) (o,0) (.x (o++rowP (Lb S) (x:Int) 8)):=by
  intro o x hx ho;have h0:o++rowP (Lb S) (x:Int) 0=o:=by simp[rowP]
  suffices key:ja (λs:List Time×Int=>da (pj S o (x:Int) s.1 s.2)) (λs=>yl S o (x:Int) s.1 s.2) (o++rowP (Lb S) (x:Int) 0,0) (.x (o++rowP (Lb S) (x:Int) 8)) by
   rw[h0]at key;exact key
  refine QZ (λi=>o++rowP (Lb S) (x:Int) i) (λi hi=>?_) ?_
  .have hleq:cmp .leq (i:Int) 7=true:=by rw[Ee];simp;omega
   have hadd:ar .add .i64 (i:Int) 1=((i+1:Nat):Int):=by rw[cc (by omega)];omega
   have hrl:=iaf (Lb S) (x:Int) i;have hlim:∀y,lim (ba .time (o++rowP (Lb S) (x:Int) i)) (ba .time [y]):=λy=>Ab (t:=.time) (show(o++rowP (Lb S) (x:Int) i).length<1099511627776 by rw[List.length_append];omega);obtain⟨q1,q2⟩:=qM S ⟨(x:Int),(i:Int)⟩ (by omega);simp only[yl,pj,Mq,PA,I8,H8,JA,Tr.val,Tr.ob,ga,hleq,hadd,q2];rw[tax];cases Lb S ⟨(x:Int),(i:Int)⟩ with
   |true=>exact⟨by simp[q1];exact hlim _,by simp[da]⟩
   |false=>exact⟨by simp[q1],by simp[da]⟩
  .have hleq:cmp .leq ((8:Nat):Int) 7=false:=rfl;simp only[yl,pj,Mq,Tr.val,Tr.ob,hleq];exact⟨by simp,rfl⟩
 have k10:ja (λs:List Time×Int=>da (zl S s.1 s.2)) (λs=>Oq S s.1 s.2) ([],0) (.x (Bc (Lb S) 8)):=by
  refine QZ (λi=>Bc (Lb S) i) (λi hi=>?_) ?_
  .have hleq:cmp .leq (i:Int) 7=true:=by rw[Ee];simp;omega
   have hadd:ar .add .i64 (i:Int) 1=((i+1:Nat):Int):=by rw[cc (by omega)];omega
   have htl:=ZI (Lb S) i;have k:=k12 (Bc (Lb S) i) i hi (by omega);have a12:J8 S (Bc (Lb S) i) (i:Int)=.x (Bc (Lb S) i++rowP (Lb S) (i:Int) 8):=k.v;have b12:L8 S (Bc (Lb S) i) (i:Int):=k.t;simp only[Oq,zl,Nq,UA,O8,M8,SA,RA,lpS,Tr.val,Tr.ob,hleq,hadd,a12];exact⟨by simp[b12],rfl⟩
  .have hleq:cmp .leq ((8:Nat):Int) 7=false:=rfl;simp only[Oq,zl,Nq,Tr.val,Tr.ob,hleq];exact⟨by simp,rfl⟩
 have a10:P8 S=.x (Bc (Lb S) 8):=k10.v;have b10:Q8 S:=k10.t
 have hfin:Bc (Lb S) 8=ib xs k:=by
  unfold ib;rw[if_pos hr];refine YV λa b _ _=>?_;rw[Bool.eq_iff_iff];constructor
  .intro h;exact(hI.ok _ (by simpa [Lb] using h)).2
  .intro h;have:=haf (M:=λt=>t∈S) (λx hx hk=>hsub _ (j2 x hx hk)) hcl h;simpa [Lb] using this
 simp only[aB,ZA,AP,zP,YA,yA,l8,j8,xA,wA,IA,G8,E8,HA,
  GA,XA,S8,R8,WA,VA,lpS,Tr.val,Tr.ob,a2,a5,a10,ocR]
 exact⟨by simp[b2,b5,b10,a5],hfin⟩
end Go.Proofs.YtiiidenbemkihaaGreat

namespace Go.Proofs.YtiiidenbemkihaaGreat
open Go Tg
theorem VZ(k:Int)(l:List Row)(x:Row):wa k (l++[x])=wa k l++if x.Key=k then [x] else []:=by
 unfold wa;rw[List.filter_append]
 congr 1
 by_cases h:x.Key=k<;>simp[h]
theorem Zo(k:Int)(l:List Row):(wa k l).length<=l.length:=List.length_filter_le _ _
theorem Vai{a:List Row}(h:Jb a=true)(k:Int):Jb (wa k a)=true:=by
 obtain⟨h1,h2⟩:=gb h;have:=Zo k a;simp only[Jb,Bool.and_eq_true,decide_eq_true_eq,List.all_eq_true];exact⟨λx hx=>h2 x (List.mem_filter.1 hx).1,by omega⟩
theorem Wai(xs:List Item)(hl:xs.length<1000000000):Eo xs/\Bw xs=gathI xs:=by
 refine⟨?_,rfl⟩;show lim _ 1;simp only[lim,ba];omega
section
variable {a:List Row} (hr:Jb a=true) {kind:Int} (hkind:1<=kind/\kind<=3)
include hr hkind
theorem Xai(all:List Row){k:Nat}(hk:k<4){made:List Row}(hm:Gc k made)(hml:made.length<=6400){ts:List Time}{t:Time}{i n:Int}(hin:inb i (ba .time ts))(hrd:rd .time ts i=t) :
  wU a kind all (k:Int) (wa k a) made ts n i/\vU a kind all (k:Int) (wa k a) made ts n i=.n (Lf kind k (wa k a) made t):=by
 obtain⟨hl,hrow⟩:=gb hr;have ho:=Ui (k:=(k:Int)) hrow;have hol:=Zo (k:Int) a;obtain⟨p1,p2⟩:=tZ (wa k a) t (by omega);obtain⟨m1,m2⟩:=tZ made t (by omega);have hpl:=ho.presLen t;have hml2:=hm.presLen t;have hpk:=ho.pres t;obtain⟨g1,g2⟩:=Nai (s:=Sd (wa k a) t) (by omega) (naj _) (λx hx=>by rw[(hpk x hx).1];omega) hkind;rw[Pai hk λx hx=>(hpk x hx).1]at g2;generalize hU:Sd made t=U at m2 hml2;generalize hG:fb kind k (Sd (wa k a) t)=D at g2;have hDl:D.length<=101:=by rw[<-hG];have:=oZ kind k (Sd (wa k a) t);omega
 have k11:ja (λs:LI×Int=>da (Um a kind all (k:Int) (wa k a) made t D ts n i U (ba .item U) s.1 s.2)) (λs=>qu a kind all (k:Int) (wa k a) made t D ts n i U (ba .item U) s.1 s.2) (D,0) (.x (D++U.map Nb)):=by
  refine ja.fold U (λi b=>(b,(i:Int))) (λl=>D++l.map Nb) (by simp) (λl x r hx=>?_) ?_
  .obtain⟨hlen,hrd,hin,hlss⟩:=Oa (t:=.item) hx;have hlim:∀y,lim (ba .item (D++l.map Nb)) (ba .item [y]):=λy=>Ab (t:=.item) (show(D++l.map Nb).length<1099511627776 by rw[List.length_append,List.length_map];omega);simp only[qu,Um,pu,Tr.val,Tr.ob,ga,hlss,hrd,Ia (l:=l) (by omega)];exact⟨by simp[hin];exact hlim _,by simp[da,Nb]⟩
  .have hend:cmp .lss (U.length:Int) (ba .item U)=false:=Ma (t:=.item);simp only[qu,Um,pu,Tr.val,Tr.ob,ga,hend];exact⟨by simp,rfl⟩
 have a11:yad a kind all (k:Int) (wa k a) made t D ts n i U (ba .item U)=.x (D++U.map Nb):=k11.v;have b11:zad a kind all (k:Int) (wa k a) made t D ts n i U (ba .item U):=k11.t;have hdue:Ti kind k (wa k a) made t=gathI (D++U.map Nb):=by unfold Ti;rw[hU,hG]
 obtain⟨d1,d2⟩:=gM (kind:=kind) (t:=t) ho hm;rw[hdue]at d1 d2;obtain⟨q1,q2⟩:=Wai (D++U.map Nb) (by rw[List.length_append,List.length_map];omega);generalize hE:gathI (D++U.map Nb)=E at q2 d1 d2 hdue
 have k12:ja (λs:LR×Int=>da (Vm a kind all (k:Int) (wa k a) made t ts n i E (ba .item E) s.1 s.2)) (λs=>su a kind all (k:Int) (wa k a) made t ts n i E (ba .item E) s.1 s.2) (made,0) (.x (made++E.map (rowT t))):=by
  refine ja.fold E (λi b=>(b,(i:Int))) (λl=>made++l.map (rowT t)) (by simp) (λl x r hx=>?_) ?_
  .obtain⟨hlen,hrd,hin,hlss⟩:=Oa (t:=.item) hx;have hlim:∀y,lim (ba .row (made++l.map (rowT t))) (ba .row [y]):=λy=>Ab (t:=.row) (show(made++l.map (rowT t)).length<1099511627776 by rw[List.length_append,List.length_map];omega);simp only[su,Vm,ru,Tr.val,Tr.ob,ga,hlss,hrd,Ia (l:=l) (by omega)];exact⟨by simp[hin];exact hlim _,by simp[da,rowT]⟩
  .have hend:cmp .lss (E.length:Int) (ba .item E)=false:=Ma (t:=.item);simp only[su,Vm,ru,Tr.val,Tr.ob,ga,hend];exact⟨by simp,rfl⟩
 have a12:Cad a kind all (k:Int) (wa k a) made t ts n i E (ba .item E)=.x (made++E.map (rowT t)):=k12.v;have b12:Dad a kind all (k:Int) (wa k a) made t ts n i E (ba .item E):=k12.t;simp only[wU,vU,kH,iH,Bad,Aad,gH,fH,jH,lpS,Tr.val,Tr.ob,ga,hrd,p2,m2,g2,a11,q2,a12];refine⟨by simp[hin,p1,m1,g1,b11,q1,q2,b12],?_⟩;unfold Lf;rw[hdue]
theorem Yai:wH a kind/\vH a kind=Nf (Pa (cf kind a)):=by
 obtain⟨hl,hrow⟩:=gb hr
 have k5:∀(all:List Row) (k:Int),ja (λs:LR×Int=>da (Tm a kind all k (ba .row a) s.1 s.2)) (λs=>nu a kind all k (ba .row a) s.1 s.2) ([],0) (.x (wa k a)):=λall k=>by
  refine ja.fold a (λi b=>(b,(i:Int))) (λl=>wa k l) rfl (λl x r hx=>?_) ?_
  .obtain⟨hlen,hrd,hin,hlss⟩:=Oa (t:=.row) hx;have hol:=Zo k l;have hlim:∀y,lim (ba .row (wa k l)) (ba .row [y]):=λy=>Ab (t:=.row) (show(wa k l).length<1099511627776 by omega);simp only[nu,Tm,lu,bH,tad,sad,aH,Tr.val,Tr.ob,ga,hlss,hrd,Ia (l:=l) (by omega),Bb];rw[VZ];by_cases h:x.Key=k
   .exact⟨by simp[hin,h,hlim],by simp[da,h]⟩
   .exact⟨by simp[hin,h],by simp[da,h]⟩
  .have hend:cmp .lss (a.length:Int) (ba .row a)=false:=Ma (t:=.row);simp only[nu,Tm,lu,Tr.val,Tr.ob,hend];exact⟨by simp,rfl⟩
 have a5:∀all k,uad a kind all k (ba .row a)=.x (wa k a):=λall k=>(k5 all k).v;have b5:∀all k,vad a kind all k (ba .row a):=λall k=>(k5 all k).t
 have k8:∀(all:List Row) (k:Nat),k<4->ja (λs:LR×Int=>da (Wm a kind all (k:Int) (wa k a) (ib a k) (ba .time (ib a k)) s.1 s.2))
   (λs=>vu a kind all (k:Int) (wa k a) (ib a k) (ba .time (ib a k)) s.1 s.2) ([],0) (.x (Kb kind k (wa k a) (ib a k))):=λall k hk=>by
  obtain⟨hts,htl⟩:=To (a:=a) (k:=(k:Int));generalize hT:ib a (k:Int)=ts at hts htl;refine ja.fold ts (λi b=>(b,(i:Int))) (λl=>Kb kind k (wa k a) l) rfl (λl t r hx=>?_) ?_
  .obtain⟨hlen,hrd,hin,hlss⟩:=Oa (t:=.time) hx;obtain⟨m1,m2⟩:=So (kind:=kind) (Ui (k:=(k:Int)) hrow) l λt ht=>hts t (by rw[hx];simp[ht]);obtain⟨s1,s2⟩:=Xai hr hkind all hk m1 (by omega) (n:=ba .time ts) hin hrd;simp only[vu,Wm,tu,lH,Tr.val,Tr.ob,hlss,Ia (l:=l) (by omega),s2];rw[pZ];exact⟨by simp[s1],rfl⟩
  .have hend:cmp .lss (ts.length:Int) (ba .time ts)=false:=Ma (t:=.time);simp only[vu,Wm,tu,Tr.val,Tr.ob,hend];exact⟨by simp,rfl⟩
 have hmade:∀k:Nat,(Kb kind k (wa k a) (ib a k)).length<=6400:=λk=>by
  obtain⟨hts,htl⟩:=To (a:=a) (k:=(k:Int));have:=(So (kind:=kind) (Ui (k:=(k:Int)) hrow) _ hts).2;omega
 have hlen:∀i:Nat,((List.range i).flatMap λk:Nat=>Kb kind k (wa k a) (ib a k)).length<=6400*i:=λi=>by
  induction i with
  |zero=>simp
  |succ i ih=>
   rw[List.range_succ,List.flatMap_append,List.length_append,List.flatMap_singleton];have:=hmade i;omega
 have k2:ja (λs:LR×Int=>da (Xm a kind s.1 s.2)) (λs=>xu a kind s.1 s.2) ([],0) (.x (cf kind a)):=by
  refine pM (λi=>(List.range i).flatMap λk:Nat=>Kb kind k (wa k a) (ib a k)) (λi hi=>?_) ?_
  .have hlss:cmp .lss (i:Int) 4=true:=by rw[bc];simp;omega
   have hadd:ar .add .i64 (i:Int) 1=((i+1:Nat):Int):=by rw[cc (by omega)];omega
   have hl4:=hlen i;have hmi:=hmade i;have hlim:lim (ba .row ((List.range i).flatMap λk:Nat=>Kb kind k (wa k a) (ib a k))) (ba .row (Kb kind i (wa i a) (ib a i))):=ML (t:=.row) (by omega);have hp:XV a (i:Int):=show a.length<=1000000 by omega
   have k:=k8 ((List.range i).flatMap λk:Nat=>Kb kind k (wa k a) (ib a k)) i hi;generalize hall:((List.range i).flatMap λk:Nat=>Kb kind k (wa k a) (ib a k))=all at k hlim;have a8:Ead a kind all (i:Int) (wa i a) (ib a i) (ba .time (ib a i))=.x (Kb kind i (wa i a) (ib a i)):=k.v;have b8:Fad a kind all (i:Int) (wa i a) (ib a i) (ba .time (ib a i)):=k.t
   have e3:zU a kind all (i:Int)/\yU a kind all (i:Int)=.n (all++Kb kind i (wa i a) (ib a i)):=by
    simp only[zU,yU,pH,eH,xad,wad,dH,cH,oH,Had,Gad,nH,mH,lpS,Tr.val,Tr.ob,ga,a5,a8];exact⟨by simp[b5,a8,b8,hp,hlim],trivial⟩
   simp only[xu,Xm,wu,qH,Tr.val,Tr.ob,hlss,hadd,e3.2];rw[List.range_succ,List.flatMap_append,List.flatMap_singleton,hall];exact⟨by simp[e3.1],rfl⟩
  .have hend:cmp .lss ((4:Nat):Int) 4=false:=rfl;simp only[xu,Xm,wu,Tr.val,Tr.ob,hend];exact⟨by simp,rfl⟩
 have a2:Iad a kind=.x (cf kind a):=k2.v;have b2:Jad a kind:=k2.t;obtain⟨s1,s2⟩:=iM (kind:=kind) hrow;obtain⟨q1,q2⟩:=Wo (xs:=cf kind a) (by omega) λx hx=>(s1 x hx).1;simp only[wH,vH,CU,BU,uH,tH,Lad,Kad,sH,rH,lpS,Tr.val,Tr.ob,ga,a2,q2,ocR];exact⟨by simp[b2,q1],by unfold Nf;split<;>rfl⟩
theorem Zai{k:Nat}(_hk:k<4){made:List Row}(hm:Gc k made)(hml:made.length<=6400){ts:List Time}{t:Time}(ht:Fa t=true){i:Int}(hin:inb i (ba .time ts))(hrd:rd .time ts i=t) :
  kQ (k:Int) kind (wa k a) made ts i/\jQ (k:Int) kind (wa k a) made ts i=.n (Lf kind k (wa k a) made t):=by
 obtain⟨hl,hrow⟩:=gb hr;have ho:=Ui (k:=(k:Int)) hrow;have hol:=Zo (k:Int) a;obtain⟨p1,p2⟩:=pai (wa k a) t (by omega);rw[if_pos ⟨Vai hr k,ht⟩]at p2;have hpl:=ho.presLen t;have hpk:=ho.pres t;obtain⟨g1,g2⟩:=Qai (s:=Sd (wa k a) t) (by omega) (key:=(k:Int)) hkind;rw[NZ λx hx=>(hpk x hx).1]at g2;generalize hG:fb kind k (Sd (wa k a) t)=D at g2;have hDl:D.length<=101:=by rw[<-hG];have:=oZ kind k (Sd (wa k a) t);omega
 have hil:∀l:List Row,(db l t).length<=l.length:=λl=>by unfold db;rw[List.length_map];exact List.length_filter_le _ _
 have k8:ja (λs:LI×Int=>da (Hl (k:Int) kind (wa k a) made ts i t D s.1 s.2)) (λs=>mr (k:Int) kind (wa k a) made ts i t D s.1 s.2) (D,0) (.x (D++(db made t).map Nb)):=by
  refine ja.fold made (λi b=>(b,(i:Int))) (λl=>D++(db l t).map Nb) (by simp[db]) (λl x r hx=>?_) ?_
  .obtain⟨hlen,hrd,hin,hlss⟩:=Oa (t:=.row) hx;have hxo:=hm x (by rw[hx];simp);have hl1:=hil l;have hlim:∀y,lim (ba .item (D++(db l t).map Nb)) (ba .item [y]):=λy=>Ab (t:=.item) (show(D++(db l t).map Nb).length<1099511627776 by rw[List.length_append,List.length_map];omega);simp only[mr,Hl,lr,RB,W9,V9,PB,Tr.val,Tr.ob,ga,hlss,hrd,Ia (l:=l) (by omega),kM,hxo.2.2.2.2,ht,Bool.true_and];rw[SL];have e1:db [x] t=if Vc x.At t=true then [rIt x] else []:=by rw[oaj,paj,List.append_nil]
   rw[e1];cases hb:Vc x.At t with
   |true=>exact⟨by simp[hin,rk];exact hlim _,by simp[da,Nb,rIt,hxo.1]⟩
   |false=>exact⟨by simp[hin,rk],by simp[da]⟩
  .have hend:cmp .lss (made.length:Int) (ba .row made)=false:=Ma (t:=.row);simp only[mr,Hl,lr,Tr.val,Tr.ob,hend];exact⟨by simp,rfl⟩
 have a8:X9 (k:Int) kind (wa k a) made ts i t D=.x (D++(db made t).map Nb):=k8.v;have b8:Y9 (k:Int) kind (wa k a) made ts i t D:=k8.t;have hdue:Ti kind k (wa k a) made t=gathI (D++(db made t).map Nb):=by rw[lai hm,hG]
 obtain⟨d1,d2⟩:=gM (kind:=kind) (t:=t) ho hm;rw[hdue]at d1 d2;have him:=hil made
 obtain⟨q1,q2⟩:=fZ (D++(db made t).map Nb) (by rw[List.length_append,List.length_map];omega) (λx hx=>by
  rcases List.mem_append.1 hx with hx|hx
  .rw[<-hG]at hx;rw[(nZ (λy hy=>⟨(hpk y hy).2.1,(hpk y hy).2.2.1⟩) hx).2.2.2];unfold InR;omega
  .obtain⟨y,_,rfl⟩:=List.mem_map.1 hx;exact iZ y)
 generalize hE:gathI (D++(db made t).map Nb)=E at q2 d1 d2 hdue
 have k10:ja (λs:LR×Int=>da (Il (k:Int) kind (wa k a) made ts i t E s.1 s.2)) (λs=>pr (k:Int) kind (wa k a) made ts i t E s.1 s.2) (made,0) (.x (made++E.map (rowT t))):=by
  refine ja.fold E (λi b=>(b,(i:Int))) (λl=>made++l.map (rowT t)) (by simp) (λl x r hx=>?_) ?_
  .obtain⟨hlen,hrd,hin,hlss⟩:=Oa (t:=.item) hx;have hxk:=(d1 x (by rw[hx];simp)).1;have hlim:∀y,lim (ba .row (made++l.map (rowT t))) (ba .row [y]):=λy=>Ab (t:=.row) (show(made++l.map (rowT t)).length<1099511627776 by rw[List.length_append,List.length_map];omega);simp only[pr,Il,nr,Tr.val,Tr.ob,ga,hlss,hrd,Ia (l:=l) (by omega)];exact⟨by simp[hin];exact hlim _,by simp[da,rowT,hxk]⟩
  .have hend:cmp .lss (E.length:Int) (ba .item E)=false:=Ma (t:=.item);simp only[pr,Il,nr,Tr.val,Tr.ob,ga,hend];exact⟨by simp,rfl⟩
 have a10:baa (k:Int) kind (wa k a) made ts i t E=.x (made++E.map (rowT t)):=k10.v;have b10:caa (k:Int) kind (wa k a) made ts i t E:=k10.t;simp only[kQ,jQ,WB,UB,aaa,Z9,TB,SB,VB,lpS,Tr.val,Tr.ob,ga,hrd,p2,g2,a8,q2,a10];refine⟨by simp[hin,p1,g1,b8,q1,q2,b10],?_⟩;unfold Lf;rw[hdue]
theorem aaj{k:Nat}(hk:k<4):dC a (k:Int) kind/\cC a (k:Int) kind=Kb kind k (wa k a) (ib a k):=by
 obtain⟨hl,hrow⟩:=gb hr
 have k2:ja (λs:LR×Int=>da (Gl a (k:Int) kind s.1 s.2)) (λs=>jr a (k:Int) kind s.1 s.2) ([],0) (.x (wa k a)):=by
  refine ja.fold a (λi b=>(b,(i:Int))) (λl=>wa k l) rfl (λl x r hx=>?_) ?_
  .obtain⟨hlen,hrd,hin,hlss⟩:=Oa (t:=.row) hx;have hol:=Zo (k:Int) l;have hlim:∀y,lim (ba .row (wa k l)) (ba .row [y]):=λy=>Ab (t:=.row) (show(wa k l).length<1099511627776 by omega);simp only[jr,Gl,ir,HB,Q9,P9,GB,Tr.val,Tr.ob,ga,hlss,hrd,Ia (l:=l) (by omega),Bb];rw[VZ];by_cases h:x.Key=k
   .exact⟨by simp[hin,h,hlim],by simp[da,h]⟩
   .exact⟨by simp[hin,h],by simp[da,h]⟩
  .have hend:cmp .lss (a.length:Int) (ba .row a)=false:=Ma (t:=.row);simp only[jr,Gl,ir,Tr.val,Tr.ob,hend];exact⟨by simp,rfl⟩
 have a2:R9 a (k:Int) kind=.x (wa k a):=k2.v;have b2:S9 a (k:Int) kind:=k2.t;obtain⟨f1,f2⟩:=Uai hr (k:Int);obtain⟨hts,htl⟩:=To (a:=a) (k:=(k:Int));generalize hT:ib a (k:Int)=ts at hts htl f2
 have k5:ja (λs:LR×Int=>da (Jl (k:Int) kind (wa k a) ts s.1 s.2)) (λs=>rr (k:Int) kind (wa k a) ts s.1 s.2) ([],0) (.x (Kb kind k (wa k a) ts)):=by
  refine ja.fold ts (λi b=>(b,(i:Int))) (λl=>Kb kind k (wa k a) l) rfl (λl t r hx=>?_) ?_
  .obtain⟨hlen,hrd,hin,hlss⟩:=Oa (t:=.time) hx;obtain⟨m1,m2⟩:=So (kind:=kind) (Ui (k:=(k:Int)) hrow) l λt ht=>hts t (by rw[hx];simp[ht]);obtain⟨s1,s2⟩:=Zai hr hkind hk m1 (by omega) (hts t (by rw[hx];simp)) hin hrd;simp only[rr,Jl,qr,XB,Tr.val,Tr.ob,hlss,Ia (l:=l) (by omega),s2];rw[pZ];exact⟨by simp[s1],rfl⟩
  .have hend:cmp .lss (ts.length:Int) (ba .time ts)=false:=Ma (t:=.time);simp only[rr,Jl,qr,Tr.val,Tr.ob,hend];exact⟨by simp,rfl⟩
 have a5:daa (k:Int) kind (wa k a) ts=.x (Kb kind k (wa k a) ts):=k5.v;have b5:eaa (k:Int) kind (wa k a) ts:=k5.t;simp only[dC,cC,nQ,mQ,bC,MB,U9,T9,JB,IB,aC,gaa,faa,ZB,YB,lpS,Tr.val,Tr.ob,ga,a2,f2,a5,ocR];exact⟨by simp[b2,f1,b5],trivial⟩
theorem baj:mC a kind/\lC a kind=Pa (cf kind a):=by
 obtain⟨hl,hrow⟩:=gb hr
 have hmade:∀k:Nat,(Kb kind k (wa k a) (ib a k)).length<=6400:=λk=>by
  obtain⟨hts,htl⟩:=To (a:=a) (k:=(k:Int));have:=(So (kind:=kind) (Ui (k:=(k:Int)) hrow) _ hts).2;omega
 have hlen:∀i:Nat,((List.range i).flatMap λk:Nat=>Kb kind k (wa k a) (ib a k)).length<=6400*i:=λi=>by
  induction i with
  |zero=>simp
  |succ i ih=>
   rw[List.range_succ,List.flatMap_append,List.length_append,List.flatMap_singleton];have:=hmade i;omega
 have k2:ja (λs:LR×Int=>da (Kl a kind s.1 s.2)) (λs=>yr a kind s.1 s.2) ([],0) (.x (cf kind a)):=by
  refine pM (λi=>(List.range i).flatMap λk:Nat=>Kb kind k (wa k a) (ib a k)) (λi hi=>?_) ?_
  .have hlss:cmp .lss (i:Int) 4=true:=by rw[bc];simp;omega
   have hadd:ar .add .i64 (i:Int) 1=((i+1:Nat):Int):=by rw[cc (by omega)];omega
   have hl4:=hlen i;have hmi:=hmade i;have hlim:lim (ba .row ((List.range i).flatMap λk:Nat=>Kb kind k (wa k a) (ib a k))) (ba .row (Kb kind i (wa i a) (ib a i))):=ML (t:=.row) (by omega);obtain⟨e1,e2⟩:=aaj hr hkind hi;simp only[yr,Kl,vr,Tr.val,Tr.ob,ga,hlss,hadd,e2];rw[List.range_succ,List.flatMap_append,List.flatMap_singleton];exact⟨by simp[e1,hlim],rfl⟩
  .have hend:cmp .lss ((4:Nat):Int) 4=false:=rfl;simp only[yr,Kl,vr,Tr.val,Tr.ob,hend];exact⟨by simp,rfl⟩
 have a2:haa a kind=.x (cf kind a):=k2.v;have b2:iaa a kind:=k2.t;obtain⟨s1,s2⟩:=iM (kind:=kind) hrow;obtain⟨q1,q2⟩:=Pg (cf kind a) (by omega) λx hx=>(s1 x hx).1;simp only[mC,lC,tQ,sQ,jC,iC,kaa,jaa,gC,fC,lpS,Tr.val,Tr.ob,ga,a2,q2,ocR];exact⟨by simp[b2,q1],trivial⟩
end
end Go.Proofs.YtiiidenbemkihaaGreat

namespace Go.Proofs.YtiiidenbemkihaaGreat
open Go
theorem Pc(p:Plan):Plan.mk p.Kind p.Num p.Kids=p:=by cases p;rfl
def kd(k:Int):Int×Int×Int:=if k=1 then(0,0,1) else if k=2 then(1,1,7) else if k=3\/k=5 then(2,0,0) else if k=4 then(1,0,0) else if k=6 then(1,1,3) else(-1,0,0)
theorem Lw(k:Int):k=1\/k=2\/k=3\/k=4\/k=5\/k=6\/(k≠1/\k≠2/\k≠3/\k≠4/\k≠5/\k≠6):=by omega
theorem O0(k:Int):JE k/\Yh k=((kd k).1,(kd k).2.1,(kd k).2.2,()):=by
 simp only[JE,Yh,rS,qS,IE,GE,Iab,Hab,FE,EE,Gab,Fab,DE,Tr.val,Tr.ob,Bb];rcases Lw k with rfl|rfl|rfl|rfl|rfl|rfl|⟨h1,h2,h3,h4,h5,h6⟩
 .exact⟨by simp,rfl⟩
 .exact⟨by simp,rfl⟩
 .exact⟨by simp,rfl⟩
 .exact⟨by simp,rfl⟩
 .exact⟨by simp,rfl⟩
 .exact⟨by simp,rfl⟩
 .simp[h1,h2,h3,h4,h5,h6,kd,ocR]
theorem P0(k:Int):ax k/\Xi k=((kd k).1,(kd k).2.1,(kd k).2.2,()):=by
 simp only[ax,Xi,MM,JM,Zw,Yw,U1,R1,Xw,Ww,L1,J1,Vw,Tr.val,Tr.ob,Bb];rcases Lw k with rfl|rfl|rfl|rfl|rfl|rfl|⟨h1,h2,h3,h4,h5,h6⟩
 .exact⟨by simp,rfl⟩
 .exact⟨by simp,rfl⟩
 .exact⟨by simp,rfl⟩
 .exact⟨by simp,rfl⟩
 .exact⟨by simp,rfl⟩
 .exact⟨by simp,rfl⟩
 .simp[h1,h2,h3,h4,h5,h6,kd,ocR]
def Vd(p:Plan):Bool:=decide ((p.Kids.length:Int)=(kd p.Kind).1/\(kd p.Kind).2.1<=p.Num/\p.Num<=(kd p.Kind).2.2)
def okM:Nat->Plan->Bool
 |0,_=>false
 |d+1,p=>Vd p&&p.Kids.all (okM d)
theorem gaj(k:Int):(kd k).1<=2:=by
 unfold kd;repeat' split
 all_goals simp
theorem sM{p:Plan}(h:Vd p=true):p.Kids.length<=2:=by
 simp only[Vd,decide_eq_true_eq]at h;have:=gaj p.Kind;omega
theorem iaj:∀(d n:Nat),d<n->d<=1000->∀p:Plan,(Rc n).2 p d/\(Rc n).1 p d=okM d p:=by
 intro d
 induction d with
 |zero=>
  intro n hn _ p;obtain⟨m,rfl⟩ : ∃m,n=m+1:=⟨n - 1,by omega⟩;obtain⟨k1,k2⟩:=O0 p.Kind;have hl:cmp .lss ((0:Nat):Int) 1=true:=rfl;simp only[Rc,wm,vm,um,Tr.val,Tr.ob,ga,hl,cond_true,ocR];exact⟨by simp[k1],rfl⟩
 |succ d ih=>
  intro n hn hd p;obtain⟨m,rfl⟩ : ∃m,n=m+1:=⟨n - 1,by omega⟩;obtain⟨k1,k2⟩:=O0 p.Kind;generalize hD:((d+1:Nat):Int)=D;have hl:cmp .lss D 1=false:=by rw[bc];simp;omega
  have hsub:ar .sub .i64 D 1=(d:Int):=by rw[bf (by omega)];omega
  have hc:cond (cond (cond (cond (cmp .lss D 1) true (cmp .lss (Yh p.Kind).1 0)) true (cmp .neq (ba .plan p.Kids) (Yh p.Kind).1)) true (cmp .lss p.Num (Yh p.Kind).2.1)) true (cmp .gtr p.Num (Yh p.Kind).2.2.1)=!Vd p:=by
   rw[hl,k2];simp only[bc,Rd,xc,Vd,ba];rw[Bool.eq_iff_iff];simp;omega
  by_cases hh:Vd p=true
  .have hlen:=sM hh
   have k:ja (λs:Int=>da (rm (Rc m).1 (Rc m).2 D p.Kids (ba .plan p.Kids) s)) (λs=>ft (Rc m).1 (Rc m).2 D p.Kids (ba .plan p.Kids) s) 0 (if ub (λ_ x=>!okM d x) none p.Kids=true then .x () else .r false):=by
    refine ja.scan p.Kids _ (λl x r hx=>?_) ?_
    .obtain⟨hlen2,hrd,hin,hlss⟩:=Oa (t:=.plan) hx;obtain⟨i1,i2⟩:=ih m (by omega) (by omega) x;simp only[ft,rm,et,Tr.val,Tr.ob,ga,hlss,hrd,Pc,hsub,i2,Ia (l:=l) (by omega)];refine⟨by simp[hin,i1],?_⟩;cases okM d x<;>rfl
    .have hend:cmp .lss (p.Kids.length:Int) (ba .plan p.Kids)=false:=Ma (t:=.plan);simp only[ft,rm,et,Tr.val,Tr.ob,ga,hend];exact⟨by simp,rfl⟩
   have a2:Jab (Rc m).1 (Rc m).2 D p.Kids (ba .plan p.Kids)=_:=k.v;have b2:Kab (Rc m).1 (Rc m).2 D p.Kids (ba .plan p.Kids):=k.t;rw[rg]at a2;simp only[Rc,wm,vm,um,SE,Mab,Lab,RE,PE,lpS,Tr.val,Tr.ob,ga,hc,hh,Bool.not_true,a2,okM];refine⟨by simp[k1,b2],?_⟩;cases p.Kids.all (okM d)<;>rfl
  .have hh:Vd p=false:=by simpa using hh
   simp only[Rc,wm,vm,um,Tr.val,Tr.ob,ga,hc,hh,Bool.not_false,ocR,okM,Bool.false_and];exact⟨by simp[k1],trivial⟩
theorem jaj:∀(d n:Nat),d<n->d<=1000->∀p:Plan,(Qc n).2 p d/\(Qc n).1 p d=okM d p:=by
 intro d
 induction d with
 |zero=>
  intro n hn _ p;obtain⟨m,rfl⟩ : ∃m,n=m+1:=⟨n - 1,by omega⟩;obtain⟨k1,k2⟩:=P0 p.Kind;have hl:cmp .lss ((0:Nat):Int) 1=true:=rfl;simp only[Qc,Fk,Dk,Ck,Tr.val,Tr.ob,ga,hl,cond_true,ocR];exact⟨by simp[k1],rfl⟩
 |succ d ih=>
  intro n hn hd p;obtain⟨m,rfl⟩ : ∃m,n=m+1:=⟨n - 1,by omega⟩;obtain⟨k1,k2⟩:=P0 p.Kind;generalize hD:((d+1:Nat):Int)=D;have hl:cmp .lss D 1=false:=by rw[bc];simp;omega
  have hsub:ar .sub .i64 D 1=(d:Int):=by rw[bf (by omega)];omega
  have hin6:∀a b c,ug a b c/\Hd a b c=decide (b<=a/\a<=c):=λa b c=>by
   refine⟨trivial,?_⟩;show cond (cmp .geq a b) (cmp .leq a c) false=_;rw[Ng,Ee,Bool.eq_iff_iff];simp
  have hc:cond (cond (cmp .lss D 1) true (cmp .neq (ba .plan p.Kids) (Xi p.Kind).1)) true (!(Hd p.Num (Xi p.Kind).2.1 (Xi p.Kind).2.2.1))=!Vd p:=by
   rw[hl,k2,(hin6 _ _ _).2];simp only[Rd,Vd,ba];rw[Bool.eq_iff_iff];simp
  by_cases hh:Vd p=true
  .have hlen:=sM hh
   have k:ja (λs:Int=>da (Bk (Qc m).1 (Qc m).2 D p.Kind p.Num p.Kids s)) (λs=>gp (Qc m).1 (Qc m).2 D p.Kind p.Num p.Kids s) 0 (if ub (λ_ x=>!okM d x) none p.Kids=true then .x () else .r false):=by
    refine ja.scan p.Kids _ (λl x r hx=>?_) ?_
    .obtain⟨hlen2,hrd,hin,hlss⟩:=Oa (t:=.plan) hx;obtain⟨i1,i2⟩:=ih m (by omega) (by omega) x;simp only[gp,Bk,fp,Tr.val,Tr.ob,ga,hlss,hrd,Pc,hsub,i2,Ia (l:=l) (by omega)];refine⟨by simp[hin,i1],?_⟩;cases okM d x<;>rfl
    .have hend:cmp .lss (p.Kids.length:Int) (ba .plan p.Kids)=false:=Ma (t:=.plan);simp only[gp,Bk,fp,Tr.val,Tr.ob,ga,hend];exact⟨by simp,rfl⟩
   have a2:Z1 (Qc m).1 (Qc m).2 D p.Kind p.Num p.Kids=_:=k.v;have b2:C2 (Qc m).1 (Qc m).2 D p.Kind p.Num p.Kids:=k.t;rw[rg]at a2;simp only[Qc,Fk,Dk,Ck,nx,H2,D2,jx,fx,lpS,Tr.val,Tr.ob,ga,hc,hh,Bool.not_true,a2,okM];refine⟨by simp[k1,b2,(hin6 _ _ _).1],?_⟩;cases p.Kids.all (okM d)<;>rfl
  .have hh:Vd p=false:=by simpa using hh
   simp only[Qc,Fk,Dk,Ck,Tr.val,Tr.ob,ga,hc,hh,Bool.not_false,ocR,okM,Bool.false_and];exact⟨by simp[k1,(hin6 _ _ _).1],trivial⟩
theorem Mw{d:Nat}{p:Plan}(h:okM (d+1) p=true):p.Kids.length<=2/\∀x∈p.Kids,okM d x=true:=by
 simp only[okM,Bool.and_eq_true,List.all_eq_true]at h;exact⟨sM h.1,h.2⟩
theorem kaj(p:Plan):WE p/\VE p=okM 4 p:=by
 obtain⟨h1,h2⟩:=iaj 4 Pb (by decide) (by decide) p;simp only[WE,VE,zS,yS,UE,Tr.val,Tr.ob,ga,Pc,ocR];exact⟨⟨⟨h1,trivial⟩,trivial⟩,h2⟩
theorem T0(p:Plan):jp p/\ip p=okM 4 p:=by
 obtain⟨h1,h2⟩:=jaj 4 Pb (by decide) (by decide) p;simp only[jp,ip,UM,SM,qx,Tr.val,Tr.ob,ga,Pc,ocR];exact⟨⟨⟨h1,trivial⟩,trivial⟩,h2⟩
end Go.Proofs.YtiiidenbemkihaaGreat

namespace Go.Proofs.YtiiidenbemkihaaGreat
open Go Tg
def yc:Option (List Row)->List Row×Bool×Unit
 |some x=>(x,true,())
 |none=>([],false,())
def tg(o:Option (List (List Row))):Oc Empty (List Row×Bool×Unit) (List (List Row)) Empty Empty:=match o with
 |some ks=>.x ks
 |none=>.r ([],false,())
theorem rd0(ks:List (List Row)):rd .lrow ks 0=ks.getD 0 []:=rfl
theorem rd1(ks:List (List Row)):rd .lrow ks 1=ks.getD 1 []:=rfl
theorem caj(x:List Row):Nf x=yc (if Ga x=true then some x else none):=by
 unfold Nf;split<;>rfl
theorem wk{ks:List (List Row)}(h:∀x∈ks,Ga x=true)(n:Nat):Ga (ks.getD n [])=true:=by
 rw[List.getD_eq_getElem?_getD];cases hx:ks[n]? with
 |none=>rfl
 |some x=>exact h x (List.mem_of_getElem? hx)
theorem WZ(num:Int)(ks ins:List (List Row)):opR 1 num ks ins=ins.getD num.toNat []:=rfl
theorem XZ(num:Int)(ks ins:List (List Row)):opR 2 num ks ins=Pa (Ec num (ks.getD 0 [])):=rfl
theorem YZ(num:Int)(ks ins:List (List Row)):opR 3 num ks ins=Pa (ks.getD 0 []++ks.getD 1 []):=rfl
theorem ZZ(num:Int)(ks ins:List (List Row)):opR 4 num ks ins=Pa (Ya (ks.getD 0 [])):=rfl
theorem j0(num:Int)(ks ins:List (List Row)):opR 5 num ks ins=Pa (mc (ks.getD 0 []) (ks.getD 1 [])):=rfl
theorem G0(num:Int)(ks ins:List (List Row)):opR 6 num ks ins=Pa (cf num (ks.getD 0 [])):=rfl
theorem Ud{ks:List (List Row)}{i:Int}(h0:0<=i)(h:i<ks.length):inb i (ba .lrow ks):=by unfold inb ba;omega
theorem daj{ins:List (List Row)}(hlen:ins.length=2)(hins:∀a∈ins,Ga a=true):∀(d n:Nat),d<=n->∀p:Plan,okM d p=true->(md n).2 p ins/\(md n).1 p ins=yc (Vb d ins p):=by
 intro d
 induction d with
 |zero=>intro n _ p h;cases h
 |succ d ih=>
  intro n hn p hp;obtain⟨m,rfl⟩ : ∃m,n=m+1:=⟨n - 1,by omega⟩;obtain⟨hkl,hk⟩:=Mw hp
  have k:∃q,ja (λs:List LR×Int=>da (Ym (md m).1 (md m).2 ins p.Kind p.Num p.Kids (ba .plan p.Kids) s.1 s.2)) (λs=>Au (md m).1 (md m).2 ins p.Kind p.Num p.Kids (ba .plan p.Kids) s.1 s.2) ([],0) q/\q=tg (Ub (Vb d ins) p.Kids):=by
   refine ja.list p.Kids (λi b=>(b,(i:Int))) (λl b=>Ub (Vb d ins) l=some b) (b0:=[]) rfl rfl (λl x r b hx hI=>?_) (λb hI=>?_)
   .obtain⟨hlen2,hrd,hin,hlss⟩:=Oa (t:=.plan) hx;have hbl:=Ro hI;obtain⟨i1,i2⟩:=ih m (by omega) x (hk x (by rw[hx];simp));have hlim:∀y,lim (ba .lrow b) (ba .lrow [y]):=λy=>Ab (t:=.lrow) (show b.length<1099511627776 by omega);have hall:=Qo (Vb d ins) l (x::r);have hall1:=Qo (Vb d ins) l [x];simp only[Au,Ym,zu,Tr.val,Tr.ob,ga,hlss,hrd,Pc,i2,Ia (l:=l) (by omega)];rw[hI]at hall hall1;cases hf:Vb d ins x with
    |none=>
     simp only[Ub,hf]at hall;exact⟨by simp[-List.getD_eq_getElem?_getD,hin,i1,yc],.inr ⟨_,by simp[da,yc];rfl,by rw[hx,hall];rfl⟩⟩
    |some y=>
     simp only[Ub,hf]at hall1;exact⟨by simp[-List.getD_eq_getElem?_getD,hin,i1,yc,hlim],.inl ⟨b++[y],by simp[da,yc],hall1⟩⟩
   .have hend:cmp .lss (p.Kids.length:Int) (ba .plan p.Kids)=false:=Ma (t:=.plan);simp only[Au,Ym,zu,Tr.val,Tr.ob,ga,hend];exact⟨by simp,_,rfl,by rw[hI];rfl⟩
  obtain⟨q,kq,rfl⟩:=k;have a2:Mad (md m).1 (md m).2 ins p.Kind p.Num p.Kids (ba .plan p.Kids)=tg (Ub (Vb d ins) p.Kids):=kq.v;have b2:Nad (md m).1 (md m).2 ins p.Kind p.Num p.Kids (ba .plan p.Kids):=kq.t;have hroot:Vd p=true:=by simp only[okM,Bool.and_eq_true]at hp;exact hp.1
  simp only[Vd,decide_eq_true_eq]at hroot;obtain⟨r1,r2,r3⟩:=hroot;simp only[md,FH,EH,DH,CH,Pad,Oad,BH,zH,lpS,Tr.val,Tr.ob,ga,a2,Bb,Vb];cases hA:Ub (Vb d ins) p.Kids with
  |none=>exact⟨by simp[tg,b2],by simp[tg,ocR,yc]⟩
  |some ks=>
   have hkb:∀x∈ks,Ga x=true:=λx hx=>by
    obtain⟨q,_,hq⟩:=cM hA x hx;exact dM hq
   have hkn:=Ro hA;have h0:=wk hkb 0;have h1:=wk hkb 1;have hr0:=oe h0;have hr1:=oe h1;have hl0:=(gb hr0).1;have hl1:=(gb hr1).1;have hi0:∀x∈ks.getD 0 [],InR x.Diff:=λx hx=>Oe ((gb hr0).2 x hx);have hi1:∀x∈ks.getD 1 [],InR x.Diff:=λx hx=>Oe ((gb hr1).2 x hx);obtain⟨K,M,kids⟩:=p;simp only at r1 r2 r3 b2 a2 hA hkn⊢;simp only[tg,rd0,rd1,<-caj];rcases Lw K with rfl|rfl|rfl|rfl|rfl|rfl|⟨g1,g2,g3,g4,g5,g6⟩
   .simp only[kd]at r1 r2 r3;have hM:0<=M/\M<=1:=by simpa using And.intro r2 r3
    have hrd:rd .lrow ins M=ins.getD M.toNat []:=rfl;have hb:=wk hins M.toNat;have hlM:=(gb (oe hb)).1;obtain⟨c1,c2⟩:=oM (a:=ins.getD M.toNat []) (by omega);have hin:=Ud (ks:=ins) hM.1 (by omega);rw[WZ];refine⟨by simp[-List.getD_eq_getElem?_getD,b2,hin,hrd,c1],?_⟩;simp only[decide_true,hrd,c2,ocR];unfold Nf;rw[if_pos hb]
   .have hn1:ks.length=1:=by simp[kd]at r1;omega
    have hin:=Ud (ks:=ks) (i:=0) (by omega) (by omega);simp only[kd]at r2 r3;have hM:1<=M/\M<=7:=by simpa using And.intro r2 r3
    obtain⟨c1,c2⟩:=xai hr0 hM;rw[XZ];refine⟨by simp[-List.getD_eq_getElem?_getD,b2,hin,c1],?_⟩;simp[-List.getD_eq_getElem?_getD,c2,ocR]
   .have hn1:ks.length=2:=by simp[kd]at r1;omega
    have hin:=Ud (ks:=ks) (i:=0) (by omega) (by omega);have hin1:=Ud (ks:=ks) (i:=1) (by omega) (by omega);obtain⟨c1,c2⟩:=Eai (a:=ks.getD 0 []) (b:=ks.getD 1 []) (by omega) (by omega);obtain⟨e1,e2⟩:=Wo (xs:=ks.getD 0 []++ks.getD 1 []) (by rw[List.length_append];omega) (λx hx=>(List.mem_append.1 hx).elim (hi0 x) (hi1 x));rw[YZ];refine⟨by simp[-List.getD_eq_getElem?_getD,b2,hin,hin1,c1,c2,e1],?_⟩;simp only[c2,e2,ocR];unfold Nf;cases Ga _<;>rfl
   .have hn1:ks.length=1:=by simp[kd]at r1;omega
    have hin:=Ud (ks:=ks) (i:=0) (by omega) (by omega);obtain⟨c1,c2⟩:=Fai (a:=ks.getD 0 []) (by omega);have hnl:(Ya (ks.getD 0 [])).length=(ks.getD 0 []).length:=by simp[Ya]
    obtain⟨e1,e2⟩:=Wo (xs:=Ya (ks.getD 0 [])) (by omega) (vM _);rw[ZZ];refine⟨by simp[-List.getD_eq_getElem?_getD,b2,hin,c1,c2,e1],?_⟩;simp only[c2,e2,ocR];unfold Nf;cases Ga _<;>rfl
   .have hn1:ks.length=2:=by simp[kd]at r1;omega
    have hin:=Ud (ks:=ks) (i:=0) (by omega) (by omega);have hin1:=Ud (ks:=ks) (i:=1) (by omega) (by omega);obtain⟨c1,c2⟩:=Cai hr0 hr1;rw[j0];refine⟨by simp[-List.getD_eq_getElem?_getD,b2,hin,hin1,c1],?_⟩;simp[-List.getD_eq_getElem?_getD,c2,ocR]
   .have hn1:ks.length=1:=by simp[kd]at r1;omega
    have hin:=Ud (ks:=ks) (i:=0) (by omega) (by omega);simp only[kd]at r2 r3;have hM:1<=M/\M<=3:=by simpa using And.intro r2 r3
    obtain⟨c1,c2⟩:=Yai hr0 hM;rw[G0];refine⟨by simp[-List.getD_eq_getElem?_getD,b2,hin,c1],?_⟩;simp[-List.getD_eq_getElem?_getD,c2,ocR]
   .exfalso
    simp[kd,g1,g2,g3,g4,g5,g6]at r1
theorem eaj{ins:List (List Row)}(hlen:ins.length=2)(hins:∀a∈ins,Ga a=true):∀(d n:Nat),d<=n->∀p:Plan,okM d p=true->(Ac n).2 p ins/\∃o,(Ac n).1 p ins=(o,(Vb d ins p).isSome,())/\∀x,Vb d ins p=some x->o=x:=by
 intro d
 induction d with
 |zero=>intro n _ p h;cases h
 |succ d ih=>
  intro n hn p hp;obtain⟨m,rfl⟩ : ∃m,n=m+1:=⟨n - 1,by omega⟩;obtain⟨hkl,hk⟩:=Mw hp
  have k:∃q,ja (λs:List LR×Int=>da (Ml (Ac m).1 (Ac m).2 ins p.Kind p.Num p.Kids s.1 s.2)) (λs=>Br (Ac m).1 (Ac m).2 ins p.Kind p.Num p.Kids s.1 s.2) ([],0) q/\q=tg (Ub (Vb d ins) p.Kids):=by
   refine ja.list p.Kids (λi b=>(b,(i:Int))) (λl b=>Ub (Vb d ins) l=some b) (b0:=[]) rfl rfl (λl x r b hx hI=>?_) (λb hI=>?_)
   .obtain⟨hlen2,hrd,hin,hlss⟩:=Oa (t:=.plan) hx;have hbl:=Ro hI;obtain⟨i1,o,i2,i3⟩:=ih m (by omega) x (hk x (by rw[hx];simp));have hlim:∀y,lim (ba .lrow b) (ba .lrow [y]):=λy=>Ab (t:=.lrow) (show b.length<1099511627776 by omega);have hall:=Qo (Vb d ins) l (x::r);have hall1:=Qo (Vb d ins) l [x];simp only[Br,Ml,Ar,Tr.val,Tr.ob,ga,hlss,hrd,Pc,i2,Ia (l:=l) (by omega)];rw[hI]at hall hall1;cases hf:Vb d ins x with
    |none=>
     simp only[Ub,hf]at hall;exact⟨by simp[-List.getD_eq_getElem?_getD,hin,i1],.inr ⟨_,by simp[da];rfl,by rw[hx,hall];rfl⟩⟩
    |some y=>
     simp only[Ub,hf]at hall1;rw[i3 y hf];exact⟨by simp[-List.getD_eq_getElem?_getD,hin,i1,hlim],.inl ⟨b++[y],by simp[da],hall1⟩⟩
   .have hend:cmp .lss (p.Kids.length:Int) (ba .plan p.Kids)=false:=Ma (t:=.plan);simp only[Br,Ml,Ar,Tr.val,Tr.ob,ga,hend];exact⟨by simp,_,rfl,by rw[hI];rfl⟩
  obtain⟨q,kq,rfl⟩:=k;have a2:laa (Ac m).1 (Ac m).2 ins p.Kind p.Num p.Kids=tg (Ub (Vb d ins) p.Kids):=kq.v;have b2:maa (Ac m).1 (Ac m).2 ins p.Kind p.Num p.Kids:=kq.t;have hroot:Vd p=true:=by simp only[okM,Bool.and_eq_true]at hp;exact hp.1
  simp only[Vd,decide_eq_true_eq]at hroot;obtain⟨r1,r2,r3⟩:=hroot;simp only[Ac,xC,wC,vC,qC,oaa,naa,pC,oC,lpS,Tr.val,Tr.ob,ga,a2,Vb];cases hA:Ub (Vb d ins) p.Kids with
  |none=>exact⟨by simp[tg,b2],[],by simp[tg,ocR],λx hx=>by cases hx⟩
  |some ks=>
   have hkb:∀x∈ks,Ga x=true:=λx hx=>by
    obtain⟨q,_,hq⟩:=cM hA x hx;exact dM hq
   have hkn:=Ro hA;have h0:=wk hkb 0;have h1:=wk hkb 1;have hr0:=oe h0;have hr1:=oe h1;have hl0:=(gb hr0).1;have hl1:=(gb hr1).1;have hi0:∀x∈ks.getD 0 [],InR x.Diff:=λx hx=>Oe ((gb hr0).2 x hx);have hi1:∀x∈ks.getD 1 [],InR x.Diff:=λx hx=>Oe ((gb hr1).2 x hx);obtain⟨K,M,kids⟩:=p;simp only at r1 r2 r3 b2 a2 hA hkn⊢
   have key:(yQ (Ac m).1 (Ac m).2 ins K M kids ks/\xQ (Ac m).1 (Ac m).2 ins K M kids ks=.n (opR K M ks ins))/\(opR K M ks ins).length<1000000000:=by
    simp only[yQ,xQ,tC,sC,qaa,paa,rC,Tr.val,Tr.ob,ga,Bb,rd0,rd1,List.nil_append];rcases Lw K with rfl|rfl|rfl|rfl|rfl|rfl|⟨g1,g2,g3,g4,g5,g6⟩
    .simp only[kd]at r1 r2 r3;have hM:0<=M/\M<=1:=by simpa using And.intro r2 r3
     have hrd:rd .lrow ins M=ins.getD M.toNat []:=rfl;have hb:=wk hins M.toNat;have hlM:=(gb (oe hb)).1;have hin:=Ud (ks:=ins) hM.1 (by omega);have hlim:lim (ba .row []) (ba .row (ins.getD M.toNat [])):=by simp only[lim,ba,List.length_nil];omega
     rw[WZ];exact⟨⟨by simp only[hrd];simp[-List.getD_eq_getElem?_getD,hin];exact hlim,by simp[-List.getD_eq_getElem?_getD,hrd]⟩,by omega⟩
    .have hn1:ks.length=1:=by simp[kd]at r1;omega
     have hin:=Ud (ks:=ks) (i:=0) (by omega) (by omega);simp only[kd]at r2 r3;have hM:1<=M/\M<=7:=by simpa using And.intro r2 r3
     obtain⟨c1,c2⟩:=yai hr0 hM;have hgl:=ik (uM (h:=M) hi0);have hel:=uk M (ks.getD 0 []);rw[XZ];exact⟨⟨by simp only[];simp[-List.getD_eq_getElem?_getD,hin,c1],by simp[-List.getD_eq_getElem?_getD,c2]⟩,by omega⟩
    .have hn1:ks.length=2:=by simp[kd]at r1;omega
     have hin:=Ud (ks:=ks) (i:=0) (by omega) (by omega);have hin1:=Ud (ks:=ks) (i:=1) (by omega) (by omega);have hap:∀x∈ks.getD 0 []++ks.getD 1 [],InR x.Diff:=λx hx=>(List.mem_append.1 hx).elim (hi0 x) (hi1 x);obtain⟨e1,e2⟩:=Pg (ks.getD 0 []++ks.getD 1 []) (by rw[List.length_append];omega) hap;have hgl:=ik hap;rw[List.length_append]at hgl;have hlim:lim (ba .row []) (ba .row (ks.getD 0 [])):=by simp only[lim,ba,List.length_nil];omega
     have hlim2:lim (ba .row (ks.getD 0 [])) (ba .row (ks.getD 1 [])):=ML (t:=.row) (by omega);rw[YZ];exact⟨⟨by simp[-List.getD_eq_getElem?_getD,hin,hin1,hlim,hlim2,e1],by simp[-List.getD_eq_getElem?_getD,e2]⟩,by omega⟩
    .have hn1:ks.length=1:=by simp[kd]at r1;omega
     have hin:=Ud (ks:=ks) (i:=0) (by omega) (by omega);obtain⟨c1,c2⟩:=HZ h0;have hnl:(Ya (ks.getD 0 [])).length=(ks.getD 0 []).length:=by simp[Ya]
     rw[ZZ,DZ (FZ h0)];exact⟨⟨by simp[-List.getD_eq_getElem?_getD,hin,c1],by simp[-List.getD_eq_getElem?_getD,c2]⟩,by omega⟩
    .have hn1:ks.length=2:=by simp[kd]at r1;omega
     have hin:=Ud (ks:=ks) (i:=0) (by omega) (by omega);have hin1:=Ud (ks:=ks) (i:=1) (by omega) (by omega);obtain⟨c1,c2⟩:=Dai hr0 hr1;have hgl:=ik λx hx=>(Nw (gb hr0).2 (gb hr1).2 x hx).1;have hjl:=Xo hl0 hl1;rw[j0];exact⟨⟨by simp[-List.getD_eq_getElem?_getD,hin,hin1,c1],by simp[-List.getD_eq_getElem?_getD,c2]⟩,by omega⟩
    .have hn1:ks.length=1:=by simp[kd]at r1;omega
     have hin:=Ud (ks:=ks) (i:=0) (by omega) (by omega);simp only[kd]at r2 r3;have hM:1<=M/\M<=3:=by simpa using And.intro r2 r3
     obtain⟨c1,c2⟩:=baj hr0 hM;obtain⟨s1,s2⟩:=iM (kind:=M) (gb hr0).2;have hgl:=ik λx hx=>(s1 x hx).1;rw[G0];exact⟨⟨by simp[-List.getD_eq_getElem?_getD,hin,c1],by simp[-List.getD_eq_getElem?_getD,c2]⟩,by omega⟩
    .exfalso
     simp[kd,g1,g2,g3,g4,g5,g6]at r1
   obtain⟨⟨c1,c2⟩,c3⟩:=key;obtain⟨f1,f2⟩:=Vo (opR K M ks ins) c3;simp only[tg,uC,c2,f2];refine⟨by simp[b2,c1,c2,f1],opR K M ks ins,?_,?_⟩
   .cases hb:Ga (opR K M ks ins)<;>simp[ocR]
   .intro x hx;split at hx
    .simpa using hx
    .cases hx
def Pe(p:Plan)(ins:List (List Row)):Option (List Row):=if okM 4 p=true/\ins.length=2/\ins.all Ga=true then Vb 4 ins p else none
theorem faj(p:Plan)(ins:List (List Row))(hl:ins.length<1000000)(hl2:∀a∈ins,a.length<1000000000):PH p ins/\MH p ins=yc (Pe p ins):=by
 obtain⟨p1,p2⟩:=kaj p
 have k:ja (λs:Int=>da (Zm ins p.Kind p.Num p.Kids (ba .lrow ins) s)) (λs=>Du ins p.Kind p.Num p.Kids (ba .lrow ins) s) 0 (if ub (λ_ x=>!Ga x) none ins=true then .x () else .r ([],false,())):=by
  refine ja.scan ins _ (λl x r hx=>?_) ?_
  .obtain⟨hlen,hrd,hin,hlss⟩:=Oa (t:=.lrow) hx;obtain⟨b1,b2⟩:=sZ x (hl2 x (by rw[hx];simp));simp only[Du,Zm,Cu,Tr.val,Tr.ob,ga,hlss,hrd,b2,Ia (l:=l) (by omega)];refine⟨by simp[hin,b1],?_⟩;cases Ga x<;>rfl
  .have hend:cmp .lss (ins.length:Int) (ba .lrow ins)=false:=Ma (t:=.lrow);simp only[Du,Zm,Cu,Tr.val,Tr.ob,ga,hend];exact⟨by simp,rfl⟩
 have a2:Rad ins p.Kind p.Num p.Kids (ba .lrow ins)=_:=k.v;have b2:Sad ins p.Kind p.Num p.Kids (ba .lrow ins):=k.t;rw[rg]at a2;simp only[PH,MH,NU,MU,LH,JH,Uad,Tad,IH,HH,lpS,Tr.val,Tr.ob,ga,Pc,p2,Rd,a2];unfold Pe;have hne:decide (ba .lrow ins=2)=decide (ins.length=2):=decide_eq_decide.2 (by unfold ba;omega);rw[hne];cases h1:okM 4 p with
 |false=>exact⟨by simp[p1],by simp[ocR,yc]⟩
 |true=>
  by_cases h2:ins.length=2
  .cases h3:ins.all Ga with
   |false=>exact⟨by simp[p1,h2,b2],by simp[ocR,yc,h2]⟩
   |true=>
    have hins:∀a∈ins,Ga a=true:=List.all_eq_true.1 h3;obtain⟨f1,f2⟩:=daj h2 hins 4 Pb (by decide) p h1;have f1:IU p ins:=f1;have f2:GU p ins=yc (Vb 4 ins p):=f2;exact⟨by simp[p1,h2,b2,f1],by simp[ocR,h2,f2]⟩
  .exact⟨by simp[p1,h2],by simp[ocR,yc,h2]⟩
theorem H0(p:Plan)(ins:List (List Row))(hl:ins.length<1000000)(hl2:∀a∈ins,a.length<1000000000):Hr p ins/\Gr p ins=yc (Pe p ins):=by
 obtain⟨p1,p2⟩:=T0 p
 have k:ja (λs:Int=>da (Nl ins p.Kind p.Num p.Kids s)) (λs=>Er ins p.Kind p.Num p.Kids s) 0 (if ub (λ_ x=>!Ga x) none ins=true then .x () else .r ([],false,())):=by
  refine ja.scan ins _ (λl x r hx=>?_) ?_
  .obtain⟨hlen,hrd,hin,hlss⟩:=Oa (t:=.lrow) hx;obtain⟨b1,b2⟩:=Vo x (hl2 x (by rw[hx];simp));simp only[Er,Nl,Dr,Tr.val,Tr.ob,ga,hlss,hrd,b2,Ia (l:=l) (by omega)];refine⟨by simp[hin,b1],?_⟩;cases Ga x<;>rfl
  .have hend:cmp .lss (ins.length:Int) (ba .lrow ins)=false:=Ma (t:=.lrow);simp only[Er,Nl,Dr,Tr.val,Tr.ob,ga,hend];exact⟨by simp,rfl⟩
 have a2:saa ins p.Kind p.Num p.Kids=_:=k.v;have b2:taa ins p.Kind p.Num p.Kids:=k.t;rw[rg]at a2;simp only[Hr,Gr,EQ,DQ,CC,BC,vaa,uaa,AC,zC,lpS,Tr.val,Tr.ob,ga,Pc,p2,Rd,a2];unfold Pe;have hne:decide (ba .lrow ins=2)=decide (ins.length=2):=decide_eq_decide.2 (by unfold ba;omega);rw[hne];cases h1:okM 4 p with
 |false=>exact⟨by simp[p1],by simp[ocR,yc]⟩
 |true=>
  by_cases h2:ins.length=2
  .cases h3:ins.all Ga with
   |false=>exact⟨by simp[p1,h2,b2],by simp[ocR,yc,h2]⟩
   |true=>
    have hins:∀a∈ins,Ga a=true:=List.all_eq_true.1 h3;obtain⟨f1,o,f2,f3⟩:=eaj h2 hins 4 Pb (by decide) p h1;have f1:AQ p ins:=f1;have f2:zQ p ins=(o,(Vb 4 ins p).isSome,()):=f2;cases hF:Vb 4 ins p with
    |none=>
     rw[hF]at f2;exact⟨by simp[p1,h2,b2,f1,f2],by simp[ocR,h2,f2,yc]⟩
    |some x=>
     rw[hF]at f2;rw[f3 x hF]at f2;exact⟨by simp[p1,h2,b2,f1,f2],by simp[ocR,h2,f2,yc]⟩
  .exact⟨by simp[p1,h2],by simp[ocR,yc,h2]⟩
end Go.Proofs.YtiiidenbemkihaaGreat

namespace Go.Proofs.YtiiidenbemkihaaGreat
open Go
def Bd:Nat->Int
 |0=>2
 |d+1=>2*Bd d+4
theorem mM:∀d,2<=Bd d
 |0=>Int.le_refl _
 |d+1=>by have:=mM d;simp only[Bd];omega
theorem uZ{b:List Int}(hb:Xc b):∀(d n:Nat),d<n->d<=4->∀p:Int,0<=p/\p+Bd d<=500000 ->
  (zc n).2 (b,p) d/\p<=((zc n).1 (b,p) d).2/\((zc n).1 (b,p) d).2<=p+Bd d:=by
 intro d
 induction d with
 |zero=>
  intro n hn _ p hp;obtain⟨m,rfl⟩ : ∃m,n=m+1:=⟨n - 1,by omega⟩;have hB:Bd 0=2:=rfl;obtain⟨x1,x2,_,_⟩:=Hb hb (p:=p) (n:=2) (by omega) (by omega);have hl:cmp .lss ((0:Nat):Int) 2=true:=rfl;simp only[zc,dp,zk,yk,Tr.val,Tr.ob,ga,hl,cond_true,Bool.not_true,Bool.false_and,cond_false,ocR,x2];exact⟨by simp[x1],by omega,by omega⟩
 |succ d ih=>
  intro n hn hd p hp;obtain⟨m,rfl⟩ : ∃m,n=m+1:=⟨n - 1,by omega⟩;have hBp:=mM d;have hB:Bd (d+1)=2*Bd d+4:=rfl;generalize hD:((d+1:Nat):Int)=D;have hsub:ar .sub .i64 D 1=(d:Int):=by rw[bf (by omega)];omega
  obtain⟨x1,x2,_,_⟩:=Hb hb (p:=p) (n:=6) (by omega) (by omega)
  have hP:p<=cond ((!(cmp .lss D 2))&&true) (la (b,p) 6).2 p/\cond ((!(cmp .lss D 2))&&true) (la (b,p) 6).2 p<=p+1:=by
   rw[x2];cases cmp .lss D 2<;>simp<;>omega
  simp only[zc,dp,zk,yk,Tr.val,Tr.ob,ga,hsub];generalize cond ((!(cmp .lss D 2))&&true) (la (b,p) 6).2 p=P at hP⊢;obtain⟨y1,y2,_,_⟩:=Hb hb (p:=P) (n:=2) (by omega) (by omega);obtain⟨z1,z2,_,_⟩:=Hb hb (p:=P) (n:=6) (by omega) (by omega);obtain⟨u1,u2,_,_⟩:=Hb hb (p:=P+1) (n:=7) (by omega) (by omega);obtain⟨w1,w2,_,_⟩:=Hb hb (p:=P+1) (n:=3) (by omega) (by omega)
  have R:∀q,P+1<=q->q<=P+2+Bd d->(zc m).2 (b,q) d/\q<=((zc m).1 (b,q) d).2/\((zc m).1 (b,q) d).2<=q+Bd d:=λq h1 h2=>ih m (by omega) (by omega) q (by omega)
  obtain⟨r1,r2,r3⟩:=R (P+1) (by omega) (by omega);obtain⟨s1,s2,s3⟩:=R (P+1+1) (by omega) (by omega);obtain⟨t1,t2,t3⟩:=R ((zc m).1 (b,P+1) d).2 (by omega) (by omega);simp only[z2,u2,w2,y2];cases cond (cmp .lss D 2) true (cmp .eql (la (b,p) 6).1 0) with
  |true=>exact⟨by simp[x1,y1],by simp only[ocR];omega,by simp only[ocR];omega⟩
  |false=>
   cases cmp .eql (la (b,P) 6).1 0 with
   |true=>exact⟨by simp[x1,z1,u1,s1],by simp only[ocR];omega,by simp only[ocR];omega⟩
   |false=>
    cases cmp .eql (la (b,P) 6).1 1 with
    |true=>exact⟨by simp[x1,z1,r1,t1],by simp only[ocR];omega,by simp only[ocR];omega⟩
    |false=>
     cases cmp .eql (la (b,P) 6).1 2 with
     |true=>exact⟨by simp[x1,z1,r1],by simp only[ocR];omega,by simp only[ocR];omega⟩
     |false=>
      cases cmp .eql (la (b,P) 6).1 3 with
      |true=>exact⟨by simp[x1,z1,r1,t1],by simp only[ocR];omega,by simp only[ocR];omega⟩
      |false=>exact⟨by simp[x1,z1,w1,s1],by simp only[ocR];omega,by simp only[ocR];omega⟩
end Go.Proofs.YtiiidenbemkihaaGreat

namespace Go.Proofs.YtiiidenbemkihaaGreat
open Go
structure rM(p:Plan)(ins:List (List Row))(x:List Row):Prop where
 ok:okM 4 p=true
 len:ins.length=2
 every:∀a∈ins,Ga a=true
 flow:Vb 4 ins p=some x
 batch:Ga x=true
 short:x.length<=400
theorem cp{p:Plan}{ins:List (List Row)}{x:List Row}(h:Pe p ins=some x):rM p ins x:=by
 unfold Pe at h;split at h
 .rename_i h1;have hb:=dM h;exact⟨h1.1,h1.2.1,List.all_eq_true.1 h1.2.2,h,hb,(gb (oe hb)).1⟩
 .cases h
theorem rM.of{p:Plan}{ins:List (List Row)}{x:List Row}(h1:okM 4 p=true)(h2:ins.length=2)(h3:∀a∈ins,Ga a=true)(h4:Vb 4 ins p=some x):Pe p ins=some x:=by
 unfold Pe;rw[if_pos ⟨h1,h2,List.all_eq_true.2 h3⟩,h4]
end Go.Proofs.YtiiidenbemkihaaGreat

namespace Go.Proofs.YtiiidenbemkihaaGreat
open Go Tg
def allT(n:Nat):List Time:=(List.range n).flatMap λa:Nat=>(List.range 8).map λb:Nat=>(⟨(a:Int),(b:Int)⟩ : Time)
end Go.Proofs.YtiiidenbemkihaaGreat

namespace Go.Proofs.YtiiidenbemkihaaGreat
open Go Tg
theorem Aaj{b:List Int}(hb:Xc b){p:Int}(hp:0<=p/\p<=700000):bE (b,p):=by
 obtain⟨a1,a2⟩:=Ew hb (p:=p) (by omega);obtain⟨c1,c2,c3,c4⟩:=Hb hb (p:=p+3) (n:=16) (by omega) (by omega);obtain⟨d1,d2,d3,d4⟩:=Hb hb (p:=p+3+1) (n:=2) (by omega) (by omega);have hin:∀u v:Int,inb (la (b,p+3+1) 2).1 (ba .int [u,v]):=λu v=>⟨d3,d4⟩
 have k:∀x,NR b (p+3) x:=λx=>by
  simp only[NR,Ts,Tr.ob,ga,c2];simp[c1,d1,hin]
 simp only[bE,QR,Vs,Us,Tr.ob,ga,a2];simp[a1,k]
end Go.Proofs.YtiiidenbemkihaaGreat

namespace Go.Proofs.YtiiidenbemkihaaGreat
open Go Tg
def Of(y:Option Time)(x:Time):Bool:=!Fa x||match y with
 |none=>false
 |some y=>decide (x.A<=y.A)||decide (y.B<=x.B)
def Wd(f:List Time):Bool:=ub Of none f
theorem wM:∀ {f:List Time}{y:Option Time},ub Of y f=true->∀s∈f,Fa s=true
 |[],_,_,s,hs=>by cases hs
 |x::r,y,h,s,hs=>by
  simp only[ub,Of,Bool.and_eq_true,Bool.not_eq_true',Bool.or_eq_false_iff]at h;rcases List.mem_cons.1 hs with rfl|hs
  .simpa using h.1.1
  .exact wM h.2 s hs
theorem xk(f:List Time)(hl:f.length<1000000000):Ug f/\mf f=Wd f:=by
 have k2:ja (λs:Int=>da (aj f s)) (λs=>Sk f s) 0 (if ub Of none f=true then .x () else .r false):=by
  refine ja.scan f _ (λl x r hx=>?_) ?_
  .obtain⟨hlen,hrd,hin,hlss⟩:=Oa (t:=.time) hx;rcases Hw hx hl with⟨h1,h2⟩|⟨l',y,h1,h2,h3,h4,h5⟩
   .have hg:cmp .gtr (l.length:Int) 0=false:=by rw[h1];rfl
    simp only[Sk,aj,Rk,Tr.val,Tr.ob,ga,hlss,hrd,Ia (l:=l) (by omega),hg,h2,Of,Fh];refine⟨by simp[hin,pg],?_⟩;cases Fa x<;>rfl
   .have hy:rd .time f (l'.length:Int)=y:=by rw[h4];exact Ri
    have hin2:inb (l'.length:Int) (ba .time f):=by rw[h4];exact Si (t:=.time)
    simp only[Sk,aj,Rk,Tr.val,Tr.ob,ga,hlss,hrd,Ia (l:=l) (by omega),h2,h3,hy,h5,Of,Fh,Ng,Ee];refine⟨by simp[hin,hin2,pg],?_⟩;cases Fa x<;>cases decide (x.A<=y.A)<;>cases decide (y.B<=x.B)<;>rfl
  .have hend:cmp .lss (f.length:Int) (ba .time f)=false:=Ma (t:=.time);simp only[Sk,aj,Rk,Tr.val,Tr.ob,ga,hend];exact⟨by simp,rfl⟩
 have a2:U4 f=_:=k2.v;have b2:V4 f:=k2.t;simp only[Ug,mf,UN,SN,Ey,Dy,Y4,X4,Cy,By,lpS,Tr.val,Tr.ob,Wd,a2];refine⟨by simp[b2],?_⟩;cases ub Of none f<;>rfl
theorem raj(f:List Time)(hl:f.length<1000000000):BE f/\zE f=Wd f:=by
 have k2:ja (λs:Int=>da (xj f (ba .time f) s)) (λs=>qm f (ba .time f) s) 0 (if ub Of none f=true then .x () else .r false):=by
  refine ja.scan f _ (λl x r hx=>?_) ?_
  .obtain⟨hlen,hrd,hin,hlss⟩:=Oa (t:=.time) hx;rcases Hw hx hl with⟨h1,h2⟩|⟨l',y,h1,h2,h3,h4,h5⟩
   .have hg:cmp .gtr (l.length:Int) 0=false:=by rw[h1];rfl
    simp only[qm,xj,pm,Tr.val,Tr.ob,ga,hlss,hrd,Ia (l:=l) (by omega),hg,h2,Of,Fw];refine⟨by simp[hin,Gw],?_⟩;cases Fa x<;>rfl
   .have hy:rd .time f (l'.length:Int)=y:=by rw[h4];exact Ri
    have hin2:inb (l'.length:Int) (ba .time f):=by rw[h4];exact Si (t:=.time)
    simp only[qm,xj,pm,Tr.val,Tr.ob,ga,hlss,hrd,Ia (l:=l) (by omega),h2,h3,hy,h5,Of,Fw,Ng,Ee];refine⟨by simp[hin,hin2,Gw],?_⟩;cases Fa x<;>cases decide (x.A<=y.A)<;>cases decide (y.B<=x.B)<;>rfl
  .have hend:cmp .lss (f.length:Int) (ba .time f)=false:=Ma (t:=.time);simp only[qm,xj,pm,Tr.val,Tr.ob,ga,hend];exact⟨by simp,rfl⟩
 have a2:Bab f (ba .time f)=_:=k2.v;have b2:Cab f (ba .time f):=k2.t;simp only[BE,zE,lS,kS,yE,xE,Eab,Dab,vE,uE,lpS,Tr.val,Tr.ob,Wd,a2];refine⟨by simp[b2],?_⟩;cases ub Of none f<;>rfl
def Wi(s t:Time):Bool:=Fa s&&Fa t&&Vc s t
theorem xM{α:Type}(c:α->Bool):∀(xs:List α) (y:Option α),ub (λ_ x=>c x) y xs=!xs.any c
 |[],_=>rfl
 |x::r,y=>by simp only[ub,List.any_cons,xM c r (some x),Bool.not_or]
theorem saj(f:List Time)(t:Time)(hl:f.length<1000000000):Ql f t/\Pl f t=(Wd f&&f.any (Wi · t)):=by
 obtain⟨p1,p2⟩:=xk f hl
 have k2:ja (λs:Int=>da (Ol f t s)) (λs=>Kr f t s) 0 (if ub (λ_ x=>Wi x t) none f=true then .x () else .r true):=by
  refine ja.scan f _ (λl x r hx=>?_) ?_
  .obtain⟨hlen,hrd,hin,hlss⟩:=Oa (t:=.time) hx;have hv:Zi x t=Wi x t:=kM x t;simp only[Kr,Ol,Jr,Tr.val,Tr.ob,ga,hlss,hrd,Ia (l:=l) (by omega),hv];refine⟨by simp[hin,rk],?_⟩;cases Wi x t<;>rfl
  .have hend:cmp .lss (f.length:Int) (ba .time f)=false:=Ma (t:=.time);simp only[Kr,Ol,Jr,Tr.val,Tr.ob,ga,hend];exact⟨by simp,rfl⟩
 rw[xM]at k2;have a2:waa f t=_:=k2.v;have b2:xaa f t:=k2.t;simp only[Ql,Pl,IQ,HQ,IC,HC,zaa,yaa,GC,FC,lpS,Tr.val,Tr.ob,ga,a2,p2];refine⟨by simp[b2,p1],?_⟩;cases Wd f<;>cases f.any (Wi · t)<;>rfl
theorem taj(f:List Time)(hl:f.length<1000000000):Ux f:=by
 have k2:ja (λs:Int=>da (Jk f s)) (λs=>Bp f s) 0 (if ub (λ_ x=>!Fa x) none f=true then .x () else .r false):=by
  refine ja.scan f _ (λl x r hx=>?_) ?_
  .obtain⟨hlen,hrd,hin,hlss⟩:=Oa (t:=.time) hx;simp only[Bp,Jk,Ap,Tr.val,Tr.ob,ga,hlss,hrd,Ia (l:=l) (by omega),Fh];refine⟨by simp[hin,pg],?_⟩;cases Fa x<;>rfl
  .have hend:cmp .lss (f.length:Int) (ba .time f)=false:=Ma (t:=.time);simp only[Bp,Jk,Ap,Tr.val,Tr.ob,ga,hend];exact⟨by simp,rfl⟩
 have b2:R3 f:=k2.t;simp only[Ux,oN,Tx,Sx,U3,Rx,Qx,lpS,Tr.ob];simp[b2]
theorem uaj(f m:List Time)(a b:Int)(hl:f.length<1000000000):wN f m a b/\∃q,vN f m a b=.n q:=by
 obtain⟨q,k,q',rfl⟩:=ja.list (step:=λs:Bool×Int=>da (Mk f m a b s.1 s.2)) (ob:=λs=>Ep f m a b s.1 s.2) (s0:=(false,0)) f (λi b=>(b,(i:Int))) (λ_ _=>True) (b0:=false) (Q:=λq=>∃q',q=.x q') rfl trivial
  (λl x r q hx _=>by
    obtain⟨hlen,_,hin,hlss⟩:=Oa (t:=.time) hx
    have e:tN f m a b q l.length/\∃q',sN f m a b q l.length=.n q':=by
     simp only[tN,sN,Vx,Tr.val,Tr.ob,ga];refine⟨by simp[hin],?_⟩;split<;>exact⟨_,rfl⟩
    obtain⟨e1,q',e2⟩:=e;simp only[Ep,Mk,Cp,Wx,Tr.val,Tr.ob,hlss,e2,Ia (l:=l) (by omega)];exact⟨by simp[e1],.inl ⟨q',rfl,trivial⟩⟩)
  (λq _=>by
    have hend:cmp .lss (f.length:Int) (ba .time f)=false:=Ma (t:=.time);simp only[Ep,Mk,Cp,Tr.val,Tr.ob,hend];exact⟨by simp,_,rfl,q,rfl⟩)
 have a2:j4 f m a b=.x q':=k.v;have b2:B4 f m a b:=k.t;simp only[wN,vN,Yx,Xx,lpS,Tr.val,Tr.ob,a2];exact⟨by simp[b2],q',rfl⟩
theorem vaj(f m:List Time)(a b:Int)(q0:Bool)(hl:f.length<1000000000):BN f m a b q0/\∃q,AN f m a b q0=.n q:=by
 obtain⟨q,k,q',rfl⟩:=ja.list (step:=λs:Bool×Int=>da (Nk f m a b q0 s.1 s.2)) (ob:=λs=>Gp f m a b q0 s.1 s.2) (s0:=(q0,0)) f (λi b=>(b,(i:Int))) (λ_ _=>True) (b0:=q0) (Q:=λq=>∃q',q=.x q') rfl trivial
  (λl x r q hx _=>by
    obtain⟨hlen,_,hin,hlss⟩:=Oa (t:=.time) hx
    have e:yN f m a b q l.length/\∃q',xN f m a b q l.length=.n q':=by
     simp only[yN,xN,ay,Tr.val,Tr.ob,ga];refine⟨by simp[hin,rk],?_⟩;split<;>exact⟨_,rfl⟩
    obtain⟨e1,q',e2⟩:=e;simp only[Gp,Nk,Fp,cy,Tr.val,Tr.ob,hlss,e2,Ia (l:=l) (by omega)];exact⟨by simp[e1],.inl ⟨q',rfl,trivial⟩⟩)
  (λq _=>by
    have hend:cmp .lss (f.length:Int) (ba .time f)=false:=Ma (t:=.time);simp only[Gp,Nk,Fp,Tr.val,Tr.ob,hend];exact⟨by simp,_,rfl,q,rfl⟩)
 have a2:C4 f m a b q0=.x q':=k.v;have b2:D4 f m a b q0:=k.t;simp only[BN,AN,ey,dy,lpS,Tr.val,Tr.ob,a2];exact⟨by simp[b2],q',rfl⟩
theorem waj(f m:List Time)(a b:Int)(hl:f.length<1000000000)(hm:m.length<=1000):DN f m a b/\∃m',CN f m a b=.n m'/\m'.length<=m.length+1:=by
 obtain⟨a1,q,a2⟩:=uaj f m a b hl;obtain⟨b1,u,b2⟩:=vaj f m a b q hl;have hlim:∀w,lim (ba .time m) (ba .time [w]):=λw=>Ab (t:=.time) (show m.length<1099511627776 by omega);simp only[DN,CN,iy,Zx,fy,Tr.val,Tr.ob,ga,a2,b2];refine⟨by simp[a1,b1,hlim],?_⟩;cases u with
 |true=>exact⟨_,rfl,by simp⟩
 |false=>exact⟨_,rfl,by omega⟩
theorem xaj(f m:List Time)(a:Int)(hl:f.length<1000000000)(hm:m.length<=900):GN f m a/\∃m',FN f m a=.n m'/\m'.length<=m.length+8:=by
 obtain⟨q,k,m',rfl,hm'⟩:=ja.down (step:=λs:List Time×Int=>da (Ok f m a s.1 s.2)) (ob:=λs=>Ip f m a s.1 s.2) (s0:=(m,7)) (λn b=>(b,(n:Int) - 1)) (λn b=>b.length+n<=m.length+8) (n0:=8) (b0:=m) (Q:=λq=>∃m',q=.x m'/\m'.length<=m.length+8) rfl (by simp)
  (λn b hn hI=>by
    have hg:cmp .geq (((n+1:Nat):Int) - 1) 0=true:=by rw[Ng];simp
    have hs:ar .sub .i64 (((n+1:Nat):Int) - 1) 1=(n:Int) - 1:=by rw[bf (by omega)];omega
    obtain⟨e1,b',e2,e3⟩:=waj f b a (((n+1:Nat):Int) - 1) hl (by omega);generalize (((n+1:Nat):Int) - 1)=k at hg hs e1 e2⊢;simp only[Ip,Ok,Hp,jy,Tr.val,Tr.ob,hg,hs,e2];exact⟨by simp[e1],b',rfl,by omega⟩)
  (λb hI=>by
    have hg:cmp .geq (((0:Nat):Int) - 1) 0=false:=rfl;simp only[Ip,Ok,Hp,Tr.val,Tr.ob,hg];exact⟨by simp,_,rfl,b,rfl,by omega⟩)
 have a2:E4 f m a=.x m':=k.v;have b2:H4 f m a:=k.t;simp only[GN,FN,my,ly,lpS,Tr.val,Tr.ob,a2];exact⟨by simp[b2],m',rfl,hm'⟩
theorem U0(f:List Time)(hl:f.length<1000000000):Np f/\(Mp f).length<=64:=by
 have h1:=taj f hl
 obtain⟨q,k,m',rfl,hm'⟩:=ja.list (step:=λs:List Time×Int=>da (Qk f s.1 s.2)) (ob:=λs=>Kp f s.1 s.2) (s0:=([],0)) (List.range 8) (λi b=>(b,(i:Int))) (λl b=>b.length<=8*l.length) (b0:=[]) (Q:=λq=>∃m',q=.x m'/\m'.length<=64) rfl (by simp)
  (λl x r b hx hI=>by
    have hlen:8=l.length+(r.length+1):=by have:=congrArg List.length hx;simpa using this
    have hg:cmp .leq (l.length:Int) 7=true:=by rw[Ee];simp;omega
    obtain⟨e1,b',e2,e3⟩:=xaj f b l.length hl (by omega);simp only[Kp,Qk,Jp,ny,Tr.val,Tr.ob,hg,Ia (l:=l) (by omega),e2];exact⟨by simp[e1],.inl ⟨b',rfl,by rw[List.length_append,List.length_singleton];omega⟩⟩)
  (λb hI=>by
    have hg:cmp .leq ((List.range 8).length:Int) 7=false:=rfl;simp only[Kp,Qk,Jp,Tr.val,Tr.ob,hg];exact⟨by simp,_,rfl,b,rfl,by simpa using hI⟩)
 have a2:I4 f=.x m':=k.v;have b2:J4 f:=k.t;simp only[Np,Mp,LN,JN,uy,sy,P4,L4,ry,qy,lpS,Tr.val,Tr.ob,ga,a2];refine⟨by simp[h1,b2],?_⟩;cases pN f with
 |true=>exact hm'
 |false=>exact Nat.zero_le _
theorem yaj{b:List Int}(hb:Xc b){p m:Int}(hp:0<=p/\p<=500000)(hm:0<=m/\m<=100) :
  Ox (b,p) m/\p<=(Yi (b,p) m).2/\(Yi (b,p) m).2<=p+1+3*m/\((Yi (b,p) m).1.length:Int)<=m:=by
 have h1:ar .add .i64 m 1=m+1:=cc (by omega);obtain⟨a1,a2,a3,a4⟩:=Hb hb (p:=p) (n:=m+1) (by omega) (by omega);generalize hn:(la (b,p) (m+1)).1=n at a3 a4;obtain⟨n0,rfl⟩ : ∃n0:Nat,n=(n0:Int):=⟨n.toNat,by omega⟩
 have key:∃q,ja (λs=>da ((λ(s:Int×(List Time)×Int)=>Ik b (p+1) (n0:Int) s.1 s.2.1 s.2.2) s)) (λs=>yp b (p+1) (n0:Int) s.1 s.2.1 s.2.2) (p+1,[],(n0:Int)) q /\
   ∃p' out,q=.x (p',out)/\p+1<=p'/\p'<=p+1+3*n0/\out.length<=n0:=by
  refine ja.down (λi (b:Int×List Time)=>(b.1,b.2,(i:Int))) (λi b=>p+1<=b.1/\b.1+3*i<=p+1+3*n0/\b.2.length+i<=n0) (n0:=n0) (b0:=(p+1,[])) rfl ⟨by simp,by simp,by simp⟩ ?_ ?_
  .rintro i ⟨q,out⟩ hi ⟨i1,i2,i3⟩;simp only[]at i1 i2 i3;have hg:cmp .gtr (((i+1:Nat):Int)) 0=true:=by rw[xc];simp
   have hs:ar .sub .i64 (((i+1:Nat):Int)) 1=(i:Int):=by rw[bf (by omega)];omega
   obtain⟨r1,r2⟩:=Ew hb (p:=q) (by omega);have hlim:∀y,lim (ba .time out) (ba .time [y]):=λy=>Ab (t:=.time) (show out.length<1099511627776 by omega);simp only[yp,Ik,hg,hs,r2,xp,Tr.val,Tr.ob,ga];exact⟨by simp[r1,hlim],(q+3,out++[(Hh (b,q)).1]),rfl,by simp only[];omega,by simp only[];omega,by simp;omega⟩
  .rintro⟨q,out⟩ ⟨i1,i2,i3⟩;have hg:cmp .gtr ((0:Nat):Int) 0=false:=rfl;simp only[yp,Ik,hg,xp,Tr.val,Tr.ob];exact⟨by simp,_,rfl,q,out,rfl,i1,by simp at i2;omega,by simpa using i3⟩
 obtain⟨q,k1,p',out,rfl,k2,k3,k4⟩:=key;have a5:D3 b (p+1) (n0:Int)=.x (p',out):=k1.v;have b5:E3 b (p+1) (n0:Int):=k1.t;simp only[Ox,Yi,iN,gN,I3,H3,h1,a2,hn,a5,ocR,Nx,Mx,Lx,Kx,lpS,Tr.val,Tr.ob,ga];exact⟨by simp[a1,b5],by omega,by omega,by omega⟩
theorem zaj{b:List Int}(hb:Xc b){p:Int}(hp:0<=p/\p<=500000):zy (b,p)/\p<=(Sg (b,p)).2/\(Sg (b,p)).2<=p+13/\(Sg (b,p)).1.length<=64:=by
 obtain⟨a1,a2,a3,a4⟩:=yaj hb hp (m:=4) (by omega);obtain⟨c1,c2⟩:=U0 (Yi (b,p) 4).1 (by omega);simp only[zy,Sg,NN,MN,xy,Tr.val,Tr.ob,ga,ocR];exact⟨by simp[a1,c1],a2,by omega,c2⟩
end Go.Proofs.YtiiidenbemkihaaGreat

namespace Go.Proofs.YtiiidenbemkihaaGreat
open Go Tg
def Ib(f:List Time)(t:Time):Bool:=f.any (Vc · t)
theorem Eaw(f:List Time)(t:Time)(hl:f.length<1000000000):XH f t/\WH f t=Ib f t:=by
 have k2:ja (λs:Int=>da (bn t f (ba .time f) s)) (λs=>Gu t f (ba .time f) s) 0 (if ub (λ_ x=>Vc x t) none f=true then .x () else .r true):=by
  refine ja.scan f _ (λl x r hx=>?_) ?_
  .obtain⟨hlen,hrd,hin,hlss⟩:=Oa (t:=.time) hx;simp only[Gu,bn,Fu,Tr.val,Tr.ob,ga,hlss,hrd,Ia (l:=l) (by omega),qZ];refine⟨by simp[hin,jM],?_⟩;cases Vc x t<;>rfl
  .have hend:cmp .lss (f.length:Int) (ba .time f)=false:=Ma (t:=.time);simp only[Gu,bn,Fu,Tr.val,Tr.ob,ga,hend];exact⟨by simp,rfl⟩
 rw[xM]at k2;have a2:Vad t f (ba .time f)=_:=k2.v;have b2:Wad t f (ba .time f):=k2.t;simp only[XH,WH,UU,SU,VH,UH,Yad,Xad,SH,RH,lpS,Tr.val,Tr.ob,a2];refine⟨by simp[b2],?_⟩;show ocR _=f.any (Vc · t);cases f.any (Vc · t)<;>rfl
theorem Uae{f:List Time}(hf:Wd f=true){t:Time}(ht:Fa t=true)(hl:f.length<1000000000):Ql f t/\Pl f t=Ib f t:=by
 obtain⟨c1,c2⟩:=saj f t hl;refine⟨c1,?_⟩;rw[c2,hf,Bool.true_and];have hm:=wM hf;unfold Ib;rw[Bool.eq_iff_iff,List.any_eq_true,List.any_eq_true];constructor
 .rintro⟨s,hs,h⟩;simp only[Wi,Bool.and_eq_true]at h;exact⟨s,hs,h.2⟩
 .rintro⟨s,hs,h⟩;refine⟨s,hs,?_⟩;simp only[Wi,Bool.and_eq_true];exact⟨⟨hm s hs,ht⟩,h⟩
def Za(f:List Time)(a:List Row):List Row:=a.filter λx=>!Ib f x.At
theorem fv(f:List Time)(a:List Row):(Za f a).length<=a.length:=List.length_filter_le _ _
theorem Faw(a:List Row)(f:List Time)(ha:a.length<1000000000)(hf:f.length<1000000000):lI a f/\jI a f=Za f a:=by
 have k2:ja (λs:LR×Int=>da (jn f a (ba .row a) s.1 s.2)) (λs=>Ju f a (ba .row a) s.1 s.2) ([],0) (.x (Za f a)):=by
  refine ja.fold a (λi b=>(b,(i:Int))) (λl=>Za f l) rfl (λl x r hx=>?_) ?_
  .obtain⟨hlen,hrd,hin,hlss⟩:=Oa (t:=.row) hx;obtain⟨b1,b2⟩:=Eaw f x.At hf;have hlim:∀w,lim (ba .row (Za f l)) (ba .row [w]):=λw=>Ab (t:=.row) (show(Za f l).length<1099511627776 by have:=fv f l;omega)
   have hnext:Za f (l++[x])=if Ib f x.At=true then Za f l else Za f l++[x]:=by
    unfold Za;rw[List.filter_append];cases h:Ib f x.At<;>simp[h]
   have e:XU f (Za f l) a (ba .row a) l.length/\WU f (Za f l) a (ba .row a) l.length=.n (Za f (l++[x])):=by
    simp only[XU,WU,ZH,Tr.val,Tr.ob,ga,hrd,b2];refine⟨by simp[hin,b1,hlim],?_⟩;rw[hnext];cases Ib f x.At<;>rfl
   obtain⟨e1,e2⟩:=e;simp only[Ju,jn,Iu,aI,Tr.val,Tr.ob,hlss,e2,Ia (l:=l) (by omega)];exact⟨by simp[e1],rfl⟩
  .have hend:cmp .lss (a.length:Int) (ba .row a)=false:=Ma (t:=.row);simp only[Ju,jn,Iu,Tr.val,Tr.ob,hend];exact⟨by simp,rfl⟩
 have a2:Zad f a (ba .row a)=_:=k2.v;have b2:aae f a (ba .row a):=k2.t;simp only[lI,jI,aV,ZU,iI,fI,cae,bae,cI,bI,lpS,Tr.val,Tr.ob,a2];exact⟨by simp[b2],rfl⟩
theorem IV{a:List Row}{f:List Time}(hf:Wd f=true)(h:∀x∈a,Fa x.At=true)(ha:a.length<1000000000)(hl:f.length<1000000000):Ul a f/\Tl a f=Za f a:=by
 have k2:ja (λs:LR×Int=>da (Sl a f s.1 s.2)) (λs=>Nr a f s.1 s.2) ([],0) (.x (Za f a)):=by
  refine ja.fold a (λi b=>(b,(i:Int))) (λl=>Za f l) rfl (λl x r hx=>?_) ?_
  .obtain⟨hlen,hrd,hin,hlss⟩:=Oa (t:=.row) hx;obtain⟨b1,b2⟩:=Uae hf (h x (by rw[hx];simp)) hl;have hlim:∀w,lim (ba .row (Za f l)) (ba .row [w]):=λw=>Ab (t:=.row) (show(Za f l).length<1099511627776 by have:=fv f l;omega)
   have hnext:Za f (l++[x])=if Ib f x.At=true then Za f l else Za f l++[x]:=by
    unfold Za;rw[List.filter_append];cases h:Ib f x.At<;>simp[h]
   have e:LQ a f (Za f l) l.length/\JQ a f (Za f l) l.length=.n (Za f (l++[x])):=by
    simp only[LQ,JQ,PC,Tr.val,Tr.ob,ga,hrd,b2];refine⟨by simp[hin,b1,hlim],?_⟩;rw[hnext];cases Ib f x.At<;>rfl
   obtain⟨e1,e2⟩:=e;simp only[Nr,Sl,Mr,SC,Tr.val,Tr.ob,hlss,e2,Ia (l:=l) (by omega)];exact⟨by simp[e1],rfl⟩
  .have hend:cmp .lss (a.length:Int) (ba .row a)=false:=Ma (t:=.row);simp only[Nr,Sl,Mr,Tr.val,Tr.ob,hend];exact⟨by simp,rfl⟩
 have a2:Aaa a f=_:=k2.v;have b2:Baa a f:=k2.t;simp only[Ul,Tl,PQ,NQ,WC,VC,Daa,Caa,UC,TC,lpS,Tr.val,Tr.ob,a2];exact⟨by simp[b2],rfl⟩
theorem WI(x y:Row):(cmp .eql x.Key y.Key&&(cmp .eql x.Val y.Val&&(cmp .eql x.At.A y.At.A&&(cmp .eql x.At.B y.At.B&&(cmp .eql x.Diff y.Diff&&true)))))=true↔x=y:=by
 rw[Bb,Bb,Bb,Bb,Bb];simp only[Bool.and_eq_true,decide_eq_true_eq,and_true];constructor
 .rintro⟨h1,h2,h3,h4,h5⟩;exact sai h1 h2 h3 h4 h5
 .rintro rfl;exact⟨rfl,rfl,rfl,rfl,rfl⟩
theorem ja.two{ρ α:Type}[Inhabited ρ]{step:Int->Lp Int ρ}{ob:Int->Prop}{a b:List α}(hlen:a.length=b.length){no yes:ρ}
  (hgo:∀(i:Nat) (x y:α),a[i]? = some x->b[i]? = some y->ob (i:Int)/\((x=y/\step (i:Int)=.go (((i+1:Nat)):Int))\/(x≠y/\step (i:Int)=.out no))) (hend:ob (a.length:Int)/\step (a.length:Int)=.out yes) :
  ∃q,ja step ob 0 q/\((q=yes/\a=b)\/(q=no/\a≠b)):=by
 have hz:(a.zip b).length=a.length:=by rw[List.length_zip];omega
 refine ja.list (a.zip b) (λi (_:Unit)=>(i:Int)) (λl _=>a.take l.length=b.take l.length) (b0:=()) rfl rfl ?_ ?_
 .rintro l ⟨u,v⟩ r ⟨⟩ hx hI;have hg:(a.zip b)[l.length]? = some (u,v):=by rw[hx];simp
  rw[List.getElem?_zip_eq_some]at hg;obtain⟨h1,h2⟩:=hgo l.length u v hg.1 hg.2;refine⟨h1,?_⟩;rcases h2 with⟨rfl,h2⟩|⟨hne,h2⟩
  .exact .inl ⟨(),h2,by rw[List.length_append,List.length_singleton,List.take_add_one,List.take_add_one,hI,hg.1,hg.2]⟩
  .refine .inr ⟨no,h2,.inr ⟨rfl,λhab=>hne ?_⟩⟩;have:=hg.1;rw[hab,hg.2]at this;exact(Option.some.inj this).symm
 .rintro⟨⟩ hI;rw[hz,List.take_length,hlen,List.take_length]at hI;rw[hz];exact⟨hend.1,yes,hend.2,.inl ⟨rfl,hI⟩⟩
theorem XI{t:Ty}{a:List t.T}{i:Nat}{x:t.T}(h:a[i]? = some x):rd t a (i:Int)=x/\inb (i:Int) (ba t a):=by
 have hlt:=(List.getElem?_eq_some_iff.1 h).1;refine⟨?_,by unfold inb ba;omega⟩;unfold rd;rw[Int.toNat_natCast,List.getD_eq_getElem?_getD,h];rfl
theorem Gaw(a b:List Row)(hl:a.length<1000000000):sn a b/\(rn a b=true↔a=b):=by
 by_cases hlen:a.length=b.length
 .obtain⟨q,h1,h2⟩:=ja.two (step:=λs:Int=>da (ln a b (ba .row a) s)) (ob:=λs=>Mu a b (ba .row a) s) hlen (no:=.r false) (yes:=.x ())
   (λi x y hx hy=>by
     obtain⟨u1,u2⟩:=XI (t:=.row) hx;obtain⟨v1,v2⟩:=XI (t:=.row) hy;have hlt:=(List.getElem?_eq_some_iff.1 hx).1;have hlss:cmp .lss (i:Int) (ba .row a)=true:=by rw[bc];unfold ba;simp;omega
     have hs:ar .add .i64 (i:Int) 1=((i+1:Nat):Int):=by rw[cc (by omega)];omega
     simp only[Mu,ln,Lu,Tr.val,Tr.ob,ga,hlss,u1,v1,hs];refine⟨by simp[u2,v2],?_⟩;by_cases he:x=y
     .rw[(WI x y).2 he];exact .inl ⟨he,rfl⟩
     .rw[show(cmp .eql x.Key y.Key&&(cmp .eql x.Val y.Val&&(cmp .eql x.At.A y.At.A&&(cmp .eql x.At.B y.At.B&&(cmp .eql x.Diff y.Diff&&true)))))=false by rw[<-Bool.not_eq_true,WI];exact he];exact .inr ⟨he,rfl⟩)
   (by
     have hend:cmp .lss (a.length:Int) (ba .row a)=false:=Ma (t:=.row);simp only[Mu,ln,Lu,Tr.val,Tr.ob,ga,hend];exact⟨by simp,rfl⟩)
  have b2:dae a b (ba .row a):=h1.t
  have hn:cmp .neq (ba .row a) (ba .row b)=false:=by
   show cmp .neq (a.length:Int) (b.length:Int)=false;rw[Rd,hlen];simp
  rcases h2 with⟨rfl,h2⟩|⟨rfl,h2⟩
  .have a2:eV a b (ba .row a)=.x ():=h1.v;simp only[sn,rn,Qu,Pu,gV,fV,hn,a2,ocR,qn,nn,Ou,Nu,lpS,Tr.val,Tr.ob];exact⟨by simp[b2],λ_=>h2,λ_=>trivial⟩
  .have a2:eV a b (ba .row a)=.r false:=h1.v;simp only[sn,rn,Qu,Pu,gV,fV,hn,a2,ocR,qn,nn,Ou,Nu,lpS,Tr.val,Tr.ob];exact⟨by simp[b2],(λh=>by cases h),λh=>absurd h h2⟩
 .have hn:cmp .neq (ba .row a) (ba .row b)=true:=by
   show cmp .neq (a.length:Int) (b.length:Int)=true;rw[Rd];simp;omega
  simp only[sn,rn,Qu,Pu,hn,ocR,qn,nn,Tr.val,Tr.ob];exact⟨by simp,(λh=>by cases h),λh=>absurd (by rw[h]) hlen⟩
theorem Haw(a b:List Row)(hl:a.length<1000000000):Zl a b/\(Yl a b=true↔a=b):=by
 by_cases hlen:a.length=b.length
 .obtain⟨q,h1,h2⟩:=ja.two (step:=λs:Int=>da (Vl a b s)) (ob:=λs=>Ur a b s) hlen (no:=.r false) (yes:=.x ())
   (λi x y hx hy=>by
     obtain⟨u1,u2⟩:=XI (t:=.row) hx;obtain⟨v1,v2⟩:=XI (t:=.row) hy;have hlt:=(List.getElem?_eq_some_iff.1 hx).1;have hlss:cmp .lss (i:Int) (ba .row a)=true:=by rw[bc];unfold ba;simp;omega
     have hs:ar .add .i64 (i:Int) 1=((i+1:Nat):Int):=by rw[cc (by omega)];omega
     simp only[Ur,Vl,Rr,Tr.val,Tr.ob,ga,hlss,u1,v1,hs];refine⟨by simp[u2,v2],?_⟩;by_cases he:x=y
     .rw[(WI x y).2 he];exact .inl ⟨he,rfl⟩
     .rw[show(cmp .eql x.Key y.Key&&(cmp .eql x.Val y.Val&&(cmp .eql x.At.A y.At.A&&(cmp .eql x.At.B y.At.B&&(cmp .eql x.Diff y.Diff&&true)))))=false by rw[<-Bool.not_eq_true,WI];exact he];exact .inr ⟨he,rfl⟩)
   (by
     have hend:cmp .lss (a.length:Int) (ba .row a)=false:=Ma (t:=.row);simp only[Ur,Vl,Rr,Tr.val,Tr.ob,ga,hend];exact⟨by simp,rfl⟩)
  have b2:Eaa a b:=h1.t
  have hn:cmp .neq (ba .row a) (ba .row b)=false:=by
   show cmp .neq (a.length:Int) (b.length:Int)=false;rw[Rd,hlen];simp
  rcases h2 with⟨rfl,h2⟩|⟨rfl,h2⟩
  .have a2:TQ a b=.x ():=h1.v;simp only[Zl,Yl,Yr,Xr,VQ,UQ,hn,a2,ocR,Xl,Wl,Wr,Vr,lpS,Tr.val,Tr.ob];exact⟨by simp[b2],λ_=>h2,λ_=>trivial⟩
  .have a2:TQ a b=.r false:=h1.v;simp only[Zl,Yl,Yr,Xr,VQ,UQ,hn,a2,ocR,Xl,Wl,Wr,Vr,lpS,Tr.val,Tr.ob];exact⟨by simp[b2],(λh=>by cases h),λh=>absurd h h2⟩
 .have hn:cmp .neq (ba .row a) (ba .row b)=true:=by
   show cmp .neq (a.length:Int) (b.length:Int)=true;rw[Rd];simp;omega
  simp only[Zl,Yl,Yr,Xr,hn,ocR,Xl,Wl,Tr.val,Tr.ob];exact⟨by simp,(λh=>by cases h),λh=>absurd (by rw[h]) hlen⟩
structure Sm(s:Sess):Prop where
 ins:s.Ins.length<=1000
 each:∀a∈s.Ins,a.length<=1000
 front:s.Front.length<=1000
 told:s.Told.length<=1000
structure OkS(s:Sess)(x:List Row):Prop where
 front:Wd s.Front=true
 flow:Pe s.Plan s.Ins=some x
 told:s.Told=Za s.Front x
theorem Vae(s:Sess):Sess.mk (Plan.mk s.Plan.Kind s.Plan.Num s.Plan.Kids) s.Ins s.Front s.Told=s:=by
 obtain⟨⟨a,b,c⟩,d,e,f⟩:=s;rfl
theorem Iaw{s:Sess}(hs:Sm s):pI s/\(oI s=true↔∃x,OkS s x):=by
 have h1:=hs.ins;have h2:=hs.each;have h3:=hs.front;have h4:=hs.told;obtain⟨f1,f2⟩:=raj s.Front (by omega);obtain⟨g1,g2⟩:=faj s.Plan s.Ins (by omega) (λa ha=>by have:=h2 a ha;omega);simp only[pI,oI,kV,jV,nI,Tr.val,Tr.ob,ga,Pc,f2,g2];cases hfo:Wd s.Front with
 |false=>exact⟨by simp[f1],(λh=>by cases h),λ⟨x,h⟩=>by have:=h.front;rw[hfo]at this;cases this⟩
 |true=>
  cases hF:Pe s.Plan s.Ins with
  |none=>exact⟨by simp[f1,g1,yc],(λh=>by cases h),λ⟨x,h⟩=>by have:=h.flow;rw[hF]at this;cases this⟩
  |some x=>
   have hx:=(cp hF).short;obtain⟨c1,c2⟩:=Faw x s.Front (by omega) (by omega);obtain⟨r1,r2⟩:=Gaw s.Told (Za s.Front x) (by omega);simp only[yc,c2];refine⟨by simp[f1,g1,c1,r1],λh=>⟨x,hfo,hF,r2.1 h⟩,λ⟨y,h⟩=>?_⟩;have hy:=h.flow;rw[hF]at hy;cases hy;exact r2.2 h.told
theorem Jaw{s:Sess}(hs:Sm s):Th s/\(Rh s=true↔∃x,OkS s x):=by
 have h1:=hs.ins;have h2:=hs.each;have h3:=hs.front;have h4:=hs.told;obtain⟨f1,f2⟩:=xk s.Front (by omega);obtain⟨g1,g2⟩:=H0 s.Plan s.Ins (by omega) (λa ha=>by have:=h2 a ha;omega);simp only[Th,Rh,YQ,XQ,YC,Tr.val,Tr.ob,ga,Pc,f2,g2];cases hfo:Wd s.Front with
 |false=>exact⟨by simp[f1],(λh=>by cases h),λ⟨x,h⟩=>by have:=h.front;rw[hfo]at this;cases this⟩
 |true=>
  cases hF:Pe s.Plan s.Ins with
  |none=>exact⟨by simp[f1,g1,yc],(λh=>by cases h),λ⟨x,h⟩=>by have:=h.flow;rw[hF]at this;cases this⟩
  |some x=>
   have hfl:=cp hF;have hx:=hfl.short;obtain⟨c1,c2⟩:=IV hfo (λz hz=>Mf ((gb (oe hfl.batch)).2 z hz)) (by omega) (by omega);have hal:=fv s.Front x;obtain⟨r1,r2⟩:=Haw (Za s.Front x) s.Told (by omega);simp only[yc,c2];refine⟨by simp[f1,g1,c1,r1],λh=>⟨x,hfo,hF,(r2.1 h).symm⟩,λ⟨y,h⟩=>?_⟩;have hy:=h.flow;rw[hF]at hy;cases hy;exact r2.2 h.told.symm
open Classical in
noncomputable def pd(s:Sess):Bool:=decide (∃x,OkS s x)
theorem kay{s:Sess}(hs:Sm s):pI s/\oI s=pd s:=by
 obtain⟨h1,h2⟩:=Iaw hs;refine⟨h1,?_⟩;rw[Bool.eq_iff_iff,h2];unfold pd;simp
theorem JV{s:Sess}(hs:Sm s):Th s/\Rh s=pd s:=by
 obtain⟨h1,h2⟩:=Jaw hs;refine⟨h1,?_⟩;rw[Bool.eq_iff_iff,h2];unfold pd;simp
theorem LV{s:Sess}:pd s=true↔∃x,OkS s x:=by unfold pd;simp
end Go.Proofs.YtiiidenbemkihaaGreat

namespace Go.Proofs.YtiiidenbemkihaaGreat
open Go Tg
theorem Kaw:∀(d n:Nat),d<=n->∀p:Plan,okM d p=true->(od n).2 p/\(od n).1 p=p:=by
 intro d
 induction d with
 |zero=>intro n _ p h;cases h
 |succ d ih=>
  intro n hn p hp;obtain⟨m,rfl⟩ : ∃m,n=m+1:=⟨n - 1,by omega⟩;obtain⟨hlen,hk⟩:=Mw hp
  have k:ja (λs:LP×Int=>da (tn (od m).1 (od m).2 p.Kind p.Num p.Kids (ba .plan p.Kids) s.1 s.2)) (λs=>Tu (od m).1 (od m).2 p.Kind p.Num p.Kids (ba .plan p.Kids) s.1 s.2) ([],0) (.x p.Kids):=by
   refine ja.fold p.Kids (λi b=>(b,(i:Int))) (λl=>l) rfl (λl x r hx=>?_) ?_
   .obtain⟨hlen2,hrd,hin,hlss⟩:=Oa (t:=.plan) hx;obtain⟨i1,i2⟩:=ih m (by omega) x (hk x (by rw[hx];simp));have hlim:∀y,lim (ba .plan l) (ba .plan [y]):=λy=>Ab (t:=.plan) (show l.length<1099511627776 by omega);simp only[Tu,tn,Su,Tr.val,Tr.ob,ga,hlss,hrd,Pc,i2,Ia (l:=l) (by omega)];exact⟨by simp[hin,i1,hlim],rfl⟩
   .have hend:cmp .lss (p.Kids.length:Int) (ba .plan p.Kids)=false:=Ma (t:=.plan);simp only[Tu,tn,Su,Tr.val,Tr.ob,ga,hend];exact⟨by simp,rfl⟩
  have a2:gae (od m).1 (od m).2 p.Kind p.Num p.Kids (ba .plan p.Kids)=.x p.Kids:=k.v;have b2:iae (od m).1 (od m).2 p.Kind p.Num p.Kids (ba .plan p.Kids):=k.t;simp only[od,xI,wI,vI,uI,kae,jae,tI,sI,lpS,Tr.val,Tr.ob,a2,ocR,Pc];exact⟨by simp[b2],trivial⟩
theorem Law:∀(d n:Nat),d<=n->∀p:Plan,okM d p=true->(ed n).2 p/\(ed n).1 p=p:=by
 intro d
 induction d with
 |zero=>intro n _ p h;cases h
 |succ d ih=>
  intro n hn p hp;obtain⟨m,rfl⟩ : ∃m,n=m+1:=⟨n - 1,by omega⟩;obtain⟨hlen,hk⟩:=Mw hp
  have k:ja (λs:LP×Int=>da (Gk (ed m).1 (ed m).2 p.Kind p.Num p.Kids s.1 s.2)) (λs=>rp (ed m).1 (ed m).2 p.Kind p.Num p.Kids s.1 s.2) ([],0) (.x p.Kids):=by
   refine ja.fold p.Kids (λi b=>(b,(i:Int))) (λl=>l) rfl (λl x r hx=>?_) ?_
   .obtain⟨hlen2,hrd,hin,hlss⟩:=Oa (t:=.plan) hx;obtain⟨i1,i2⟩:=ih m (by omega) x (hk x (by rw[hx];simp));have hlim:∀y,lim (ba .plan l) (ba .plan [y]):=λy=>Ab (t:=.plan) (show l.length<1099511627776 by omega);simp only[rp,Gk,qp,Tr.val,Tr.ob,ga,hlss,hrd,Pc,i2,Ia (l:=l) (by omega)];exact⟨by simp[hin,i1,hlim],rfl⟩
   .have hend:cmp .lss (p.Kids.length:Int) (ba .plan p.Kids)=false:=Ma (t:=.plan);simp only[rp,Gk,qp,Tr.val,Tr.ob,ga,hend];exact⟨by simp,rfl⟩
  have a2:U2 (ed m).1 (ed m).2 p.Kind p.Num p.Kids=.x p.Kids:=k.v;have b2:V2 (ed m).1 (ed m).2 p.Kind p.Num p.Kids:=k.t;simp only[ed,Cx,Bx,Ax,zx,Y2,X2,yx,vx,lpS,Tr.val,Tr.ob,a2,ocR,Pc];exact⟨by simp[b2],trivial⟩
theorem Maw{p:Plan}(h:okM 4 p=true):pV p/\oV p=p:=Kaw 4 Pb (by decide) p h
theorem Wae{p:Plan}(h:okM 4 p=true):Dx p/\pe p=p:=Law 4 Pb (by decide) p h
theorem Naw{f:List Time}(hl:f.length<1000000000):AI f/\zI f=f:=by
 simp only[AI,zI,rV,qV,yI,Tr.val,Tr.ob,ga,ocR];refine⟨⟨⟨⟨rfl,by unfold ba;omega,by unfold ba;omega⟩,trivial⟩,trivial⟩,?_⟩;unfold ba;simp
theorem Xae{s:Sess}(hs:Sm s)(hp:okM 4 s.Plan=true):Sf s/\jd s=s:=by
 have h1:=hs.ins;have h2:=hs.each;have h3:=hs.front;have h4:=hs.told;obtain⟨c1,c2⟩:=Wae hp;have lim0:∀ {t:Ty}{a:List t.T},a.length<=1000->lim (ba t []) (ba t a):=λh=>by unfold lim ba;simp;omega
 have k:ja (λx:List LR×Int=>da (tj s.Plan.Kind s.Plan.Num s.Plan.Kids s.Ins s.Front s.Told s.Plan.Kind s.Plan.Num s.Plan.Kids ([]++s.Front) ([]++s.Told) x.1 x.2)) (λx=>ws s.Plan.Kind s.Plan.Num s.Plan.Kids s.Ins s.Front s.Told s.Plan.Kind s.Plan.Num s.Plan.Kids ([]++s.Front) ([]++s.Told) x.1 x.2) ([],0) (.x s.Ins):=by
  refine ja.fold s.Ins (λi b=>(b,(i:Int))) (λl=>l) rfl (λl x r hx=>?_) ?_
  .obtain⟨hlen,hrd,hin,hlss⟩:=Oa (t:=.lrow) hx;have hlim:∀w,lim (ba .lrow l) (ba .lrow [w]):=λw=>Ab (t:=.lrow) (show l.length<1099511627776 by omega);have hl0:lim (ba .row []) (ba .row x):=lim0 (t:=.row) (h2 x (by rw[hx];simp));simp only[ws,tj,bm,qs,Iaa,aR,ns,Tr.val,Tr.ob,ga,hlss,hrd,Ia (l:=l) (by omega)];exact⟨by simp only[List.nil_append];simp[hin,hl0,hlim],rfl⟩
  .have hend:cmp .lss (s.Ins.length:Int) (ba .lrow s.Ins)=false:=Ma (t:=.lrow);simp only[ws,tj,bm,Tr.val,Tr.ob,hend];exact⟨by simp,rfl⟩
 have a2:eR s.Plan.Kind s.Plan.Num s.Plan.Kids s.Ins s.Front s.Told s.Plan.Kind s.Plan.Num s.Plan.Kids ([]++s.Front) ([]++s.Told)=.x s.Ins:=k.v;have b2:Jaa s.Plan.Kind s.Plan.Num s.Plan.Kids s.Ins s.Front s.Told s.Plan.Kind s.Plan.Num s.Plan.Kids ([]++s.Front) ([]++s.Told):=k.t;simp only[Sf,jd,fR,bD,cm,js,Gaa,ZQ,es,Es,Kaa,aD,Cs,As,lpS,Tr.val,Tr.ob,ga,Pc,c2,a2,ocR];have l1:=lim0 (t:=.time) h3;have l2:=lim0 (t:=.row) h4;refine⟨⟨⟨⟨c1,l1,l2,trivial⟩,trivial⟩,λq hq=>?_,by simp⟩,?_⟩
 .cases hq;exact⟨⟨b2,by simp⟩,by simp⟩
 .simp only[List.nil_append]
theorem nay{s:Sess}(hs:Sm s)(hp:okM 4 s.Plan=true):yV s/\xV s=s:=by
 have h1:=hs.ins;have h2:=hs.each;have h3:=hs.front;have h4:=hs.told;obtain⟨c1,c2⟩:=Maw hp;obtain⟨t1,t2⟩:=Naw (f:=s.Front) (by omega);obtain⟨r1,r2⟩:=oM (a:=s.Told) (by omega)
 have k:ja (λx:List LR×Int=>da (un s.Plan.Kind s.Plan.Num s.Plan.Kids s.Front s.Told s.Ins (ba .lrow s.Ins) x.1 x.2)) (λx=>Wu s.Plan.Kind s.Plan.Num s.Plan.Kids s.Front s.Told s.Ins (ba .lrow s.Ins) x.1 x.2) ([],0) (.x s.Ins):=by
  refine ja.fold s.Ins (λi b=>(b,(i:Int))) (λl=>l) rfl (λl x r hx=>?_) ?_
  .obtain⟨hlen,hrd,hin,hlss⟩:=Oa (t:=.lrow) hx;obtain⟨x1,x2⟩:=oM (a:=x) (by have:=h2 x (by rw[hx];simp);omega);have hlim:∀w,lim (ba .lrow l) (ba .lrow [w]):=λw=>Ab (t:=.lrow) (show l.length<1099511627776 by omega);simp only[Wu,un,Vu,Tr.val,Tr.ob,ga,hlss,hrd,x2,Ia (l:=l) (by omega)];exact⟨by simp[hin,x1,hlim],rfl⟩
  .have hend:cmp .lss (s.Ins.length:Int) (ba .lrow s.Ins)=false:=Ma (t:=.lrow);simp only[Wu,un,Vu,Tr.val,Tr.ob,hend];exact⟨by simp,rfl⟩
 have a2:nae s.Plan.Kind s.Plan.Num s.Plan.Kids s.Front s.Told s.Ins (ba .lrow s.Ins)=.x s.Ins:=k.v;have b2:oae s.Plan.Kind s.Plan.Num s.Plan.Kids s.Front s.Told s.Ins (ba .lrow s.Ins):=k.t;simp only[yV,xV,wV,vV,II,GI,qae,pae,FI,DI,lpS,Tr.val,Tr.ob,ga,Pc,c2,t2,r2,a2,ocR];exact⟨by simp[c1,t1,r1,b2],trivial⟩
def gv:Sess:=⟨⟨0,0,[]⟩,[],[],[]⟩
def MV:Option Sess->Sess×Bool×Unit
 |some s=>(s,true,())
 |none=>(gv,false,())
def setIn(s:Sess)(i:Int)(both:List Row):Sess:=⟨s.Plan,s.Ins.set i.toNat both,s.Front,s.Told⟩
noncomputable def inS(s:Sess)(i:Int)(rows:List Row):Option Sess:=cond (pd s&&(decide (0<=i/\i<2)&&(Ga rows&&rows.all λx=>Ib s.Front x.At)))
  (cond (Ga (Pa (rd .lrow s.Ins i++rows))&&pd (setIn s i (Pa (rd .lrow s.Ins i++rows)))) (some (setIn s i (Pa (rd .lrow s.Ins i++rows)))) none) none
structure OkI(s:Sess)(i:Int)(rows:List Row):Prop where
 plan:okM 4 s.Plan=true
 len:s.Ins.length=2
 each:∀a∈s.Ins,Ga a=true
 front:Wd s.Front=true
 at':rd .lrow s.Ins i∈s.Ins
 inb:inb i (ba .lrow s.Ins)
theorem Oaw{s:Sess}{i:Int}{rows:List Row}(h:pd s=true)(hi:0<=i/\i<2):OkI s i rows:=by
 obtain⟨x,hx⟩:=LV.1 h;have hf:=cp hx.flow;have hlt:i.toNat<s.Ins.length:=by rw[hf.len];omega
 refine⟨hf.ok,hf.len,hf.every,hx.front,?_,by unfold Go.Proofs.YtiiidenbemkihaaGreat.inb ba;rw[hf.len];omega⟩;unfold rd;rw[List.getD_eq_getElem?_getD,List.getElem?_eq_getElem hlt];exact List.getElem_mem hlt
theorem Paw{a b:List Row}(ha:Jb a=true)(hb:Jb b=true):(∀x∈a++b,InR x.Diff)/\(Pa (a++b)).length<=800:=by
 obtain⟨l1,m1⟩:=gb ha;obtain⟨l2,m2⟩:=gb hb;have hi:∀x∈a++b,InR x.Diff:=λx hx=>Oe ((List.mem_append.1 hx).elim (m1 x) (m2 x));have:=ik hi;rw[List.length_append]at this;exact⟨hi,by omega⟩
theorem Sm.setIn{s:Sess}(hs:Sm s)(i:Int){b:List Row}(hb:b.length<=1000):Sm (setIn s i b):=by
 refine⟨by unfold Go.Proofs.YtiiidenbemkihaaGreat.setIn;rw[List.length_set];exact hs.ins,λa ha=>?_,hs.front,hs.told⟩;rcases List.mem_or_eq_of_mem_set ha with h|rfl
 .exact hs.each a h
 .exact hb
theorem Qaw{s:Sess}(hs:Sm s)(i:Int){rows:List Row}(hr:rows.length<=1000):aE s i rows/\yg s i rows=MV (inS s i rows):=by
 have h1:=hs.ins;have h2:=hs.each;have h3:=hs.front;have h4:=hs.told;obtain⟨o1,o2⟩:=JV hs;obtain⟨b1,b2⟩:=Vo rows (by omega);have li:Hd i 0 1=decide (0<=i/\i<2):=by rw[qk,Bool.eq_iff_iff];simp;omega
 have lp:=nk i 0 1;simp only[aE,yg,HR,GR,ZD,VD,jab,iab,UD,YD,lab,kab,XD,Tr.val,Tr.ob,ga,Vae,o2,b2,li,inS];cases hok:pd s with
 |false=>exact⟨by simp[o1],rfl⟩
 |true=>
  by_cases hi:0<=i/\i<2
  .have hdi:decide (0<=i/\i<2)=true:=by simp[hi]
   have k:=Oaw (rows:=rows) hok hi;cases hb:Ga rows with
   |false=>exact⟨by simp[o1,lp,b1,hi],by rw[hdi];rfl⟩
   |true=>
    have hrr:=oe hb;obtain⟨l1,l2⟩:=IV k.front (λz hz=>Mf ((gb hrr).2 z hz)) (by omega) (by omega);obtain⟨c1,c2⟩:=Xae hs k.plan;have hra:=oe (k.each _ k.at');obtain⟨bi,bl⟩:=Paw hra hrr;obtain⟨s1,s2⟩:=Pg (rd .lrow s.Ins i++rows) (by rw[List.length_append];have:=(gb hra).1;omega) bi;obtain⟨v1,v2⟩:=Vo (Pa (rd .lrow s.Ins i++rows)) (by omega);obtain⟨w1,w2⟩:=JV (hs.setIn i (b:=Pa (rd .lrow s.Ins i++rows)) (by omega));have lim1:lim (ba .row []) (ba .row (rd .lrow s.Ins i)):=by unfold lim ba;have:=(gb hra).1;simp;omega
    have lim2:lim (ba .row (rd .lrow s.Ins i)) (ba .row rows):=by unfold lim ba;have:=(gb hra).1;omega
    have w1':Th (Sess.mk (Plan.mk s.Plan.Kind s.Plan.Num s.Plan.Kids) (List.set s.Ins (Int.toNat i) (Pa (rd .lrow s.Ins i++rows))) s.Front s.Told):=w1;have w2':Rh (Sess.mk (Plan.mk s.Plan.Kind s.Plan.Num s.Plan.Kids) (List.set s.Ins (Int.toNat i) (Pa (rd .lrow s.Ins i++rows))) s.Front s.Told)=pd (setIn s i (Pa (rd .lrow s.Ins i++rows))):=w2
    have hall:cmp .gtr (ba .row (Za s.Front rows)) 0=!(rows.all λx=>Ib s.Front x.At):=by
     rw[xc,Bool.eq_iff_iff];simp only[decide_eq_true_eq,Bool.not_eq_true',<-Bool.not_eq_true,List.all_eq_true];unfold ba Za;constructor
     .intro h1 h2;rw[List.filter_eq_nil_iff.2 (λx hx=>by simp[h2 x hx])]at h1;simp at h1
     .intro h1;cases he:rows.filter λx=>!Ib s.Front x.At with
      |nil=>
       refine absurd (λx hx=>?_) h1;have:=List.filter_eq_nil_iff.1 he x hx;simpa using this
      |cons a r=>simp only[List.length_cons];omega
    simp only[l2,c2,s2,v2,w2',hall,hdi,List.nil_append];cases (rows.all λx=>Ib s.Front x.At) with
    |false=>exact⟨by simp[o1,lp,b1,l1],rfl⟩
    |true=>
     cases Ga (Pa (rd .lrow s.Ins i++rows)) with
     |false=>exact⟨by simp[o1,lp,b1,l1,c1,k.inb,lim1,lim2,s1,v1,s2,w1'],rfl⟩
     |true=>
      cases hw:pd (setIn s i (Pa (rd .lrow s.Ins i++rows))) with
      |false=>exact⟨by simp[o1,lp,b1,l1,c1,k.inb,lim1,lim2,s1,v1,s2,w1'],by simp[ocR,MV,gv]⟩
      |true=>exact⟨by simp[o1,lp,b1,l1,c1,k.inb,lim1,lim2,s1,v1,s2,w1'],by simp[ocR,MV,setIn,Pc]⟩
  .have hdi:decide (0<=i/\i<2)=false:=by simpa using hi
   rw[hdi];exact⟨by simp[o1,lp],rfl⟩
end Go.Proofs.YtiiidenbemkihaaGreat

namespace Go.Proofs.YtiiidenbemkihaaGreat
open Go Tg
def wn(s:Sess):List Row:=(Pe s.Plan s.Ins).getD []
theorem OkS.all{s:Sess}{x:List Row}(h:OkS s x):wn s=x:=by unfold wn;rw[h.flow];rfl
noncomputable def NV(s:Sess)(f:List Time):Bool:=pd s&&(Wd f&&f.all λt=>Ib s.Front t)
def QV(s:Sess)(f:List Time):List Row:=(Za f (wn s)).filter λx=>Ib s.Front x.At
def onS(s:Sess)(f:List Time):Sess:=⟨s.Plan,s.Ins,f,Za f (wn s)⟩
noncomputable def onV(s:Sess)(f:List Time):Sess×List Row×Bool×Unit:=cond (NV s f) (onS s f,QV s f,true,()) (gv,[],false,())
theorem Raw{s t u:Time}(h:Vc s t=true)(k:Vc t u=true):Vc s u=true:=by
 simp only[Vc,Bool.and_eq_true,decide_eq_true_eq]at h k⊢;omega
theorem Saw{f g:List Time}(h:(f.all λt=>Ib g t)=true){t:Time}(k:Ib f t=true):Ib g t=true:=by
 unfold Ib at k⊢;rw[List.any_eq_true]at k⊢;obtain⟨u,hu,hk⟩:=k;have:=List.all_eq_true.1 h u hu;unfold Ib at this;rw[List.any_eq_true]at this;obtain⟨v,hv,hw⟩:=this;exact⟨v,hv,Raw hw hk⟩
theorem Taw{x:List Row}(k:List Int):Eqm (sumT (chR (Ya x)) k) (-sumT (chR x) k):=by
 induction x with
 |nil=>exact Eqm.refl _
 |cons y r ih=>
  show Eqm ((if rK (qg y)=k then(qg y).Diff else 0)+sumT (chR (Ya r)) k) (-((if rK y=k then y.Diff else 0)+sumT (chR r) k));have e:rK (qg y)=rK y:=rfl;rw[e];by_cases hk:rK y=k
  .rw[if_pos hk,if_pos hk];exact(Eqm.add (hZ (n:=y.Diff)) ih).trans (Eqm.of (by omega))
  .rw[if_neg hk,if_neg hk];exact(Eqm.add (Eqm.refl 0) ih).trans (Eqm.of (by omega))
theorem Yae(p:Row->Bool)(k:List Int):∀x:List Row,sumT (chR (x.filter p)) k+sumT (chR (x.filter λz=>!p z)) k=sumT (chR x) k
 |[]=>rfl
 |y::r=>by
  have ih:=Yae p k r;have e:∀l:List Row,sumT (chR (y::l)) k=(if rK y=k then y.Diff else 0)+sumT (chR l) k:=λl=>rfl;cases h:p y<;>simp only[List.filter_cons,h,if_true,Bool.not_true,Bool.not_false,Bool.false_eq_true,if_false,e]<;>omega
theorem Uaw{x y:List Row}(h:Ga x=true)(k:y.Sublist x):Pa y=y:=by
 obtain⟨h1,h2,h3⟩:=Yo h;exact CZ (List.Pairwise.sublist k h1) λz hz=>⟨h2 z (k.subset hz),Oe (h3 z (k.subset hz))⟩
theorem Vaw{x y:List Row}(h:Ga x=true)(k:y.Sublist x):Ga y=true:=by
 obtain⟨h1,h2,h3⟩:=Yo h;have hl:=(gb (oe h)).1;have:=k.length_le;unfold Ga;rw[lM y none (List.Pairwise.sublist k h1) (λz hz=>h2 z (k.subset hz)) (λz hz=>by cases hz),Bool.true_and];simp only[Jb,Bool.and_eq_true,decide_eq_true_eq,List.all_eq_true];exact⟨λz hz=>h3 z (k.subset hz),by omega⟩
theorem Waw{f g:List Time}{x:List Row}(hb:Ga x=true)(h:(f.all λt=>Ib g t)=true) :
  Pa (Za f x++Ya (Za g x))=(Za f x).filter λz=>Ib g z.At:=by
 have hsub:((Za f x).filter λz=>Ib g z.At).Sublist x:=(List.filter_sublist).trans List.filter_sublist
 have e2:Za g x=(Za f x).filter λz=>!Ib g z.At:=by
  unfold Za;rw[List.filter_filter];refine List.filter_congr λz _=>?_;cases hk:Ib f z.At with
  |false=>simp
  |true=>rw[Saw h hk];rfl
 rw[<-Uaw hb hsub];refine Qah λk=>?_;rw[Wah];refine(Eqm.add (Eqm.refl _) (Taw k)).trans (Eqm.of ?_);rw[e2];have:=Yae (λz=>Ib g z.At) k (Za f x);omega
theorem Xaw{s:Sess}(hs:Sm s){f:List Time}(hf:f.length<=1000):lD s f/\wg s f=onV s f:=by
 have h1:=hs.ins;have h2:=hs.each;have h3:=hs.front;have h4:=hs.told;obtain⟨o1,o2⟩:=JV hs;obtain⟨q1,q2⟩:=xk f (by omega);obtain⟨g1,g2⟩:=H0 s.Plan s.Ins (by omega) (λa ha=>by have:=h2 a ha;omega);simp only[lD,wg,kR,jR,kD,gD,Paa,Oaa,fD,eD,jD,Raa,Qaa,iD,lpS,Tr.val,Tr.ob,ga,Pc,o2,q2,g2,onV,NV];cases hok:pd s with
 |false=>exact⟨by simp[o1],rfl⟩
 |true=>
  obtain⟨x,hx⟩:=LV.1 hok;cases hfo:Wd f with
  |false=>exact⟨by simp[o1,q1],rfl⟩
  |true=>
   have hmem:=wM hfo
   have k2:ja (λj:Int=>da (em f s.Plan.Kind s.Plan.Num s.Plan.Kids s.Ins s.Front s.Told j)) (λj=>Hs f s.Plan.Kind s.Plan.Num s.Plan.Kids s.Ins s.Front s.Told j) 0 (if ub (λ_ t=>!Ib s.Front t) none f=true then .x () else .r (gv,([],(false,())))):=by
    refine ja.scan f _ (λl t r ht=>?_) ?_
    .obtain⟨hlen,hrd,hin,hlss⟩:=Oa (t:=.time) ht;obtain⟨y1,y2⟩:=Uae hx.front (hmem t (by rw[ht];simp)) (by omega);simp only[Hs,em,Gs,Tr.val,Tr.ob,ga,hlss,hrd,y2,Ia (l:=l) (by omega)];refine⟨by simp[hin,y1],?_⟩;cases Ib s.Front t<;>rfl
    .have hend:cmp .lss (f.length:Int) (ba .time f)=false:=Ma (t:=.time);simp only[Hs,em,Gs,Tr.val,Tr.ob,ga,hend];exact⟨by simp,rfl⟩
   rw[rg]at k2;have a2:Maa f s.Plan.Kind s.Plan.Num s.Plan.Kids s.Ins s.Front s.Told=_:=k2.v;have d2:Naa f s.Plan.Kind s.Plan.Num s.Plan.Kids s.Ins s.Front s.Told:=k2.t;have hfl:=cp hx.flow;have hxl:=hfl.short;obtain⟨c1,c2⟩:=Xae hs hfl.ok;have hrow:=gb (oe hfl.batch);obtain⟨l1,l2⟩:=IV hfo (λz hz=>Mf (hrow.2 z hz)) (by omega) (by omega);have hbT:Ga s.Told=true:=by rw[hx.told];exact Vaw hfl.batch List.filter_sublist
   obtain⟨n1,n2⟩:=HZ hbT;have hal:=fv f x;have hnl:(Ya s.Told).length=s.Told.length:=by simp[Ya]
   have hi:∀z∈Za f x++Ya s.Told,InR z.Diff:=λz hz=>by
    rcases List.mem_append.1 hz with hz|hz
    .exact Oe (hrow.2 z ((List.mem_filter.1 hz).1))
    .exact vM _ z hz
   obtain⟨s1,s2⟩:=Pg (Za f x++Ya s.Told) (by rw[List.length_append];omega) hi;have limf:lim (ba .time []) (ba .time f):=by unfold lim ba;simp;omega
   have lim1:lim (ba .row []) (ba .row (Za f x)):=by unfold lim ba;simp;omega
   have lim2:lim (ba .row (Za f x)) (ba .row (Ya s.Told)):=by unfold lim ba;omega
   simp only[a2,hx.flow,yc,c2,l2,n2,s2,List.nil_append];cases hall:(f.all λt=>Ib s.Front t) with
   |false=>exact⟨by simp[o1,q1,d2],rfl⟩
   |true=>
    have hg:=Waw hfl.batch hall;rw[<-hx.told]at hg;refine⟨by simp[o1,q1,d2,g1,c1,l1,n1,limf,lim1,lim2,s1],?_⟩;simp[ocR,onS,QV,hx.all,hg]
end Go.Proofs.YtiiidenbemkihaaGreat

namespace Go.Proofs.YtiiidenbemkihaaGreat
open Go Tg
theorem Bj{d:Nat}{k n:Int}{l:List Plan}(h1:(l.length:Int)=(kd k).1/\(kd k).2.1<=n/\n<=(kd k).2.2)(h2:∀x∈l,okM d x=true):okM (d+1) ⟨k,n,l⟩=true:=by
 simp only[okM,Vd,Bool.and_eq_true,decide_eq_true_eq,List.all_eq_true];exact⟨h1,h2⟩
theorem Yaw{b:List Int}(hb:Xc b):∀(d n:Nat),d<n->d<=3->∀p:Int,0<=p/\p+Bd d<=500000->∀e,d<=e->1<=e->(d=0\/okM e ((zc n).1 (b,p) d).1=true):=by
 intro d
 induction d with
 |zero=>intro n _ _ p _ e _ _;exact .inl rfl
 |succ d ih=>
  intro n hn hd p hp e he he1;refine .inr ?_;obtain⟨m,rfl⟩ : ∃m,n=m+1:=⟨n - 1,by omega⟩;obtain⟨e,rfl⟩ : ∃m,e=m+1:=⟨e - 1,by omega⟩;have hBp:=mM d;have hB:Bd (d+1)=2*Bd d+4:=rfl;have hl:cmp .lss ((d+1:Nat):Int) 2=decide (d=0):=by rw[bc,Bool.eq_iff_iff];simp;omega
  have hsub:ar .sub .i64 ((d+1:Nat):Int) 1=(d:Int):=by rw[bf (by omega)];omega
  obtain⟨x1,x2,_,_⟩:=Hb hb (p:=p) (n:=6) (by omega) (by omega);simp only[zc,zk,yk,Tr.val,hsub,hl]
  have hP:p<=cond ((!(decide (d=0)))&&true) (la (b,p) 6).2 p/\cond ((!(decide (d=0)))&&true) (la (b,p) 6).2 p<=p+1:=by
   rw[x2];cases decide (d=0)<;>simp<;>omega
  generalize cond ((!(decide (d=0)))&&true) (la (b,p) 6).2 p=P at hP⊢;obtain⟨y1,y2,y3,y4⟩:=Hb hb (p:=P) (n:=2) (by omega) (by omega);obtain⟨z1,z2,_,_⟩:=Hb hb (p:=P) (n:=6) (by omega) (by omega);obtain⟨u1,u2,u3,u4⟩:=Hb hb (p:=P+1) (n:=7) (by omega) (by omega);obtain⟨w1,w2,w3,w4⟩:=Hb hb (p:=P+1) (n:=3) (by omega) (by omega);by_cases hd0:d=0
  .subst hd0;simp only[decide_true,cond_true,ocR];exact Bj (by simp only[kd];simp;omega) (λx hx=>by cases hx)
  .have hpos:∀q,0<=q/\q+Bd d<=500000->okM e ((zc m).1 (b,q) d).1=true/\q<=((zc m).1 (b,q) d).2/\((zc m).1 (b,q) d).2<=q+Bd d:=λq hq=>
    ⟨(ih m (by omega) (by omega) q hq e (by omega) (by omega)).resolve_left hd0,(uZ hb d m (by omega) (by omega) q hq).2⟩
   obtain⟨r1,r2,r3⟩:=hpos (P+1) (by omega);obtain⟨s1,s2,s3⟩:=hpos (P+1+1) (by omega);obtain⟨t1,t2,t3⟩:=hpos ((zc m).1 (b,P+1) d).2 (by omega);have hf:decide (d=0)=false:=by simpa using hd0
   have a6:ar .add .i64 1 (la (b,P+1) 7).1=1+(la (b,P+1) 7).1:=cc (by omega);have a3:ar .add .i64 1 (la (b,P+1) 3).1=1+(la (b,P+1) 3).1:=cc (by omega);simp only[hf,cond_false,z2,u2,w2,a6,a3,Pc];cases cmp .eql (la (b,p) 6).1 0 with
   |true=>exact Bj (by simp only[kd];simp;omega) (λx hx=>by cases hx)
   |false=>
    cases cmp .eql (la (b,P) 6).1 0 with
    |true=>exact Bj (by simp only[kd];simp;omega) (λx hx=>by simp only[List.mem_singleton]at hx;subst hx;exact s1)
    |false=>
     cases cmp .eql (la (b,P) 6).1 1 with
     |true=>exact Bj (by simp[kd]) (λx hx=>by simp only[List.mem_cons,List.not_mem_nil,or_false]at hx;rcases hx with rfl|rfl;exact r1;exact t1)
     |false=>
      cases cmp .eql (la (b,P) 6).1 2 with
      |true=>exact Bj (by simp[kd]) (λx hx=>by simp only[List.mem_singleton]at hx;subst hx;exact r1)
      |false=>
       cases cmp .eql (la (b,P) 6).1 3 with
       |true=>exact Bj (by simp[kd]) (λx hx=>by simp only[List.mem_cons,List.not_mem_nil,or_false]at hx;rcases hx with rfl|rfl;exact r1;exact t1)
       |false=>exact Bj (by simp only[kd];simp;omega) (λx hx=>by simp only[List.mem_singleton]at hx;subst hx;exact s1)
theorem Zae(s t:Time):Vg s t:=by
 simp only[Vg,Fy,Qp,Tr.ob,ga];simp[pg]
theorem Zaw{f g:List Time}(hf:f.length<=1000)(hg:g.length<=1000):Oy f g/\(Ny f g).length<=64:=by
 obtain⟨f1,f2⟩:=xk f (by omega);obtain⟨g1,g2⟩:=xk g (by omega)
 have k4:∀(m:List Time) (i:Int),inb i (ba .time f)->m.length<=1000000->l5 f g m i/\∃q,j5 f g m i=.x q/\q.length<=m.length+g.length:=by
  intro m i hi hm
  have k:∃q,ja (λs:List Time×Int=>da (Vk f g m i s.1 s.2)) (λs=>Tp f g m i s.1 s.2) (m,0) q/\∃q',q=.x q'/\q'.length<=m.length+g.length:=by
   refine ja.list g (λi (b:List Time)=>(b,(i:Int))) (λl b=>b.length<=m.length+l.length) (b0:=m) rfl (by simp) ?_ ?_
   .intro l x r q hx hI;obtain⟨hlen,hrd,hin,hlss⟩:=Oa (t:=.time) hx;have hlim:∀w,lim (ba .time q) (ba .time [w]):=λw=>Ab (t:=.time) (show q.length<1099511627776 by omega);simp only[Tp,Vk,Sp,Tr.val,Tr.ob,ga,hlss,hrd,Ia (l:=l) (by omega)];exact⟨by simp[hin,hi,hlim,Zae],.inl ⟨_,rfl,by simp;omega⟩⟩
   .intro q hI;have hend:cmp .lss (g.length:Int) (ba .time g)=false:=Ma (t:=.time);simp only[Tp,Vk,Sp,Tr.val,Tr.ob,hend];exact⟨by simp,_,rfl,q,rfl,hI⟩
  obtain⟨_,k1,q,rfl,k2⟩:=k;exact⟨k1.t,q,k1.v,k2⟩
 have hmul:∀n,n<=f.length->n*g.length<=1000000:=λn hn=>Nat.le_trans (Nat.mul_le_mul (Nat.le_trans hn hf) hg) (by decide)
 have k:∃q,ja (λs:List Time×Int=>da (Xk f g s.1 s.2)) (λs=>Vp f g s.1 s.2) ([],0) q/\∃q',q=.x q'/\q'.length<=1000000:=by
  refine ja.list f (λi (b:List Time)=>(b,(i:Int))) (λl b=>b.length<=l.length*g.length) (b0:=[]) rfl (by simp) ?_ ?_
  .intro l x r q hx hI;obtain⟨hlen,_,hin,hlss⟩:=Oa (t:=.time) hx;obtain⟨c1,q',c2,c3⟩:=k4 q l.length hin (by have:=hmul l.length (by omega);omega);simp only[Vp,Xk,Up,Iy,B5,w5,Hy,Gy,lpS,Tr.val,Tr.ob,hlss,c2,Ia (l:=l) (by omega)];exact⟨by simp[c1],.inl ⟨_,rfl,by rw[List.length_append,List.length_singleton,Nat.add_mul,Nat.one_mul];omega⟩⟩
  .intro q hI;have hend:cmp .lss (f.length:Int) (ba .time f)=false:=Ma (t:=.time);simp only[Vp,Xk,Up,Tr.val,Tr.ob,hend];exact⟨by simp,_,rfl,q,rfl,Nat.le_trans hI (hmul _ (Nat.le_refl _))⟩
 obtain⟨_,k1,q,rfl,k2⟩:=k;have a2:C5 f g=.x q:=k1.v;have b2:D5 f g:=k1.t;obtain⟨o1,o2⟩:=U0 q (by omega);simp only[Oy,Ny,ZN,YN,My,Ly,H5,E5,Ky,Jy,lpS,Tr.val,Tr.ob,ga,a2];refine⟨by simp[f1,g1,b2,o1],?_⟩;cases mf f<;>cases mf g<;>first|exact o2|exact Nat.zero_le _
theorem aax{b:List Int}(hb:Xc b){p:Int}(hp:0<=p/\p<=400000){s:Sess}(hs:s.Front.length<=1000) :
  Qy (b,p) s/\p<=(Yd (b,p) s).2/\(Yd (b,p) s).2<=p+14/\(Yd (b,p) s).1.length<=64:=by
 obtain⟨a1,a2,a3,a4⟩:=zaj hb (p:=p) (by omega);obtain⟨c1,c2,_,_⟩:=Hb hb (p:=(Sg (b,p)).2) (n:=10) (by omega) (by omega);obtain⟨g1,g2⟩:=Zaw (f:=s.Front) (g:=(Sg (b,p)).1) hs (by omega);simp only[Qy,Yd,cO,bO,Py,Tr.val,Tr.ob,ga,c2];refine⟨by simp[a1,c1,g1],?_⟩;cases cmp .eql (la (b,(Sg (b,p)).2) 10).1 0<;>simp only[ocR]<;>omega
theorem aaf{xs:List Row}(hl:xs.length<=100)(hi:∀x∈xs,InR x.Diff):Ns xs/\(im xs).length<=xs.length/\Ga (im xs)=true:=by
 obtain⟨r1,r2⟩:=Uo xs (by omega);obtain⟨s1,s2⟩:=Pg xs (by omega) hi;have hl2:=YL hi;obtain⟨t1,t2⟩:=GZ (Pa xs) (by omega);simp only[Ns,im,wR,vR,xD,Tr.val,Tr.ob,ga,r2,s2,t2];refine⟨by simp[r1,s1,t1],?_⟩;have h0:Ga []=true:=rfl;cases Jb xs with
 |false=>exact⟨Nat.zero_le _,h0⟩
 |true=>
  show(if Ga (Pa xs)=true then Pa xs else []).length<=_/\Ga (if Ga (Pa xs)=true then Pa xs else [])=true;split
  .rename_i h;exact⟨hl2,h⟩
  .exact⟨Nat.zero_le _,h0⟩
theorem bax{a:List Row}(h:Ga a=true):∀x∈a,InR x.Diff:=λx hx=>Oe ((Yo h).2.2 x hx)
theorem cax{b:List Int}(hb:Xc b){p m:Int}(hp:0<=p/\p<=500000)(hm:0<=m/\m<=8) :
  AD (b,p) m/\p<=(Qb (b,p) m).2/\(Qb (b,p) m).2<=p+1+9*m/\(Qb (b,p) m).1.length<=8/\Ga (Qb (b,p) m).1=true:=by
 obtain⟨a1,a2,a3,a4,a5⟩:=gai hb hp (show 0<=m/\m<=100 by omega);obtain⟨c1,c2,c3⟩:=aaf (xs:=(Vh (b,p) m).1) (by omega) (λx hx=>by have:=a5 x hx;unfold InR;omega);simp only[AD,Qb,yR,xR,zD,Tr.val,Tr.ob,ga,ocR];exact⟨by simp[a1,c1],a2,a3,by omega,c3⟩
theorem dax{b:List Int}(hb:Xc b){p:Int}(hp:0<=p/\p<=400000){a:List Row}(ha:a.length<=8)(hi:∀x∈a,InR x.Diff){f:List Time}(hf:f.length<=1000) :
  PD (b,p) a f/\p<=(de (b,p) a f).2/\(de (b,p) a f).2<=p+8/\(de (b,p) a f).1.length<=8/\Ga (de (b,p) a f).1=true:=by
 obtain⟨f1,f2⟩:=xk f (by omega)
 have k4:∀(q:Int) (m:List Row) (i:Int) (x:Row),0<=q/\q<=500000->CD b q a f m i x/\∃q' u v,BD b q a f m i x=.n (q',u,v)/\q<=q'/\q'<=q+1:=by
  intro q m i x hq;by_cases hz:f.length=0
  .have hg:cmp .gtr (ba .time f) 0=false:=by rw[xc];unfold ba;rw[hz];rfl
   simp only[CD,BD,Qs,Tr.val,Tr.ob,ga,hg];exact⟨by simp,_,_,_,rfl,by omega,by omega⟩
  .have hg:cmp .gtr (ba .time f) 0=true:=by rw[xc];unfold ba;simp;omega
   obtain⟨x1,x2,x3,x4⟩:=Hb hb (p:=q) (n:=ba .time f) (by omega) (by unfold ba;omega);have hin:inb (la (b,q) (ba .time f)).1 (ba .time f):=⟨x3,x4⟩;simp only[CD,BD,Qs,Tr.val,Tr.ob,ga,hg,f2];cases Wd f with
   |true=>exact⟨by simp[f1,x1,hin,Zae],_,_,_,rfl,by omega,by omega⟩
   |false=>exact⟨by simp[f1],_,_,_,rfl,by omega,by omega⟩
 have k:∃q,ja (λs:Int×LR×Int=>da (lm b p a f s.1 s.2.1 s.2.2)) (λs=>Ss b p a f s.1 s.2.1 s.2.2) (p,[],0) q/\∃p' q',q=.x (p',q')/\p<=p'/\p'<=p+a.length/\q'.length=a.length/\∀x∈q',InR x.Diff:=by
  refine ja.list a (λi (b:Int×LR)=>(b.1,b.2,(i:Int))) (λl b=>p<=b.1/\b.1<=p+l.length/\b.2.length=l.length/\∀x∈b.2,InR x.Diff) (b0:=(p,[])) rfl ⟨by simp,by simp,rfl,λx hx=>by cases hx⟩ ?_ ?_
  .rintro l x r ⟨q,m⟩ hx ⟨i1,i2,i3,i4⟩;simp only[]at i1 i2 i3 i4;obtain⟨hlen,hrd,hin,hlss⟩:=Oa (t:=.row) hx;obtain⟨c1,q',u,v,c2,c3,c4⟩:=k4 q m l.length x (by omega);have hlim:∀w,lim (ba .row m) (ba .row [w]):=λw=>Ab (t:=.row) (show m.length<1099511627776 by omega);simp only[Ss,lm,Rs,FD,cab,bab,ED,DD,Tr.val,Tr.ob,ga,hlss,hrd,c2,Ia (l:=l) (by omega)];refine⟨by simp[hin,c1,hlim],.inl ⟨(q',_),rfl,by simp only[];omega,by simp only[List.length_append,List.length_singleton];omega,by simp[i3],λz hz=>?_⟩⟩;rcases List.mem_append.1 hz with hz|hz
   .exact i4 z hz
   .rw[List.mem_singleton]at hz;subst hz;exact hi x (by rw[hx];simp)
  .rintro⟨q,m⟩ ⟨i1,i2,i3,i4⟩;have hend:cmp .lss (a.length:Int) (ba .row a)=false:=Ma (t:=.row);simp only[Ss,lm,Rs,Tr.val,Tr.ob,hend];exact⟨by simp,_,rfl,q,m,rfl,i1,i2,i3,i4⟩
 obtain⟨_,k1,p',m,rfl,k2,k3,k5,k6⟩:=k;have a2:dab b p a f=.x (p',m):=k1.v;have b2:eab b p a f:=k1.t;obtain⟨o1,o2,o3⟩:=aaf (xs:=m) (by omega) k6;simp only[PD,de,CR,BR,LD,JD,gab,fab,ID,GD,lpS,Tr.val,Tr.ob,ga,a2,ocR];exact⟨by simp[b2,o1],by omega,by omega,by omega,o3⟩
theorem eax{b:List Int}(hb:Xc b){p:Int}(hp:0<=p/\p<=700000):p<=(Ws (b,p)).2/\(Ws (b,p)).2<=p+5:=by
 obtain⟨a1,a2⟩:=Ew hb (p:=p) (by omega);obtain⟨c1,c2,c3,c4⟩:=Hb hb (p:=p+3) (n:=16) (by omega) (by omega);obtain⟨d1,d2,d3,d4⟩:=Hb hb (p:=p+3+1) (n:=2) (by omega) (by omega)
 have k:∀x,∃q u v,MR b (p+3) x=.n (q,u,v)/\p+4<=q/\q<=p+5:=λx=>by
  simp only[MR,Ts,Tr.val,c2,d2];cases cmp .eql (la (b,p+3) 16).1 0 with
  |true=>exact⟨_,_,_,rfl,by omega,by omega⟩
  |false=>cases cmp .eql (la (b,p+3) 16).1 1<;>exact⟨_,_,_,rfl,by omega,by omega⟩
 obtain⟨q,u,v,k1,k2,k3⟩:=k (Hh (b,p)).1;simp only[Ws,PR,Vs,Us,Tr.val,a2,k1,ocR];omega
end Go.Proofs.YtiiidenbemkihaaGreat

namespace Go.Proofs.YtiiidenbemkihaaGreat
open Go Tg
structure Dv(s:Sess):Prop where
 ins:s.Ins.length=2
 each:∀a∈s.Ins,a.length<=400
 front:s.Front.length<=64
 told:s.Told.length<=400
theorem Dv.sm{s:Sess}(h:Dv s):Sm s:=⟨by have:=h.ins;omega,λa ha=>by have:=h.each a ha;omega,by have:=h.front;omega,by have:=h.told;omega⟩
theorem fax(s:Sess):(wn s).length<=400:=by
 unfold wn;cases h:Pe s.Plan s.Ins with
 |none=>exact Nat.zero_le _
 |some x=>exact(cp h).short
theorem Dv.on{s:Sess}(h:Dv s){f:List Time}(hf:f.length<=64):Dv (onS s f):=⟨h.ins,h.each,hf,Nat.le_trans (fv _ _) (fax s)⟩
theorem Dv.set{s:Sess}(h:Dv s)(i:Int){a:List Row}(ha:a.length<=400):Dv (setIn s i a):=by
 refine⟨by unfold setIn;rw[List.length_set];exact h.ins,λx hx=>?_,h.front,h.told⟩;rcases List.mem_or_eq_of_mem_set hx with hx|rfl
 .exact h.each x hx
 .exact ha
theorem gax{s s':Sess}{i:Int}{rows:List Row}(h:inS s i rows=some s') :
  pd s=true/\(0<=i/\i<2)/\Ga rows=true/\(rows.all λx=>Ib s.Front x.At)=true/\Ga (Pa (rd .lrow s.Ins i++rows))=true/\pd s'=true/\s'=setIn s i (Pa (rd .lrow s.Ins i++rows)):=by
 unfold inS at h;cases hA:(pd s&&(decide (0<=i/\i<2)&&(Ga rows&&rows.all λx=>Ib s.Front x.At))) with
 |false=>rw[hA]at h;exact nomatch h
 |true=>
  rw[hA,cond_true]at h;cases hB:(Ga (Pa (rd .lrow s.Ins i++rows))&&pd (setIn s i (Pa (rd .lrow s.Ins i++rows)))) with
  |false=>rw[hB]at h;exact nomatch h
  |true=>
   rw[hB,cond_true]at h;have h7:=Option.some.inj h;simp only[Bool.and_eq_true,decide_eq_true_eq]at hA hB;exact⟨hA.1,hA.2.1,hA.2.2.1,hA.2.2.2,hB.1,by rw[<-h7];exact hB.2,h7.symm⟩
theorem hax{a:List Row}(h:Ga a=true):a.length<=400:=(gb (oe h)).1
def tS(p:Int)(s:Sess):Int×Int×Int×List Plan×List (List Row)×List Time×List Row:=(p,s.Plan.Kind,s.Plan.Num,s.Plan.Kids,s.Ins,s.Front,s.Told)
theorem baf{b:List Int}(hb:Xc b){p:Int}(hp:0<=p/\p<=300000){s:Sess}(hs:Dv s)(n:Int) :
  kE b p s.Plan.Kind s.Plan.Num s.Plan.Kids s.Ins s.Front s.Told n/\∃p' s',TR b p s.Plan.Kind s.Plan.Num s.Plan.Kids s.Ins s.Front s.Told n=.n (tS p' s')/\p<=p'/\p'<=p+40/\Dv s':=by
 have hfr:=hs.front;obtain⟨x1,x2,_,_⟩:=Hb hb (p:=p) (n:=3) (by omega) (by omega);obtain⟨l1,l2,l3,l4⟩:=aax hb (p:=p+1) (by omega) (s:=s) (by omega);obtain⟨o1,o2⟩:=Xaw hs.sm (f:=(Yd (b,p+1) s).1) (by omega);obtain⟨y1,y2,_,_⟩:=Hb hb (p:=p+1) (n:=2) (by omega) (by omega);obtain⟨b1,b2,b3,b4,b5⟩:=cax hb (p:=p+1+1) (m:=3) (by omega) (by omega);obtain⟨c1,c2,c3,c4,c5⟩:=dax hb (p:=(Qb (b,p+1+1) 3).2) (by omega) b4 (bax b5) (f:=s.Front) (by omega);generalize hrow:(de (b,(Qb (b,p+1+1) 3).2) (Qb (b,p+1+1) 3).1 s.Front).1=rows at c4 c5;obtain⟨i1,i2⟩:=Qaw hs.sm (la (b,p+1) 2).1 (rows:=rows) (by omega);simp only[kE,TR,jE,dE,pab,oab,cE,fE,rab,qab,eE,iE,tab,sab,gE,Tr.val,Tr.ob,ga,Vae,x2,y2,hrow,i2,o2];cases cmp .eql (la (b,p) 3).1 0 with
 |true=>
  refine⟨by simp[x1,l1,o1],?_⟩;simp only[onV];cases NV s (Yd (b,p+1) s).1 with
  |true=>exact⟨_,onS s _,rfl,by omega,by omega,hs.on l4⟩
  |false=>exact⟨_,s,rfl,by omega,by omega,hs⟩
 |false=>
  refine⟨by simp[x1,y1,b1,c1,i1],?_⟩;simp only[];cases h:inS s (la (b,p+1) 2).1 rows with
  |none=>exact⟨_,s,rfl,by omega,by omega,hs⟩
  |some s'=>
   obtain⟨_,_,_,_,h5,_,h7⟩:=gax h;exact⟨_,s',rfl,by omega,by omega,by rw[h7];exact hs.set _ (hax h5)⟩
theorem iax{b:List Int}(hb:Xc b){p:Int}(hp:0<=p/\p<=200000){s:Sess}(hs:Dv s) :
  XR b p s.Plan.Kind s.Plan.Num s.Plan.Kids s.Ins s.Front s.Told/\∃p' s',WR b p s.Plan.Kind s.Plan.Num s.Plan.Kids s.Ins s.Front s.Told=.n (tS p' s')/\p<=p'/\p'<=p+300/\Dv s':=by
 obtain⟨x1,x2,x3,x4⟩:=Hb hb (p:=p) (n:=7) (by omega) (by omega);generalize hn:(la (b,p) 7).1=n at x3 x4;obtain⟨n0,rfl⟩ : ∃n0:Nat,n=(n0:Int):=⟨n.toNat,by omega⟩
 have key:∃q,ja (λt:Int×Int×Int×LP×(List LR)×(List Time)×LR×Int=>da (mm b (p+1) s.Plan.Kind s.Plan.Num s.Plan.Kids s.Ins s.Front s.Told (n0:Int) t.1 t.2.1 t.2.2.1 t.2.2.2.1 t.2.2.2.2.1 t.2.2.2.2.2.1 t.2.2.2.2.2.2.1 t.2.2.2.2.2.2.2))
   (λt=>Ys b (p+1) s.Plan.Kind s.Plan.Num s.Plan.Kids s.Ins s.Front s.Told (n0:Int) t.1 t.2.1 t.2.2.1 t.2.2.2.1 t.2.2.2.2.1 t.2.2.2.2.2.1 t.2.2.2.2.2.2.1 t.2.2.2.2.2.2.2)
   (p+1,s.Plan.Kind,s.Plan.Num,s.Plan.Kids,s.Ins,s.Front,s.Told,(n0:Int)) q/\∃p' s',q=.x (tS p' s')/\p+1<=p'/\p'<=p+1+40*n0/\Dv s':=by
  refine ja.down (λi (t:Int×Sess)=>(t.1,t.2.Plan.Kind,t.2.Plan.Num,t.2.Plan.Kids,t.2.Ins,t.2.Front,t.2.Told,(i:Int))) (λi t=>p+1<=t.1/\t.1+40*i<=p+1+40*n0/\Dv t.2) (n0:=n0) (b0:=(p+1,s)) rfl ⟨by simp,by simp,hs⟩ ?_ ?_
  .rintro i ⟨q,t⟩ hi ⟨i1,i2,i3⟩;simp only[]at i1 i2 i3;have hg:cmp .gtr (((i+1:Nat):Int)) 0=true:=by rw[xc];simp
   have hsb:ar .sub .i64 (((i+1:Nat):Int)) 1=(i:Int):=by rw[bf (by omega)];omega
   have r1:∀n,kE b q t.Plan.Kind t.Plan.Num t.Plan.Kids t.Ins t.Front t.Told n:=λn=>(baf hb (p:=q) (by omega) i3 n).1;obtain⟨_,q',t',r2,r3,r4,r5⟩:=baf hb (p:=q) (by omega) i3 ((i+1:Nat):Int);simp only[Ys,mm,Xs,lE,Tr.val,Tr.ob,hg,hsb,r2];exact⟨by simp[r1],(q',t'),rfl,by simp only[];omega,by simp only[];omega,r5⟩
  .rintro⟨q,t⟩ ⟨i1,i2,i3⟩;have hg:cmp .gtr ((0:Nat):Int) 0=false:=rfl;simp only[Ys,mm,Xs,Tr.val,Tr.ob,hg];exact⟨by simp,_,rfl,q,t,rfl,i1,by simp at i2;omega,i3⟩
 obtain⟨_,k1,p',s',rfl,k2,k3,k4⟩:=key;have a2:uab b (p+1) s.Plan.Kind s.Plan.Num s.Plan.Kids s.Ins s.Front s.Told (n0:Int)=.x (tS p' s'):=k1.v;have b2:vab b (p+1) s.Plan.Kind s.Plan.Num s.Plan.Kids s.Ins s.Front s.Told (n0:Int):=k1.t;simp only[XR,WR,oE,mE,lpS,Tr.val,Tr.ob,ga,x2,hn,a2];exact⟨by simp[x1,b2],p',s',rfl,by omega,by omega,k4⟩
theorem jax{b:List Int}(hb:Xc b){p:Int}(hp:0<=p/\p<=200000){s:Sess}(hs:Dv s)(k m:Int)(l:List Plan) :
  ZR b p k m l s.Ins s.Front s.Told/\∃p' u v w,YR b p k m l s.Ins s.Front s.Told=.n (p',u,v,w)/\p<=p'/\p'<=p+10/\∀q,Sm ⟨q,u,v,w⟩:=by
 have h1:=hs.ins;have h2:=hs.each;have h3:=hs.front;have h4:=hs.told;obtain⟨x1,x2,_,_⟩:=Hb hb (p:=p) (n:=24) (by omega) (by omega);obtain⟨r1,r2,_,_⟩:=ZY hb (p:=p+1) (by omega);have o1:=Aaj hb (p:=p+1) (by omega);obtain⟨o2,o3⟩:=eax hb (p:=p+1) (by omega);have lim0:∀ {t:Ty}{a:List t.T},a.length<=1000->lim (ba t []) (ba t a):=λh=>by unfold lim ba;simp;omega
 have z1:=lim0 (t:=.row) (a:=s.Told) (by omega);have z2:=lim0 (t:=.time) (a:=s.Front) (by omega);have z3:∀w,lim (ba .row s.Told) (ba .row [w]):=λw=>Ab (t:=.row) (show s.Told.length<1099511627776 by omega);have z4:∀w,lim (ba .time s.Front) (ba .time [w]):=λw=>Ab (t:=.time) (show s.Front.length<1099511627776 by omega);have hle:le3 1 (ba .lrow s.Ins) (ba .lrow s.Ins):=by unfold le3 ba;rw[h1];decide
 have hE:∀a∈s.Ins,a.length<=1000:=λa ha=>by have:=h2 a ha;omega
 simp only[ZR,YR,qE,Tr.val,Tr.ob,ga,x2,List.nil_append];cases cmp .eql (la (b,p) 24).1 0 with
 |true=>exact⟨by simp[x1,r1,z1,z3],_,_,_,_,rfl,by omega,by omega,λq=>⟨by simp only[];omega,hE,by simp only[];omega,by simp only[List.length_append,List.length_singleton];omega⟩⟩
 |false=>
  cases cmp .eql (la (b,p) 24).1 1 with
  |true=>exact⟨by simp[x1,o1,z2,z4],_,_,_,_,rfl,by omega,by omega,λq=>⟨by simp only[];omega,hE,by simp only[List.length_append,List.length_singleton];omega,by simp only[];omega⟩⟩
  |false=>
   cases cmp .eql (la (b,p) 24).1 2 with
   |true=>exact⟨by simp[x1,hle],_,_,_,_,rfl,by omega,by omega,λq=>⟨by simp only[List.length_drop];omega,λa ha=>hE a (List.mem_of_mem_drop ha),by simp only[];omega,by simp only[];omega⟩⟩
   |false=>exact⟨by simp[x1],_,_,_,_,rfl,by omega,by omega,λq=>⟨by simp only[];omega,hE,by simp only[];omega,by simp only[];omega⟩⟩
def SV(p:Plan):Sess:=⟨p,[[],[]],[⟨0,0⟩],[]⟩
theorem kax(p:Plan):Hx p/\Gx p=(if okM 4 p=true then(SV p,true,()) else(gv,false,())):=by
 obtain⟨h1,h2⟩:=T0 p;simp only[Hx,Gx,ZM,YM,Ex,Tr.val,Tr.ob,ga,Pc,h2];cases h:okM 4 p with
 |false=>exact⟨by simp[h1],rfl⟩
 |true=>
  obtain⟨c1,c2⟩:=Wae h;simp only[Bool.not_true,ocR,c2];exact⟨by simp[h1,c1],rfl⟩
theorem oay{b:List Int}(hb:Xc b):eS (b,0)/\0<=(Zs (b,0)).2/\(Zs (b,0)).2<=400/\Sm (Zs (b,0)).1:=by
 obtain⟨a1,a2,a3⟩:=uZ hb 3 Pb (by decide) (by decide) 0 (by decide);have a4:okM 4 (Gh (b,0) 3).1=true:=(Yaw hb 3 Pb (by decide) (by decide) 0 (by decide) 4 (by omega) (by omega)).resolve_left (by omega);have hB:Bd 3=44:=rfl;have a1:FM (b,0) 3:=a1;have a2:0<=(Gh (b,0) 3).2:=a2;have a3:(Gh (b,0) 3).2<=0+Bd 3:=a3;obtain⟨n1,n2⟩:=kax (Gh (b,0) 3).1;rw[if_pos a4]at n2
 have hd:Dv (SV (Gh (b,0) 3).1):=by
  refine⟨rfl,λa ha=>?_,show 1<=64 by omega,Nat.zero_le _⟩;have:a=[]:=by simpa [SV] using ha
  rw[this];exact Nat.zero_le _
 obtain⟨c1,p',s',c2,c3,c4,c5⟩:=iax hb (p:=(Gh (b,0) 3).2) (by omega) hd;obtain⟨d1,q,u,v,w,d2,d3,d4,d5⟩:=jax hb (p:=p') (by omega) c5 s'.Plan.Kind s'.Plan.Num s'.Plan.Kids;simp only[eS,Zs,dS,aS,sE,pE,rE,Tr.val,Tr.ob,ga,Pc,n2,c2,tS,d2,ocR];exact⟨by simp[a1,n1,c1,d1],by omega,by omega,d5 _⟩
end Go.Proofs.YtiiidenbemkihaaGreat

namespace Go.Proofs.YtiiidenbemkihaaGreat
open Go Tg
theorem pay{a:List Row}(hl:a.length<=1000):PI a a/\MI a a=true:=⟨tai a a (by omega),uai a (by omega)⟩
end Go.Proofs.YtiiidenbemkihaaGreat

namespace Go.Proofs.YtiiidenbemkihaaGreat
open Go Tg
structure On(s:Sess)(f:List Time)(x:List Row):Prop where
 ok:OkS s x
 flow:rM s.Plan s.Ins x
 front:Wd f=true
 all:(f.all λt=>Ib s.Front t)=true
 told:s.Told=Za s.Front x
 new:(onS s f).Told=Za f x
 fresh:QV s f=(Za f x).filter λz=>Ib s.Front z.At
theorem On.sess{s:Sess}{f:List Time}{x:List Row}(h:On s f x):pd (onS s f)=true:=LV.2 ⟨x,h.front,h.ok.flow,h.new⟩
end Go.Proofs.YtiiidenbemkihaaGreat
