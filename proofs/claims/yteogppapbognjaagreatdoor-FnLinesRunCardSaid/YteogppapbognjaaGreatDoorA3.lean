/-
  'gathered': the walk over the items that adds them into the map. 'gathered': the first loop. 'gathered': the second loop, over the map. No statement is proved here.
-/
import Derived.Test.YteogppapbognjaaGreatDoorA2
import Derived.Shelf.SlSortFuncK.WholeK
import Derived.ProofKit
import Derived.SizedLaws
namespace Go.Proofs.YteogppapbognjaaGreatDoor
open Go
open _root_.List renaming getElem?_eq_getElem→aal,getD_eq_getElem?_getD→aap,getElem?_eq_some_iff→aax,range→aaH,mem_singleton→aaT,pairwise_iff_getElem→aaX,filter_sublist→abb,map_append→abd,getElem?_eq_none→abk,map_congr_left→abm,mem_append→abn,mem_filter→abp,take_succ_eq_append_getElem→abx,length_map→abC,mem_range→abK,map_cons→abR,perm_ext_iff_of_nodup→abS,map_nil→abU,mem_map→abV,map_map→abW,getElem?_cons_zero→acd,take_of_length_le→aci,map_id→acj,length_filter_le→acl,mem_of_getElem?→aco,getElem?_range→acv,filter_append→acw,foldl_append→acy,nodup_append→acz,ext_getElem?→acB,getElem?_map→acC
open Go.Sort renaming rd→aam,putRowK→aan,ahead→aar,alloc_eq_grow→aas,scanDown→aay,partialInsertionSort→aaz,partitionEqual→aaE,scanUp→aaN,hintCode→aaO,grow_grow→aaP,size_swp→aaQ,size_grow→aaR,partition→aaY,medianAdjacent→aaZ,partLoop→abc,swp→abg,holdsK_grow→abh,ahead_grow→abv,siftDown→abz,partEqLoop→abE,putRowK_grow→abF,medianAdjacent_count→abG,holdsK_putRowK→abL,partitionEqual→abM,insertionSort→abO,medianAdjacent_mem→abQ,setCells_grow→abT,holdsK_ahead→abX,size_putRowK→abY,putRowK_self→abZ,insOuter→aca,rawPivot→acb,rd_lim_le→ach,fixDown→acm,shiftUp→acn,cell?_grow→acs,holds_grow→act
open _root_.Nat renaming le_refl→aao,le_trans→aaL,zero_add→aaM,lt_of_lt_of_le→aaU,zero_le→abf,eq_of_beq_eq_true→abA,lt_of_le_of_lt→abP,mod_lt→acp
open Go.Proofs.Tryz renaming prog→aaq
open Go renaming callFunc→aat,wpOps_cons→aav,run_underlying→aaD,Program→aaK,bodyPost_ret→abt,results_none→abu,wp_region_any→acu
open Go.Value renaming int→aau,okWide→acx,bool→acG
open _root_.Array renaming getElem?_eq_some_iff→aaw,getD_eq_getD_getElem?→aaA,getElem?_modify→abj,getElem?_eq_getElem→abo,toArray_toList→acq,size_append→acA
open Go.Proofs renaming sortWorldK→aaB,sortWorld→aaF,SwapSwapsK→aaI,enters_of→aaJ,scanDown_end→aaW,cell?_sortWorldK_other→abi,shiftUp_stop→abr,of_beq_int→abH,of_bne_int→abI,scanUp_end→abJ
open Go.Exit renaming inBlock→aaC
open Go.Proofs.YteogppapbognjaaGreatDoor.MS renaming regC→aaG
open _root_.Or renaming inl→aaS,inr→abq
open Go.Lib renaming swapperK→aaV,bitLen→acr
open Go.World renaming cell?_setCells_out→aba,block_lt_of_cell?→ace,cell?_alloc_past→ack
open Go.Extern.ReflectliteSwapper renaming swap→abe
open _root_.Bool renaming and_eq_true→abl,and_eq_false_iff→abB,or_eq_false_iff→abD,or_eq_true→acf
open _root_.Option.some renaming injEq→abw
open _root_.List.Sublist renaming map→aby
open Go.Operand renaming tmp→abN
open Go.Oper renaming upon_enter→acg
open Go.Extern.Rtype renaming kind→acD
open _root_.Option renaming getD_some→acE
open Go.Deferred renaming ofValue→acF
open Go.Ending renaming returned→acH
set_option maxRecDepth 100000
theorem yE(w:World)(k v:Int):(Instr.build 96 #[(0,.int .i64 k),(1,.int .i64 v)]).run aaq w=.ok (Na [k,v,0]) w:=by
 obtain⟨us,h1,h2⟩:=VC (F:=λ_ _=>False) (B:=0) (w:=w) tdE rfl (ps:=[(0,⟨true,false,[.int .i64 k]⟩),(1,⟨true,false,[.int .i64 v]⟩)]) (vs:=#[(0,.int .i64 k),(1,.int .i64 v)])
  (f:=true) (cs:=[.int .i64 k,.int .i64 v,.int .i64 0]) rfl (λj i p u hp hu=>by
    match j,hp,hu with
    |0,hp,hu=>simp at hp hu;obtain⟨rfl,rfl⟩:=hp;subst hu;exact RC.int _ _
    |1,hp,hu=>simp at hp hu;obtain⟨rfl,rfl⟩:=hp;subst hu;exact RC.int _ _
    |j+2,hp,hu=>simp at hp) rfl
 rw[h1];cases h2 with
 |cons h2 h3=>cases h2;cases h3 with
  |cons h2 h3=>cases h2;cases h3 with
   |cons h2 h3=>cases h2;cases h3;rfl
def V5(r b5:Nat)(k v c:Int)(m:MP):Nat->Value
 |0=>.map (some r)
 |1=>.pointer (some ⟨b5,0,none⟩)
 |2=>.int .i64 k
 |3=>.pointer (some ⟨b5,1,none⟩)
 |4=>.int .i64 v
 |5=>Na [k,v,0]
 |6=>.int .i64 (rb m [k,v,0])
 |7=>.pointer (some ⟨b5,2,none⟩)
 |8=>.int .i64 c
 |9=>.int .i64 (ar .add .i64 (rb m [k,v,0]) c)
 |10=>.tuple #[.int .i64 (rb m [k,v,0]),goInt (stp m [k,v,0])]
 |_=>goInt (stp m [k,v,0])
def mL(m:MP)(q:List Int×Int)(L:Nat->Bool):MP:=if L 12 then stepM m q else if L 10 then Vc m q.1 else m
structure J5(a0:Act)(w1:World)(r b5:Nat)(k v c:Int)(m:MP)(L:Nat->Bool)(a:Act)(w:World):Prop where
 df:a.defers=[]
 sz:a.tmps.size=a0.tmps.size
 vs:∀i,i<12->L i=true->a.tmps.getD (16+i) undef=V5 r b5 k v c m i
 ot:∀n,n<16\/27<n->a.tmps.getD n undef=a0.tmps.getD n undef
 pk:Pk w1 r w
 ob:w.heap[r]? = some (ya (mL m ([k,v,0],c) L))
theorem Tb.ins{n:Nat}{m:MP}(h:Tb n m){ks:List Int}(hk:ks.length=n):Tb n (Vc m ks):=by
 unfold Vc;split
 .exact h
 .intro p hp;rcases abn.1 hp with hp|hp
  .exact h p hp
  .simp at hp;subst hp;exact hk
theorem mR(m:MP)(ks:List Int):rb (Vc m ks) ks=rb m ks:=WP m ks ks
theorem nR(m:MP)(ks:List Int):stp m ks<(Vc m ks).length:=by
 obtain⟨v0,h⟩:=bQ m ks;exact(aax.1 h).1
theorem Pk.trans{w w' w'':World}{r:Nat}(h:Pk w r w')(k:Pk w' r w''):Pk w r w'':=⟨k.os.trans h.os,k.tape.trans h.tape,k.output.trans h.output,k.size.trans h.size,λi hi=>(k.block i hi).trans (h.block i hi)⟩
theorem J5.put{a0:Act}{w1:World}{r b5:Nat}{k v c:Int}{m:MP}{L:Nat->Bool}{a:Act}{w w':World}(h:J5 a0 w1 r b5 k v c m L a w)(h28:28<=a0.tmps.size){i:Nat}(hi:i<12)(hp:Pk w r w')
  (ho:w'.heap[r]? = some (ya (mL m ([k,v,0],c) λj=>if j=i then true else L j))):J5 a0 w1 r b5 k v c m (λj=>if j=i then true else L j) (a.put (some (16+i)) (V5 r b5 k v c m i)) w':=by
 have hs:16+i<a.tmps.size:=by rw[h.sz];omega
 refine⟨h.df,by rw[Ye];exact h.sz,λj hj hL=>?_,λn hn=>?_,h.pk.trans hp,ho⟩
 .rw[Ja a _ _ hs];by_cases e:j=i
  .rw[if_pos (by omega),e]
  .rw[if_neg (by omega)];exact h.vs j hj (by simpa [e] using hL)
 .rw[Ja a _ _ hs,if_neg (by omega)];exact h.ot n hn
theorem zE{m:MP}{q:List Int×Int}{L:Nat->Bool}{i:Nat}(h1:i≠10)(h2:i≠12):mL m q (λj=>if j=i then true else L j)=mL m q L:=by
 unfold mL;have e1:¬ (12=i):=λe=>h2 e.symm;have e2:¬ (10=i):=λe=>h1 e.symm;simp[e1,e2]
theorem op5:(∀i,i<12->(o5 i).dst=some (16+i)/\(o5 i).guard=none)/\(o5 12).dst=none/\(o5 12).guard=none /\
  (o5 0).op=.move (.tmp 3)/\(o5 1).op=.fieldAddr 96 (.tmp 5) 0/\(o5 2).op=.load 3 (.tmp 17)/\(o5 3).op=.fieldAddr 96 (.tmp 5) 1/\(o5 4).op=.load 3 (.tmp 19)/\(o5 5).op=.build 96 #[(0,.tmp 18),(1,.tmp 20)] /\
  (o5 6).op=.lookup 150 (.tmp 16) (.tmp 21) false/\(o5 7).op=.fieldAddr 96 (.tmp 5) 2/\(o5 8).op=.load 3 (.tmp 23)/\(o5 9).op=.binOp .add 3 (.tmp 22) (.tmp 24) 3/\(o5 10).op=.mapEntry 150 (.tmp 16) (.tmp 21) /\
  (o5 11).op=.extract (.tmp 26) 1/\(o5 12).op=.entryStore 150 (.tmp 16) (.tmp 27) (.tmp 25):=by
 refine⟨λi hi=>?_,by kernel_rfl,by kernel_rfl,by kernel_rfl,by kernel_rfl,by kernel_rfl,by kernel_rfl,by kernel_rfl,by kernel_rfl,by kernel_rfl,by kernel_rfl,by kernel_rfl,by kernel_rfl,by kernel_rfl,by kernel_rfl,by kernel_rfl⟩;rcases (show i=0\/i=1\/i=2\/i=3\/i=4\/i=5\/i=6\/i=7\/i=8\/i=9\/i=10\/i=11 by omega) with rfl|rfl|rfl|rfl|rfl|rfl|rfl|rfl|rfl|rfl|rfl|rfl<;>exact⟨by kernel_rfl,by kernel_rfl⟩
set_option maxHeartbeats 1600000 in
theorem BE{Q:Exit->Act->World->Prop}{B:Nat}{W0:World}{F0:Fz}{r:Nat}{m:MP}{e:Env}{k v c:Int}{a:Act}{w:World}{N:NP}(hs:MS N B [] W0 F0 [(r,ya m)] e a w)(hfl:Ie e=true)
  (hN:N.n=50/\N.r=none/\N.k=[(3,.map (some r))]) (hg:da e 5=.box [(.fr,.int .i64 k),(.fr,.int .i64 v),(.fr,.int .i64 c)]) (hd:∀d,16<=d->d<=27->Ga (da e d)=true) (hm:Tb 3 m)
  (hQ:∀a w,MS N B [] W0 F0 [(r,ya (stepM m ([k,v,0],c)))] e a w->Q .normal a w):(nav C0 [1,1,0,1,0,0,1,1,0,0,1]).wp aaq Q a w:=by
 obtain⟨hw,hy,hz⟩:=hN;have ix:nav C0 [1,1,0,1,0,0,1,1,0,0,1]=.region (ah (nav C0 [1,1,0,1,0,0,1,1,0,0,1])) (opsOf (nav C0 [1,1,0,1,0,0,1,1,0,0,1])) true:=by kernel_rfl
 have hsz:(opsOf (nav C0 [1,1,0,1,0,0,1,1,0,0,1])).size=13:=chk.2.1;obtain⟨F,ow,hx⟩:=hs.sim.rep;obtain⟨b5,us,kq,_,hc,_,hlen,io⟩:=hx.box hg;have kq:a.tmps.getD 5 undef=.pointer (some ⟨b5,0,none⟩):=kq;have hr:=hs.o (aaT.2 rfl);have ih:b5≠r:=hc.ne hr rfl;have h3:a.tmps.getD 3 undef=.map (some r):=hs.k (by rw[hz];simp);have hq:28<=a.tmps.size:=by rw[hs.sim.tmps.size,hw];omega
 have ks:us=[.int .i64 k,.int .i64 v,.int .i64 c]:=by
  match us,hlen with
  |[u0,u1,u2],_=>
   have q0:RC F B w (.int .i64 k) u0:=io 0 _ u0 rfl rfl;have q1:RC F B w (.int .i64 v) u1:=io 1 _ u1 rfl rfl;have q2:RC F B w (.int .i64 c) u2:=io 2 _ u2 rfl rfl;cases q0;cases q1;cases q2;rfl
 subst ks;obtain⟨ju,ie,jb,p0,p1,p2,p3,p4,p5,p6,p7,p8,p9,p10,p11,p12⟩:=op5;have kk:([k,v,0]:List Int).length=3:=rfl;rw[ix];refine acu gg.hm ?_;refine ED (J:=J5 a { w with drawn:=w.drawn+1 } r b5 k v c m) (by kernel_rfl) ?_ ?_ (opsOf (nav C0 [1,1,0,1,0,0,1,1,0,0,1])).size _ a _ (by simp) (by simp) ?_ ?_
 .intro L a' w' i o kj hv hE it hJ next hn;have ki:i<13:=by have:=(aaw.1 kj).1;omega
  have ho:o=o5 i:=(tl kj).symm;have hu:∀j,Hh (o5 i) j=true->L j=true:=λj hj=>rl (by rw[<-ho];exact hE) hj
  have hC:∀i j,i<13->L i=true->Hh (o5 i) j=true->L j=true:=λi j hi hL hj=>by
   have km:i<(opsOf (nav C0 [1,1,0,1,0,0,1,1,0,0,1])).size:=by omega
   exact rl (λe he hb=>it i (o5 i) (by have:=abo km;rw[this];exact congrArg some (tl this).symm) hL e he hb) hj
  have hf:Blk w' b5 [.int .i64 k,.int .i64 v,.int .i64 c]:=by
   refine Blk.same (w:=w) hc ?_;rw[hJ.pk.block b5 ih]
  have t3:a'.tmps.getD 3 undef=.map (some r):=by rw[hJ.ot 3 (.inl (by omega))];exact h3
  have t5:a'.tmps.getD 5 undef=.pointer (some ⟨b5,0,none⟩):=by rw[hJ.ot 5 (.inl (by omega))];exact kq
  have kx:∀(hi:i<12),i≠10->(execOp a'.eval (o5 i)).run aaq w'=.ok (.value (V5 r b5 k v c m i)) w'->wpOp aaq (opsOf (nav C0 [1,1,0,1,0,0,1,1,0,0,1])) Q i next a' w':=by
   intro hi hh kr;refine va kj (by rw[ho];exact(ju i hi).2) ?_;rw[ho];refine Xa kr ?_;rw[(ju i hi).1];exact hn _ _ (hJ.put hq hi ⟨rfl,rfl,rfl,rfl,λ_ _=>rfl⟩ (by rw[zE hh (by omega)];exact hJ.ob))
  have kn:L 12=false->w'.heap[r]? = some (ya (if L 10 then Vc m [k,v,0] else m)):=λh=>by
   have:=hJ.ob;unfold mL at this;rw[h]at this;simpa using this
  rcases (show i=0\/i=1\/i=2\/i=3\/i=4\/i=5\/i=6\/i=7\/i=8\/i=9\/i=10\/i=11\/i=12 by omega) with rfl|rfl|rfl|rfl|rfl|rfl|rfl|rfl|rfl|rfl|rfl|rfl|rfl
  .exact kx (by omega) (by omega) (by rw[cf p0,t3];rfl)
  .exact kx (by omega) (by omega) (Fi p1 t5 tdE rfl rfl)
  .exact kx (by omega) (by omega) (sg p2 (hJ.vs 1 (by omega) (hu 1 (by kernel_rfl))) td3 rfl (by rw[hf.cell];rfl))
  .exact kx (by omega) (by omega) (Fi p3 t5 tdE rfl rfl)
  .exact kx (by omega) (by omega) (sg p4 (hJ.vs 3 (by omega) (hu 3 (by kernel_rfl))) td3 rfl (by rw[hf.cell];rfl))
  .refine kx (by omega) (by omega) (mQ p5 ?_);have e1:a'.tmps.getD 18 undef=.int .i64 k:=hJ.vs 2 (by omega) (hu 2 (by kernel_rfl));have e2:a'.tmps.getD 20 undef=.int .i64 v:=hJ.vs 4 (by omega) (hu 4 (by kernel_rfl))
   have:(#[(0,abN 18),(1,abN 20)].map λp=>(p.1,a'.eval p.2))=#[(0,aau .i64 k),(1,aau .i64 v)]:=by
    simp only[List.map_toArray,abR,abU];rw[show a'.eval (.tmp 18)=.int .i64 k from e1,show a'.eval (.tmp 20)=.int .i64 v from e2]
   rw[this];exact yE w' k v
  .refine kx (by omega) (by omega) (jt p6 ?_);rw[hJ.vs 0 (by omega) (hu 0 (by kernel_rfl)),hJ.vs 5 (by omega) (hu 5 (by kernel_rfl))]
   have hl:L 12=false:=by
    cases h:L 12 with
    |false=>rfl
    |true=>
     have h9:=hC 12 9 (by omega) h (by kernel_rfl);have h6:=hC 9 6 (by omega) h9 (by kernel_rfl);rw[h6]at hv;cases hv
   have kp:=kn hl;cases hh:L 10 with
   |false=>
    rw[hh]at kp;exact Ys Kh kp hm kk
   |true=>
    rw[hh]at kp;have kp:w'.heap[r]? = some (ya (Vc m [k,v,0])):=kp;have:=Ys Kh kp (hm.ins kk) kk;rw[mR]at this;exact this
  .exact kx (by omega) (by omega) (Fi p7 t5 tdE rfl rfl)
  .exact kx (by omega) (by omega) (sg p8 (hJ.vs 7 (by omega) (hu 7 (by kernel_rfl))) td3 rfl (by rw[hf.cell];rfl))
  .exact kx (by omega) (by omega) (jQ p9 (hJ.vs 6 (by omega) (hu 6 (by kernel_rfl))) (hJ.vs 8 (by omega) (hu 8 (by kernel_rfl))))
  .have hl:L 12=false:=by
    cases h:L 12 with
    |false=>rfl
    |true=>
     have hk:=hC 12 11 (by omega) h (by kernel_rfl);have hh:=hC 11 10 (by omega) hk (by kernel_rfl);rw[hh]at hv;cases hv
   have kp:=kn hl;rw[hv]at kp;have kp:w'.heap[r]? = some (ya m):=kp;have kr:=IP Kh kp hm kk;refine va kj (by rw[ho];exact(ju 10 (by omega)).2) ?_;rw[ho];refine Xa (eQ p10 (by rw[hJ.vs 0 (by omega) (hu 0 (by kernel_rfl)),hJ.vs 5 (by omega) (hu 5 (by kernel_rfl))];exact kr)) ?_;rw[(ju 10 (by omega)).1];refine hn _ _ (hJ.put hq (by omega) (Di _ _ _) ?_);rw[Ei kp];unfold mL;simp[hl]
  .have e10:a'.tmps.getD 26 undef=.tuple #[.int .i64 (rb m [k,v,0]),goInt (stp m [k,v,0])]:=hJ.vs 10 (by omega) (hu 10 (by kernel_rfl));have kr:(execOp a'.eval (o5 11)).run aaq w'=.ok (.value (goInt (stp m [k,v,0]))) w':=bh (vs:=#[.int .i64 (rb m [k,v,0]),goInt (stp m [k,v,0])]) p11 e10 (by simp);exact kx (by omega) (by omega) kr
  .have hh:L 10=true:=hC 11 10 (by omega) (hu 11 (by kernel_rfl)) (by kernel_rfl);have kp:=kn hv;rw[hh]at kp;have kp:w'.heap[r]? = some (ya (Vc m [k,v,0])):=kp;have kr:=JP Kh kp (nR m [k,v,0]) (ar .add .i64 (rb m [k,v,0]) c);refine va kj (by rw[ho];exact jb) ?_;rw[ho];refine Nj (fQ p12 (by rw[hJ.vs 0 (by omega) (hu 0 (by kernel_rfl)),hJ.vs 11 (by omega) (hu 11 (by kernel_rfl)),hJ.vs 9 (by omega) (hu 9 (by kernel_rfl))];exact kr)) ?_;rw[ie];refine hn _ _ ⟨hJ.df,hJ.sz,λj hj hL=>hJ.vs j hj (by simpa [show j≠12 by omega] using hL),hJ.ot,hJ.pk.trans (Di _ _ _),?_⟩;rw[Ei kp];rfl
 .intro L a' w' ha hJ;refine hQ a' w' ?_
  have kp:w'.heap[r]? = some (ya (stepM m ([k,v,0],c))):=by
   have:=hJ.ob;unfold mL at this;rw[ha 12 (by omega)]at this;simpa using this
  have h1:=(hs.drew (w.drawn+1)).set (obs':=[(r,ya (stepM m ([k,v,0],c)))]) (aaT.2 rfl) hJ.pk (λp hp=>by
   rw[aaT.1 hp];exact .inr ⟨rfl,kp,rfl⟩)
  refine h1.tmps (D:=[16,17,18,19,20,21,22,23,24,25,26,27]) hfl (λd hdm=>⟨hd d ?_ ?_,?_⟩) hy hJ.df hJ.sz (λn hn=>hJ.ot n ?_)
  .simp at hdm;omega
  .simp at hdm;omega
  .rw[hz];have ht:3≠d:=by simp at hdm;omega
   simp[Rg,Qf ht]
  .simp at hn;omega
 .intro i o ho hL;simp only[aaA]at hL;by_cases hi:i<(opsOf (nav C0 [1,1,0,1,0,0,1,1,0,0,1])).size
  .simp[hi]at hL
  .simp[hi]at hL
 .refine⟨hs.sim.defers,rfl,λi hi hL=>?_,λn _=>rfl,⟨rfl,rfl,rfl,rfl,λ_ _=>rfl⟩,?_⟩
  .simp only[aaA]at hL;simp[hsz,show i<13 by omega]at hL
  .show w.heap[r]? = _;rw[hr];unfold mL;simp[aaA,hsz]
abbrev N1(r:Nat):NP:=⟨50,none,[(3,.map (some r))]⟩
def EL(xs:List Item)(i:Int):Env:=[(10,.v .sh (.lst .item xs)),(11,.v .fr (.int .i64 (ba .item xs))),(12,.v .fr (.int .i64 i))]
theorem wrap_small{x:Int}(h0:0<=x)(h1:x<9223372036854775808):IntKind.i64.wrap x=x:=by
 have hm:x % (2 ^ 64:Int)=x:=Int.emod_eq_of_lt h0 (by omega)
 have h2:¬ x >= (2 ^ (64 - 1):Int):=by
  have:(2 ^ (64 - 1):Int)=9223372036854775808:=by decide
  omega
 show(if(true&&decide (x % (2 ^ 64:Int) >= (2 ^ (64 - 1):Int)))=true then _ else x % (2 ^ 64:Int))=x;rw[hm,if_neg (by simpa using h2)]
theorem Ji{x:Int}(h0:0<=x)(h1:x<=1099511627776):ar .add .i64 x 1=x+1:=wrap_small (by omega) (by omega)
theorem Vj(xs:List Item):Tb 3 (bb (chI xs))/\∀p∈bb (chI xs),∃k v,p.1=[k,v,0]:=by
 have key:∀(l:List (List Int×Int)) (m:MP),(∀p∈l,∃k v,p.1=[k,v,0])->(∀ks∈oa m,∃k v,ks=[k,v,(0:Int)])->∀ks∈oa (l.foldl stepM m),∃k v,ks=[k,v,(0:Int)]:=by
  intro l
  induction l with
  |nil=>exact λm _ h=>h
  |cons q r ih=>
   intro m hl hm;refine ih _ (λp hp=>hl p (by simp[hp])) (λks hk=>?_);rw[Zs]at hk;split at hk
   .exact hm ks hk
   .rcases abn.1 hk with hk|hk
    .exact hm ks hk
    .simp at hk;subst hk;exact hl q (by simp)
 have h2:∀p∈bb (chI xs),∃k v,p.1=[k,v,0]:=λp hp=>key (chI xs) [] (λq hq=>by
  obtain⟨x,_,rfl⟩:=abV.1 hq;exact⟨x.Key,x.Val,rfl⟩) (by simp[oa]) p.1 (abV.2 ⟨p,hp,rfl⟩)
 exact⟨λp hp=>by obtain⟨k,v,h⟩:=h2 p hp;rw[h];rfl,h2⟩
theorem CE{xs:List Item}{i:Nat}(hi:i<xs.length):bb (chI (xs.take (i+1)))=stepM (bb (chI (xs.take i))) (kI (rd .item xs i),(rd .item xs i).Count):=by
 have:xs.take (i+1)=xs.take i++[rd .item xs i]:=by
  rw[abx hi]
  congr 2
  unfold rd;rw[aap,show(i:Int).toNat=i from rfl,aal hi];rfl
 rw[this];unfold bb chI;rw[abd,acy];rfl
theorem oR:∀(m:MP) (i:Nat) (v:Int),(Nd m i v).length=m.length
 |[],_,_=>rfl
 |_::_,0,_=>rfl
 |p::r,i+1,v=>by simp[Nd,oR r i v]
theorem t6(m:MP)(q:List Int×Int):(stepM m q).length<=m.length+1:=by
 unfold stepM Vc;rw[oR];split<;>simp
theorem pR(l:List (List Int×Int)):(bb l).length<=l.length:=by
 unfold bb
 suffices ∀(l:List (List Int×Int)) (m:MP),(l.foldl stepM m).length<=m.length+l.length by simpa using this l []
 intro l
 induction l with
 |nil=>exact λm=>aao _
 |cons q r ih=>
  intro m;have h1:=ih (stepM m q);have h2:=t6 m q;simp only[List.foldl_cons,List.length_cons];omega
theorem DE{xs:List Item}(hlim:lim (ba .item xs) 1){Q:Exit->Act->World->Prop}{B:Nat}{W0:World}{F0:Fz}{r:Nat}{a:Act}{w:World}(hs:MS (N1 r) B [] W0 F0 [(r,ya [])] (EL xs 0) a w)
  (hQ:∀a w,MS (N1 r) B [] W0 F0 [(r,ya (bb (chI xs)))] [] a w->Q .normal a w):(nav C0 [1,1,0,1]).wp aaq Q a w:=by
 have hlen:(xs.length:Int)<=1099511627775:=by have:ba .item xs+1<=1099511627776:=hlim;unfold ba at this;omega
 refine Vf (c1:=nav C0 [1,1,0,1,0]) (id:=0) (by kernel_rfl) ?_;rw[show nav C0 [1,1,0,1,0]=.loop (nav C0 [1,1,0,1,0,0]) by kernel_rfl];refine Ef (σ:=Nat) (λi a w=>i<=xs.length/\MS (N1 r) B [] W0 F0 [(r,ya (bb (chI (xs.take i))))] (EL xs i) a w) (λi=>xs.length - i) ?_ 0 ⟨abf _,hs⟩;rintro i a w ⟨hi,hs⟩;refine wpS ?_;refine aaG gg (keep:=[10,11,12,13]) (e':=[(10,.v .sh (.lst .item xs)),(11,.v .fr (.int .i64 (ba .item xs))),(12,.v .fr (.int .i64 i)),(13,.v .fr (.bool (cmp .lss i (ba .item xs))))]) (ps:=[]) (by kernel_rfl) trivial hs (λa w hs=>?_);refine wpS ?_;refine wpC (o:=.tmp 13) (hs.bool (k:=.fr) rfl) (λht=>Ed (by kernel_rfl) ?_) (λhf=>Wf (i:=0) (by kernel_rfl) ?_)
 .have hj:i<xs.length:=by
   have:decide ((i:Int)<ba .item xs)=true:=ht;have:=of_decide_eq_true this;unfold ba at this;omega
  show(nav C0 [1,1,0,1,0,0,1,1]).wp _ _ a w;refine wpS ?_;refine wpB (id:=1) ?_;refine wpS ?_
  refine aaG gg (keep:=[5,10,11,12]) (e':=[(5,.box [(.fr,.int .i64 (rd .item xs i).Key),(.fr,.int .i64 (rd .item xs i).Val),(.fr,.int .i64 (rd .item xs i).Count)]),(10,.v .sh (.lst .item xs)),(11,.v .fr (.int .i64 (ba .item xs))),(12,.v .fr (.int .i64 i))])
   (ps:=[inb i (ba .item xs)]) (by kernel_rfl) ⟨⟨by omega,by unfold ba;omega⟩,trivial⟩ hs (λa w hs=>?_)
  refine BE hs (by kernel_rfl) ⟨rfl,rfl,rfl⟩ rfl (λd h1 h2=>?_) (Vj _).1 (λa w hs=>?_)
  .rcases (show d=16\/d=17\/d=18\/d=19\/d=20\/d=21\/d=22\/d=23\/d=24\/d=25\/d=26\/d=27 by omega) with rfl|rfl|rfl|rfl|rfl|rfl|rfl|rfl|rfl|rfl|rfl|rfl<;>rfl
  .show(nav C0 [1,1,0,1,0,0,1,1,1]).wp _ _ a w;refine aaG gg (keep:=[10,11,12]) (e':=EL xs (ar .add .i64 i 1)) (ps:=[]) (by kernel_rfl) trivial hs (λa w hs=>?_);refine⟨i+1,by omega,by omega,?_⟩;rw[CE hj];rw[Ji (by omega) (by omega)]at hs;exact hs
 .have hh:xs.length<=i:=by
   have:decide ((i:Int)<ba .item xs)=false:=hf;have:=of_decide_eq_false this;unfold ba at this;omega
  show aaC 0 Q (.exit 0) a w;simp only[aaC,if_true];refine hQ a w ?_;rw[aci hh]at hs;exact hs.weak (wa.cast (pat:=[]))
abbrev N2(it:Nat):NP:=⟨50,none,[(31,.pointer (some ⟨it,0,none⟩))]⟩
def E2(out:List Item):Env:=[(6,.box [(.acc true,.lst .item out)])]
theorem Wj:∀ {n:Nat}{S:List Nat},S.Nodup->(∀i∈S,i<n)->S.length<=n
 |0,[],_,_=>aao _
 |0,i::r,_,h=>absurd (h i (by simp)) (by omega)
 |n+1,S,hn,h=>by
  have h1:(S.filter λi=>i != n).length<=n:=Wj (hn.sublist abb) (λi hi=>by
   have h2:=abp.1 hi;have h3:=h i h2.1;have h4:i≠n:=by simpa using h2.2
   omega)
  have h2:∀ {S:List Nat},S.Nodup->S.length<=(S.filter λi=>i != n).length+1:=by
   intro S
   induction S with
   |nil=>intro _;simp
   |cons i r ih=>
    intro hn;have hh:=List.nodup_cons.1 hn;by_cases e:i=n
    .subst e
     have:(r.filter λj=>j != i)=r:=List.filter_eq_self.2 (λj hj=>by
      have:j≠i:=λe=>hh.1 (e▸hj);simpa using this)
     simp[this]
    .have:=ih hh.2;simp[e];omega
  have:=h2 hn;omega
theorem EE(m:MP)(S:List Nat){i:Nat}{p:List Int×Int}(hp:m[i]? = some p):Db m (S++[i])=Db m S++(if p.2=0 then [] else [mkI p]):=by
 unfold Db;rw[abd,acw,abd]
 congr 1
 have:m.getD i ([0,0,0],0)=p:=by rw[aap,hp];rfl
 simp only[abR,abU,this];by_cases h:p.2=0<;>simp[h]
theorem Zn(m:MP)(S:List Nat):(Db m S).length<=S.length:=by
 unfold Db;rw[abC];exact aaL (acl _ _) (by simp)
theorem op9:(o9 0).op=.next (.tmp 31) false/\(o9 0).dst=some 32/\(o9 0).guard=none/\(o9 1).op=.extract (.tmp 32) 0/\(o9 1).dst=some 33/\(o9 1).guard=none /\
  (o10 0).op=.entry (.tmp 31)/\(o10 0).dst=some 34/\(o10 0).guard=none/\(o10 1).op=.extract (.tmp 34) 0/\(o10 1).dst=some 35/\(o10 1).guard=none/\(o10 2).op=.extract (.tmp 34) 1/\(o10 2).dst=some 36/\(o10 2).guard=none:=by
 refine(by and_intros<;>kernel_rfl)
theorem at9:(opsOf (nav C0 [1,1,1,1,0,1,0,0,0]))[0]? = some (o9 0)/\(opsOf (nav C0 [1,1,1,1,0,1,0,0,0]))[1]? = some (o9 1)/\aaH (opsOf (nav C0 [1,1,1,1,0,1,0,0,0])).size=[0,1]:=⟨by kernel_rfl,by kernel_rfl,by kernel_rfl⟩
theorem Le:(opsOf (nav C0 [1,1,1,1,0,1,0,0,1,1,0,0]))[0]? = some (o10 0)/\(opsOf (nav C0 [1,1,1,1,0,1,0,0,1,1,0,0]))[1]? = some (o10 1)/\(opsOf (nav C0 [1,1,1,1,0,1,0,0,1,1,0,0]))[2]? = some (o10 2) /\
 (opsOf (nav C0 [1,1,1,1,0,1,0,0,1,1,0,0]))[3]? = some (o10 3)/\(opsOf (nav C0 [1,1,1,1,0,1,0,0,1,1,0,0]))[4]? = some (o10 4)/\(opsOf (nav C0 [1,1,1,1,0,1,0,0,1,1,0,0]))[5]? = some (o10 5) /\
 aaH (opsOf (nav C0 [1,1,1,1,0,1,0,0,1,1,0,0])).size=[0,1,2,3,4,5]:=(by and_intros<;>kernel_rfl)
set_option maxHeartbeats 1600000 in
theorem FE{m:MP}(hm:∀p∈m,∃k v,p.1=[k,v,0])(hlen:m.length<=1099511627775){Q:Exit->Act->World->Prop}{B:Nat}{W0:World}{F0:Fz}{r it:Nat}(hne:r≠it){a:Act}{w:World}
  (hs:MS (N2 it) B [] W0 F0 [(it,Qb r m []),(r,ya m)] (E2 []) a w)
  (hQ:∀S a w,S.Nodup->(∀i∈S,i<m.length)->(∀i,i<m.length->i∈S)->MS (N2 it) B [] W0 F0 [] (E2 (Db m S)) a w->Q .normal a w):(nav C0 [1,1,1,1,0,1]).wp aaq Q a w:=by
 refine Vf (c1:=nav C0 [1,1,1,1,0,1,0]) (id:=2) (by kernel_rfl) ?_;rw[show nav C0 [1,1,1,1,0,1,0]=.loop (nav C0 [1,1,1,1,0,1,0,0]) by kernel_rfl];refine Ef (σ:=List Nat) (λS a w=>S.Nodup/\(∀i∈S,i<m.length)/\MS (N2 it) B [] W0 F0 [(it,Qb r m S),(r,ya m)] (E2 (Db m S)) a w) (λS=>m.length - S.length) ?_ [] ⟨by simp,by simp,hs⟩;rintro S a w ⟨kj,ju,hs⟩;obtain⟨kx,hl,hw,ky,hn,ha,kq,hh,ho,kr,hi,hu,ks,hk,hv⟩:=op9;have hit:=hs.o (r:=it) (o:=Qb r m S) (by simp);have hr:=hs.o (r:=r) (o:=ya m) (by simp);have hc:a.tmps.getD 31 undef=.pointer (some ⟨it,0,none⟩):=hs.k (by simp);refine wpS ?_;refine Kc (by kernel_rfl) at9.2.2 ?_;rw[aav];refine va at9.1 hw ?_;rcases OP (P:=aaq) hr hit (o9 0).type with⟨hg,kp⟩|⟨i,p,n,ih,hp,kp⟩
 .refine Xa (kt kx (by rw[hc];exact kp)) ?_;rw[hl,aav];have h1:=hs.val (d:=32) (by kernel_rfl) (v:=.tuple #[.bool false]) (av:=.dead) rfl (λ_ _=>trivial);refine va at9.2.1 ha ?_;refine Xa (bh (vs:=#[.bool false]) ky (h1.k (by simp)) (v:=.bool false) (by simp)) ?_;rw[hn];have h2:=h1.val (d:=33) (by kernel_rfl) (v:=.bool false) (av:=.v .fr (.bool false)) rfl (λ_ _=>RC.bool _);refine xc _ ?_;show(nav C0 [1,1,1,1,0,1,0,0,1]).wp _ _ _ _;refine wpS ?_;refine wpC (o:=.tmp 33) (h2.bool (k:=.fr) (b:=false) rfl) (λht=>by cases ht) (λhf=>Wf (i:=2) (by kernel_rfl) ?_);show aaC 2 Q (.exit 2) _ _;simp only[aaC,if_true];refine hQ S _ _ kj ju hg ?_;exact(h2.weak (e':=E2 (Db m S)) (wa.cast (pat:=[(6,.same)]))).forget rfl rfl (λp hp=>by simp at hp⊢;simp[hp]) (λp hp=>by simp at hp)
 .obtain⟨k,v,ie⟩:=hm p (aco hp);obtain⟨pk,pv⟩:=p;simp only at ie kp;subst ie;have io:i<m.length:=(aax.1 hp).1;refine Xa (kt kx (by rw[hc];exact kp)) ?_;rw[hl,aav]
  have h0:=(hs.drew n).set (r:=it) (o0:=Qb r m S) (by simp) (w':=Dd { w with drawn:=n } it (Qb r m (S++[i]))) (Di _ _ _) (obs':=[(it,Qb r m (S++[i])),(r,ya m)]) (λq hq=>by
   simp only[List.mem_cons,List.not_mem_nil,or_false]at hq;rcases hq with rfl|rfl
   .exact .inr ⟨rfl,Ei hit,rfl⟩
   .exact .inl ⟨by simp,hne⟩)
  have h1:=h0.val (d:=32) (by kernel_rfl) (v:=.tuple #[.bool true,Na [k,v,0],.int .i64 pv]) (av:=.dead) rfl (λ_ _=>trivial);refine va at9.2.1 ha ?_;refine Xa (bh (vs:=#[.bool true,Na [k,v,0],.int .i64 pv]) ky (h1.k (by simp)) (v:=.bool true) (by simp)) ?_;rw[hn];have h2:=h1.val (d:=33) (by kernel_rfl) (v:=.bool true) (av:=.v .fr (.bool true)) rfl (λ_ _=>RC.bool _);refine xc _ ?_;show(nav C0 [1,1,1,1,0,1,0,0,1]).wp _ _ _ _;refine wpS ?_;refine wpC (o:=.tmp 33) (h2.bool (k:=.fr) (b:=true) rfl) (λht=>Ed (by kernel_rfl) ?_) (λhf=>by cases hf);show(nav C0 [1,1,1,1,0,1,0,0,1,1]).wp _ _ _ _;have h3:MS (N2 it) B [] W0 F0 [(it,Qb r m (S++[i])),(r,ya m)] (E2 (Db m S)) _ _:=(h2.weak (e':=E2 (Db m S)) (wa.cast (pat:=[(6,.same)]))).forget rfl rfl (λp hp=>by simp at hp⊢;simp[hp]) (λp hp=>hp);clear h0 h1 h2;generalize (a.put (some 32) _).put (some 33) _=a3 at h3⊢;generalize Dd { w with drawn:=n } it (Qb r m (S++[i]))=w3 at h3⊢;refine wpB (id:=3) ?_;refine wpS ?_;refine Kc (by kernel_rfl) Le.2.2.2.2.2.2 ?_;rw[aav];refine va Le.1 ho ?_;have ix:=h3.o (r:=it) (o:=Qb r m (S++[i])) (by simp);have kn:=h3.o (r:=r) (o:=ya m) (by simp);have he:a3.tmps.getD 31 undef=.pointer (some ⟨it,0,none⟩):=h3.k (by simp);refine Xa (iQ kq (by rw[he];exact PP kn ix hp ⟨S,rfl⟩)) ?_;rw[hh,aav];have h4:=h3.val (d:=34) (by kernel_rfl) (v:=.tuple #[Na [k,v,0],.int .i64 pv]) (av:=.dead) rfl (λ_ _=>trivial);refine va Le.2.1 hu ?_;refine Xa (bh (vs:=#[Na [k,v,0],.int .i64 pv]) kr (h4.k (by simp)) (v:=Na [k,v,0]) (by simp)) ?_;rw[hi,aav];have h5:=h4.val (d:=35) (by kernel_rfl) (v:=Na [k,v,0]) (av:=.agg true [.int .i64 k,.int .i64 v,.int .i64 0]) rfl (λ_ _=>⟨[.int .i64 k,.int .i64 v,.int .i64 0],rfl,.cons (.int _ _) (.cons (.int _ _) (.cons (.int _ _) .nil))⟩);refine va Le.2.2.1 hv ?_;refine Xa (bh (vs:=#[Na [k,v,0],.int .i64 pv]) ks (h5.k (by simp)) (v:=.int .i64 pv) (by simp)) ?_;rw[hk];have h6:=h5.val (d:=36) (by kernel_rfl) (v:=.int .i64 pv) (av:=.v .fr (.int .i64 pv)) rfl (λ_ _=>RC.int _ _)
  have h7:MS (N2 it) B [] W0 F0 [(it,Qb r m (S++[i])),(r,ya m)] [(6,.box [(.acc true,.lst .item (Db m S))]),(35,.agg true [.int .i64 k,.int .i64 v,.int .i64 0]),(36,.v .fr (.int .i64 pv))] _ _:=(h6.weak (wa.cast (pat:=[(6,.same),(35,.same),(36,.same)]))).forget rfl rfl (λp hp=>by simp at hp⊢;simp[hp]) (λp hp=>hp)
  clear h4 h5 h6;generalize ((a3.put (some 34) _).put (some 35) _).put (some 36) _=a7 at h7⊢
  refine MS.suf (l:=[o10 3,o10 4,o10 5]) (i:=3) gg (keep:=[6,7,8]) (e':=[(6,.box [(.acc true,.lst .item (Db m S))]),(7,.box [(.fr,.int .i64 k),(.fr,.int .i64 v),(.fr,.int .i64 0)]),(8,.v .fr (.int .i64 pv))]) (ps:=[])
   (λj o hj=>by
     match j,hj with
     |0,hj=>simp at hj;subst hj;exact Le.2.2.2.1
     |1,hj=>simp at hj;subst hj;exact Le.2.2.2.2.1
     |2,hj=>simp at hj;subst hj;exact Le.2.2.2.2.2.1
     |j+3,hj=>simp at hj) (by kernel_rfl) (by kernel_rfl) trivial h7 (λa w hs=>?_)
  show(nav C0 [1,1,1,1,0,1,0,0,1,1,0,1]).wp _ _ _ _;refine wpS ?_;refine aaG gg (keep:=[6,7,8,38]) (e':=[(6,.box [(.acc true,.lst .item (Db m S))]),(7,.box [(.fr,.int .i64 k),(.fr,.int .i64 v),(.fr,.int .i64 0)]),(8,.v .fr (.int .i64 pv)),(38,.v .fr (.bool (cmp .neq pv 0)))]) (ps:=[]) (by kernel_rfl) trivial hs (λa w hs=>?_);have kk:(S++[i]).Nodup:=acz.2 ⟨kj,by simp,λx hx y hy e=>by simp at hy;subst hy;subst e;exact ih hx⟩
  have jb:∀j∈S++[i],j<m.length:=λj hj=>by
   rcases abn.1 hj with hj|hj
   .exact ju j hj
   .simp at hj;subst hj;exact io
  have ki:m.length - (S++[i]).length<m.length - S.length:=by
   have:=Wj kk jb;simp at this⊢;omega
  have km:=EE m S hp;refine wpC (o:=.tmp 38) (hs.bool (k:=.fr) rfl) (λht=>?_) (λhf=>Ed (by kernel_rfl) ?_)
  .have hz:pv≠0:=by
    have:(pv != 0)=true:=ht;simpa using this
   refine wpS ?_;refine aaG gg (keep:=[6,7]) (e':=[(6,.box [(.acc true,.lst .item (Db m S))]),(7,.box [(.fr,.int .i64 k),(.fr,.int .i64 v),(.fr,.int .i64 pv)])]) (ps:=[]) (by kernel_rfl) trivial hs (λa w hs=>?_);refine aaG gg (keep:=[6]) (e':=E2 (Db m S++[⟨k,v,pv⟩])) (ps:=[lim (ba .item (Db m S)) (ba .item [⟨k,v,pv⟩])]) (by kernel_rfl) ⟨?_,trivial⟩ hs (λa w hs=>?_)
   .have h1:=Zn m S;have h2:=Wj kj ju;show((Db m S).length:Int)+1<=1099511627776;omega
   .refine⟨S++[i],ki,kk,jb,?_⟩;rw[km,if_neg hz];exact hs
  .have hz:pv=0:=by
    have:(pv != 0)=false:=hf;simpa using this
   refine⟨S++[i],ki,kk,jb,?_⟩;rw[km,if_pos hz,List.append_nil];exact hs.weak (wa.cast (pat:=[(6,.same)]))
section
open Go Go.Sort Go.RowKit Go.Lib
theorem RC.int_inv{F:Fz}{lo:Nat}{w:World}{k:IntKind}{n:Int}{v:Value}(h:RC F lo w (.int k n) v):v=.int k n:=by cases h;rfl
theorem GE{N:NP}{B:Nat}{W0:World}{F0:Fz}{obs:List (Nat×Obj)}{e:Env}{a:Act}{w:World}{s:Nat}{out:List Item}(hs:MS N B [] W0 F0 obs e a w)(hg:da e s=.box [(.acc true,.lst .item out)]) :
  ∃ Bs sl,a.tmps.getD s undef=.pointer (some ⟨Bs,0,none⟩)/\Blk w Bs [sl]/\B<=Bs/\((out=[]/\sl=.slice none 0 0)\/∃blk cap cs,sl=.slice (some ⟨blk,0,none⟩) out.length cap/\Blk w blk cs/\cs.length=cap*3/\out.length<=cap/\B<=blk/\blk≠Bs /\
    ∀i x,out[i]? = some x->∀j,j<3->cs[i*3+j]? = (encI x)[j]?):=by
 obtain⟨F,ow,hx⟩:=hs.sim.rep;obtain⟨Bs,us,hu,how,hm,_,hlen,hn⟩:=hx.box hg
 match us,hlen with
 |[sl],_=>
  have hh:B<=Bs:=(hx.bd _ _ _ how).2.elim id (λh=>by simp at h);have hk:Ca F (lof B true) w (ow s (some 0)) (.lst .item out) sl:=hn 0 _ sl rfl rfl;obtain⟨ht,hd⟩:=hk;refine⟨Bs,sl,hu,hm,hh,?_⟩;rcases hd with⟨t,e1,e2⟩|⟨t,xs,blk,cap,cs,e1,e2,e3,e4,e5,e6⟩
  .left;have e1:C.lst .item out=.lst t []:=e1;cases e1;exact⟨rfl,e2⟩
  .right;have e1:C.lst .item out=.lst t xs:=e1;cases e1;have hl:B<=blk:=(hx.bd _ _ _ e3).2.elim id (λh=>by simp at h)
   have hq:blk≠Bs:=λe=>by
    subst e;have:=(hx.inj _ _ _ _ _ how e3).2;cases this
   subst e2;cases ht with
   |lst _ _ b o cap vs hb hcap hf hc hr=>
    refine⟨blk,cap,cs,rfl,e4,e5,hcap,hl,hq,λi x hi j hj=>?_⟩;have hp:=(aax.1 hi).1;have h1:=hc i j hp hj;rw[aaM,e4.cell]at h1;have h1:cs[i*3+j]? = some (vs i j):=h1;rw[h1];have ho:(cells .item x)[j]? = some ((cells .item x)[j]'(by simp[cells];exact hj)):=aal _;have h2:=hr i j x _ hi ho;rcases (show j=0\/j=1\/j=2 by omega) with rfl|rfl|rfl
    .have h2:RC F (lof B true) w (.int .i64 x.Key) (vs i 0):=h2;rw[RC.int_inv h2];rfl
    .have h2:RC F (lof B true) w (.int .i64 x.Val) (vs i 1):=h2;rw[RC.int_inv h2];rfl
    .have h2:RC F (lof B true) w (.int .i64 x.Count) (vs i 2):=h2;rw[RC.int_inv h2];rfl
theorem holds_of{w:World}{blk cap:Nat}{cs:List Value}{out:List Item}(hb:Blk w blk cs)(hlen:cs.length=cap*3)(hcs:∀i x,out[i]? = some x->∀j,j<3->cs[i*3+j]? = (encI x)[j]?):HoldsK encI 3 w blk 0 out.toArray:=by
 have _:=hlen;intro t ht;rw[size_flatK]at ht
 have hi:t / 3<out.length:=by
  have:out.toArray.size=out.length:=by simp
  omega
 have hj:t % 3<3:=acp _ (by omega);refine⟨?_,hb.frozen _⟩;rw[aaM,hb.cell,get_flatK _ _ _ _ ht];have h1:=hcs (t / 3) out[t / 3] (aal hi) (t % 3) hj;rw[show t / 3*3+t % 3=t by omega]at h1;rw[h1];have h2:out.toArray[t / 3]! = out[t / 3]:=by simp[hi]
 rw[h2];have hl:(encI out[t / 3]).length=3:=rfl;rw[aal (by omega),getElem!_pos (encI out[t / 3]) (t % 3) (by omega)];rfl
theorem ff{w:World}{os:Array Obj}{k:Nat}(h:k<w.heap.size):(grow w os).heap[k]? = w.heap[k]?:=by
 show(w.heap++os)[k]? = _;rw[Array.getElem?_append_left h]
theorem IE{w:World}{n blk:Nat}{d:Array Item}{k:Nat}(h:k≠blk):(aan encI 3 (aar w n) blk 0 d).heap[k]? = w.heap[k]?:=by
 show(w.heap.modify blk _)[k]? = _;rw[abj,if_neg (λe=>h e.symm)]
theorem JE{w:World}{n blk:Nat}{d:Array Item}:(aan encI 3 (aar w n) blk 0 d).heap.size=w.heap.size:=by
 show(w.heap.modify blk _).size=_;simp
theorem LE{N:NP}{B:Nat}{W0:World}{F0:Fz}{obs:List (Nat×Obj)}{e:Env}{a a':Act}{w:World}{s:Nat}{out ys:List Item}(hs:MS N B [] W0 F0 obs e a w)(hL:Live F0 W0){Bs blk cap:Nat}{cs:List Value}
  (hB:Blk w Bs [.slice (some ⟨blk,0,none⟩) out.length cap]) (hBs:B<=Bs) (hb:Blk w blk cs) (hlen:cs.length=cap*3) (hcap:out.length<=cap) (hbl:B<=blk) (hne:blk≠Bs) (hH:HoldsK encI 3 w blk 0 out.toArray)
  (hy:ys.length=out.length) {n:Nat}{os:Array Obj} (hdf:a'.defers=[]) (hsz:a'.tmps.size=N.n) (htm:a'.tmps.getD s undef=.pointer (some ⟨Bs,0,none⟩)) :
  MS ⟨N.n,none,[]⟩ B [] W0 F0 [] [(s,.box [(.acc true,.lst .item ys)])] a' (grow (aan encI 3 (aar w n) blk 0 ys.toArray) os):=by
 generalize hw:grow (aan encI 3 (aar w n) blk 0 ys.toArray) os=w';have ih:(aan encI 3 (aar w n) blk 0 ys.toArray).heap.size=w.heap.size:=JE;have hold:∀k,k<w.heap.size->k≠blk->w'.heap[k]? = w.heap[k]?:=λk hk h=>by rw[<-hw,ff (by rw[ih];exact hk),IE h]
 have io:w.heap.size<=w'.heap.size:=by rw[<-hw];show w.heap.size<=(_++os).size;rw[acA,ih];omega
 have ix:ys.toArray.size=out.toArray.size:=by simp[hy]
 have hq:HoldsK encI 3 (aan encI 3 (aar w n) blk 0 ys.toArray) blk 0 ys.toArray:=abL _ _ _ blk 0 out.toArray ys.toArray (abX _ _ _ _ _ _ _ hH) ix
 have hz:∀i x,ys[i]? = some x->∀j,j<3->w'.cell? ⟨blk,i*3+j,none⟩=(encI x)[j]?:=by
  intro i x hi j hj;have he:=(aax.1 hi).1;have h1:=(hq.cell (i:=i) (c:=j) (by simpa using he) hj).1;rw[aaM]at h1
  have h2:w'.cell? ⟨blk,i*3+j,none⟩=(aan encI 3 (aar w n) blk 0 ys.toArray).cell? ⟨blk,i*3+j,none⟩:=by
   rw[<-hw];exact cell_of_heap (ff (by rw[ih];exact hb.lt))
  rw[h2,h1]
  have h3:ys.toArray[i]! = x:=by
   rw[aal he]at hi;simp only[abw]at hi;simp[he,hi]
  rw[h3];have hl:(encI x).length=3:=rfl;rw[aal (by omega),getElem!_pos (encI x) j (by omega)]
 have hr:∃hh,Blk w' blk hh/\hh.length=cap*3:=by
  obtain⟨t,ht⟩:=hb;refine⟨(putCells id 0 (flatK encI 3 ys.toArray) cs.toArray).toList,⟨t,?_⟩,by simp[putCells,hlen]⟩;rw[<-hw,ff (by rw[ih];exact(aaw.1 ht).1)];show(w.heap.modify blk _)[blk]? = _;rw[abj,if_pos rfl,ht];simp[onCells]
 obtain⟨hh,hr,ha⟩:=hr;have hm:Blk w' Bs [.slice (some ⟨blk,0,none⟩) out.length cap]:=hB.same (hold Bs hB.lt (Ne.symm hne))
 have hg:∀k,k<B->w'.heap[k]? = W0.heap[k]?:=λk hk=>by
  rw[hold k (aaU hk hs.sim.base) (by omega)];exact hs.kept.block k hk (by simp)
 have hf:Kept B [] W0 w':=by
  refine⟨?_,?_,?_,aaL hs.kept.size io,λk hk _=>hg k hk,λk o hk hc=>?_⟩
  .rw[<-hw];exact hs.kept.os
  .rw[<-hw];exact hs.kept.tape
  .rw[<-hw];exact hs.kept.output
  .rw[hg k (by rw[hs.hB];exact(aaw.1 hk).1)];exact hk
 have hp:∀b o,F0 b o->b<B:=λb o h=>by rw[hs.hB];exact hL.lt h
 let F':Fz:=λb o=>F0 b o\/(b=blk/\o<out.length*3)
 refine⟨⟨hdf,⟨hsz,(λs h=>by cases h),(λp h=>by cases h)⟩,aaL hs.sim.base io,λb o h=>⟨hp b o h,by simp⟩,Kept.refl _ _ _,F',
  λn i=>if n=s then(match i with|none=>some Bs|some 0=>some blk|some _=>none) else none,?_⟩,hf,(λp h=>by cases h),hs.hB⟩
 obtain⟨F1,ow1,hx1⟩:=hs.sim.rep;have it:Xe B [] F0 F':=hx1.sub.to λb o h=>.inl h;refine⟨it,λb o h=>h.imp_right (λh=>by omega),it.live hL (λk hk _=>hg k (Nat.lt_of_not_le λh=>hk (.inl h))) λb o h=>?_,λs1 i1 s2 i2 b h1 h2=>?_,λs1 i1 b h1=>?_,λn=>?_⟩
 .rcases h with h|⟨rfl,h⟩
  .rw[cell_of_heap (hg b (hp b o h))];exact hL b o h
  .have hi:o / 3<ys.length:=by omega
   have:=hz (o / 3) ys[o / 3] (aal hi) (o % 3) (acp _ (by omega));rw[show o / 3*3+o % 3=o by omega]at this;rw[this,aal (by show _<3;omega)];rfl
 .by_cases e1:s1=s<;>by_cases e2:s2=s<;>simp only[e1,e2,if_true,if_false]at h1 h2
  .refine⟨by rw[e1,e2],?_⟩
   match i1,i2,h1,h2 with
   |none,none,_,_=>rfl
   |none,some 0,h1,h2=>simp at h1 h2;omega
   |some 0,none,h1,h2=>simp at h1 h2;omega
   |some 0,some 0,_,_=>rfl
   |some (_+1),_,h1,_=>simp at h1
   |none,some (_+1),_,h2=>simp at h2
   |some 0,some (_+1),_,h2=>simp at h2
  .simp at h2
  .simp at h1
  .simp at h1
 .by_cases e1:s1=s
  .simp only[e1,if_true]at h1
   match i1,h1 with
   |none,h1=>simp at h1;subst h1;exact⟨hm.lt,.inl hBs⟩
   |some 0,h1=>simp at h1;subst h1;exact⟨hr.lt,.inl hbl⟩
   |some (_+1),h1=>simp at h1
  .simp[e1]at h1
 .simp only[da];cases hn:Nat.beq s n with
  |false=>trivial
  |true=>
   have:=abA hn;subst this;refine⟨Bs,[.slice (some ⟨blk,0,none⟩) out.length cap],htm,by simp,hm,λo h=>?_,rfl,λj kc u hk hu=>?_⟩
   .rcases h with h|⟨h,_⟩
    .have:=hp _ _ h;omega
    .exact hne h.symm
   .match j,hk,hu with
    |0,hk,hu=>
     simp only[acd,abw]at hk hu;subst hk;subst hu;simp only[if_true];rw[<-hy]
     refine⟨.lst .item ys blk 0 cap (λi j=>(encI (ys.getD i ⟨0,0,0⟩)).getD j undef) hbl (by omega) (λi j hi hj=>.inr ⟨rfl,by rw[aaM,<-hy];exact Vg hi hj⟩) (λi j hi hj=>?_) (λi j x c hx hc=>?_),
      .inr ⟨.item,ys,blk,cap,hh,rfl,rfl,rfl,hr,ha,λo ho h=>?_⟩⟩
     .have hj:j<3:=hj;have h1:=hz i ys[i] (aal hi) j hj;show w'.cell? ⟨blk,0+(i*3+j),none⟩=_;rw[aaM,h1];have hl:(encI ys[i]).length=3:=rfl;rw[aal (by omega)];simp[aap,aal hi,aal (show j<(encI ys[i]).length by omega)]
     .have hv:ys.getD i ⟨0,0,0⟩=x:=by rw[aap,hx];rfl
      rw[hv]
      have hj:j<3:=by
       have:=(aax.1 hc).1;simpa [cells] using this
      rcases (show j=0\/j=1\/j=2 by omega) with rfl|rfl|rfl<;>(simp[cells]at hc;subst hc;exact RC.int _ _)
     .rcases h with h|⟨_,h⟩
      .have:=hp _ _ h;omega
      .have ho:ys.length*3<=o:=ho;omega
    |j+1,hk,hu=>simp at hk
theorem ME{xs:List Item}{S:List Nat}(hnd:S.Nodup)(hlt:∀i∈S,i<(bb (chI xs)).length)(hall:∀i,i<(bb (chI xs)).length->i∈S){ys:List Item}(hp:ys.Perm (Db (bb (chI xs)) S))
  (hso:∀i j,i<j->j<ys.length->ltI (ys.getD j ⟨0,0,0⟩) (ys.getD i ⟨0,0,0⟩)=false):ys=gathI xs:=by
 have hm:=Vj xs;generalize hM:bb (chI xs)=m at hlt hall hp hm;have hs:(oa m).Nodup:=by rw[<-hM];exact En _
 have hS:S.Perm (aaH m.length):=(abS hnd List.nodup_range).2 λi=>⟨λh=>abK.2 (hlt i h),λh=>hall i (abK.1 h)⟩
 have hn:(aaH m.length).map (λi=>m.getD i (([0,0,0]:List Int),(0:Int)))=m:=by
  apply acB;intro i;rw[acC];by_cases h:i<m.length
  .rw[acv h];simp[aap,aal h]
  .rw[abk (by simpa using h),abk (by omega)];rfl
 have ht:ys.Perm ((m.filter λp=>p.2 != 0).map mkI):=by
  refine hp.trans ?_;unfold Db;have:=((hS.map λi=>m.getD i (([0,0,0]:List Int),(0:Int))).filter λp=>p.2 != 0).map mkI;rw[hn]at this;exact this
 have hk:∀p∈m,(kI (mkI p),(mkI p).Count)=p:=λp hp=>by
  obtain⟨k,v,h⟩:=hm.2 p hp;obtain⟨ks,c⟩:=p;simp only at h;subst h;rfl
 have hu:(ys.map λx=>(kI x,x.Count)).Perm (m.filter λp=>p.2 != 0):=by
  have h1:=ht.map λx=>(kI x,x.Count)
  have h2:((m.filter λp=>p.2 != 0).map mkI).map (λx=>(kI x,x.Count))=m.filter λp=>p.2 != 0:=by
   rw[abW]
   conv=>rhs;rw[<-acj (m.filter λp=>p.2 != 0)]
   exact abm (λp hp=>hk p (abp.1 hp).1)
  rw[h2]at h1;exact h1
 have ho:(oa (ys.map λx=>(kI x,x.Count))).Nodup:=by
  have h1:(oa (m.filter λp=>p.2 != 0)).Nodup:=hs.sublist (aby _ abb);exact(hu.map (λp:List Int×Int=>p.1)).nodup_iff.2 h1
 have hh:Asc (ys.map λx=>(kI x,x.Count)):=by
  refine aaX.2 ?_;intro i j hi hj hl;simp only[abC]at hi hj;simp only[List.getElem_map];have h1:=hso i j hl hj;rw[aap,aap,aal hi,aal hj]at h1;simp only[acE]at h1
  have hq:kI ys[i]≠kI ys[j]:=by
   intro e;have h2:(oa (ys.map λx=>(kI x,x.Count)))[i]'(by simp[oa];exact hi)=(oa (ys.map λx=>(kI x,x.Count)))[j]'(by simp[oa];exact hj):=by simpa [oa] using e
   exact absurd h2 (aaX.1 ho i j (by simp[oa];exact hi) (by simp[oa];exact hj) hl)
  simp only[ltI,abD,abB,decide_eq_false_iff_not]at h1;have hr:¬ (ys[i].Key=ys[j].Key/\ys[i].Val=ys[j].Val):=λ⟨a,b⟩=>hq (by simp[kI,a,b]);simp only[kI,ltK,acf,abl,decide_eq_true_eq];omega
 have hg:(ys.map λx=>(kI x,x.Count))=Xc (chI xs):=by
  unfold Xc;rw[hM];have hv:=hu.trans (Gn (m.filter λp=>p.2 != 0)).symm;refine XD hv hh (et (n:=3) (hs.sublist (aby _ abb)) (λp hp=>hm.1 p (abp.1 hp).1))
 unfold gathI;rw[<-hg,abW]
 conv=>lhs;rw[<-acj ys]
 exact abm (λx _=>by cases x;rfl)
theorem PE:(o14 0).op=.load 85 (.tmp 6)/\(o14 0).dst=some 45/\(o14 0).guard=none/\(o14 1).op=.makeInterface 85 (.tmp 45)/\(o14 1).dst=some 46/\(o14 1).guard=none /\
  (o14 2).op=.makeFunc (.func 139) #[] #[.tmp 6]/\(o14 2).dst=some 47/\(o14 2).guard=none/\(o14 3).op=.call ⟨.value (.func 129),#[.tmp 46,.tmp 47],#[20, 141]⟩/\(o14 3).dst=some 48/\(o14 3).guard=none:=by
 refine(by and_intros<;>kernel_rfl)
theorem ug:(opsOf (nav C0 [1,1,1,1,1,0]))[0]? = some (o14 0)/\(opsOf (nav C0 [1,1,1,1,1,0]))[1]? = some (o14 1)/\(opsOf (nav C0 [1,1,1,1,1,0]))[2]? = some (o14 2)/\(opsOf (nav C0 [1,1,1,1,1,0]))[3]? = some (o14 3) /\
 aaH (opsOf (nav C0 [1,1,1,1,1,0])).size=[0,1,2,3]:=(by and_intros<;>kernel_rfl)
noncomputable def fnS:Func:=(aaq.funcs[129]?).getD default
theorem Dl : aaq.funcs[129]? = some fnS/\(fnS.name == "runtime.NumGoroutine")=false/\fnS.body.isNone=false:=⟨by kernel_rfl,by kernel_rfl,by kernel_rfl⟩
theorem tdT:Sb aaq 85 ⟨.slice 96,1,[.nl .item],none,false⟩:=ef.td _ _ (by kernel_rfl)
theorem qR{P:aaK}{a:Act}{w:World}{o:Oper}{f x y t u:Nat}{fn:Func}(hop:o.op=.call ⟨.value (.func f),#[.tmp x,.tmp y],#[t,u]⟩)(hfn:P.funcs[f]? = some fn)(hname:(fn.name == "runtime.NumGoroutine")=false)(hbody:fn.body.isNone=false) :
  (execOp a.eval o).run P w=.ok (.enter f #[a.tmps.getD x undef,a.tmps.getD y undef]) w:=by
 obtain⟨hh,op,ty,pos,aft,gd⟩:=o;simp only[]at hop;subst hop;have hj:¬ fn.name="runtime.NumGoroutine":=by simpa using hname
 have hi:¬ fn.body=none:=by intro e;rw[e]at hbody;simp at hbody
 simp[execOp,resolve,Act.eval,acF,invoke,aat,hfn,hj,hi]
theorem QE{a:Act}{w:World}{o:Oper}(hop:o.op=.load 85 (.tmp 6)){Bs:Nat}{sl:Value}(hx:a.tmps.getD 6 undef=.pointer (some ⟨Bs,0,none⟩))(hb:Blk w Bs [sl]):(execOp a.eval o).run aaq w=.ok (.value sl) w:=sg hop hx tdT rfl (by rw[hb.cell];rfl)
theorem RE{out:List Item}(hlen:out.length<=1099511627776){Q:Exit->Act->World->Prop}{B:Nat}{W0:World}{F0:Fz}(hL:Live F0 W0){a:Act}{w:World}(hs:MS ⟨50,none,[]⟩ B [] W0 F0 [] (E2 out) a w)
  (hQ:∀ys a w,ys.Perm out->(∀i j,i<j->j<ys.length->ltI (ys.getD j ⟨0,0,0⟩) (ys.getD i ⟨0,0,0⟩)=false)->MS ⟨50,none,[]⟩ B [] W0 F0 [] (E2 ys) a w->Q .normal a w):(nav C0 [1,1,1,1,1,0]).wp aaq Q a w:=by
 obtain⟨p0,d0,g0,p1,d1,g1,p2,d2,g2,p3,d3,g3⟩:=PE;obtain⟨Bs,sl,h6,hB,ho,hu⟩:=GE (s:=6) hs rfl;have hsz:a.tmps.size=50:=hs.sim.tmps.size;refine Kc (by kernel_rfl) ug.2.2.2.2 ?_;rw[aav];refine va ug.1 g0 ?_;refine Xa (QE p0 h6 hB) ?_;rw[d0,aav];refine va ug.2.1 g1 ?_;refine Xa (kQ p1 (e:=96) (by kernel_rfl)) ?_;rw[d1,aav];refine va ug.2.2.1 g2 ?_;refine Xa (lQ p2) ?_;rw[d2,aav];refine va ug.2.2.2.1 g3 ?_;have hm:(a.put (some 45) sl).tmps.getD 45 undef=sl:=by rw[Ja a 45 sl (by omega),if_pos rfl]
 rw[hm];generalize ha1:a.put (some 45) sl=a1;have s1:a1.tmps.size=50:=by rw[<-ha1,Ye,hsz]
 have t1:a1.tmps.getD 6 undef=.pointer (some ⟨Bs,0,none⟩):=by rw[<-ha1,Ja a 45 sl (by omega),if_neg (by omega)];exact h6
 have hh:a1.defers=[]:=by rw[<-ha1];exact hs.sim.defers
 generalize ha2:a1.put (some 46) (.iface 85 sl)=a2;have s2:a2.tmps.size=50:=by rw[<-ha2,Ye,s1]
 have t2:a2.tmps.getD 6 undef=.pointer (some ⟨Bs,0,none⟩):=by rw[<-ha2,Ja a1 46 _ (by omega),if_neg (by omega)];exact t1
 have v2:a2.tmps.getD 46 undef=.iface 85 sl:=by rw[<-ha2,Ja a1 46 _ (by omega),if_pos rfl]
 have hi:a2.defers=[]:=by rw[<-ha2];exact hh
 rw[t2];generalize ha3:a2.put (some 47) (.func (.func 139) #[] #[.pointer (some ⟨Bs,0,none⟩)])=a3;have s3:a3.tmps.size=50:=by rw[<-ha3,Ye,s2]
 have t3:a3.tmps.getD 6 undef=.pointer (some ⟨Bs,0,none⟩):=by rw[<-ha3,Ja a2 47 _ (by omega),if_neg (by omega)];exact t2
 have v3:a3.tmps.getD 46 undef=.iface 85 sl:=by rw[<-ha3,Ja a2 47 _ (by omega),if_neg (by omega)];exact v2
 have u3:a3.tmps.getD 47 undef=.func (.func 139) #[] #[.pointer (some ⟨Bs,0,none⟩)]:=by rw[<-ha3,Ja a2 47 _ (by omega),if_pos rfl]
 have hl:a3.defers=[]:=by rw[<-ha3];exact hi
 unfold Oper.wp;rw[qR p3 Dl.1 Dl.2.1 Dl.2.2,acg,v3,u3];have s4:∀v,(a3.put (some 48) v).tmps.size=50:=λv=>by rw[Ye,s3]
 have t4:∀v,(a3.put (some 48) v).tmps.getD 6 undef=.pointer (some ⟨Bs,0,none⟩):=λv=>by rw[Ja a3 48 _ (by omega),if_neg (by omega)];exact t3
 rcases hu with⟨rfl,rfl⟩|⟨blk,cap,cs,rfl,hb,hv,ht,hr,ha,hw⟩
 .have hK : aaq.funcs.findIdx? (·.name == "internal/reflectlite"++".Swapper$"++toString (aaV 0 svE 25))=some 161:=by
   rw[show aaV 0 svE 25=1 by kernel_rfl];kernel_rfl
  refine(Any.sort_Slice_tiny sl6 85 96 svT svE (by kernel_rfl) (by kernel_rfl) (by kernel_rfl) (by kernel_rfl) 25 (λ_=>by kernel_rfl) none 0 0 (by omega) 161 hK (.func 139) #[] _ w).mono ?_;rintro e w' ⟨rfl,os,rfl⟩;show wpOps _ _ _ _ _ _;rw[d3];refine xc _ (hQ [] _ _ (.refl _) (λi j _ h=>by simp at h) ?_);have hg:Ua (λ_ _=>False) w (λ_ _=>False) (grow w os):=⟨rfl,rfl,rfl,by show w.heap.size<=(w.heap++os).size;simp,λk hk=>ff hk,λ_ _ h=>h,λ_ _ h=>.inl h⟩;obtain⟨F,ow,hx⟩:=hs.sim.rep
  have ih:ja B [] F0 (E2 []) (λn=>a.tmps.getD n undef) (grow w os) F ow:=hx.grow hs.sim.base ⟨hg.os,hg.tape,hg.output,hg.size,hg.block,λ_ _ h=>h,λ_ _ h=>.inl h⟩ (hx.live.next ⟨hg.os,hg.tape,hg.output,hg.size,hg.block,λ_ _ h=>h,λ_ _ h=>.inl h⟩ λb o h=>by
   rw[cell_of_heap (ff ((show Live F w from hx.live).lt h))];exact hx.live b o h)
  have hc:Sim ⟨50,none,[]⟩ B [] w F0 (E2 []) a (grow w os):=⟨hs.sim.defers,hs.sim.tmps,hs.sim.base,hs.sim.f0,⟨rfl,rfl,rfl,hg.size,λk hk _=>ff (aaU hk hs.sim.base),λk o hk _=>by
   rw[ff (aaw.1 hk).1];exact hk⟩,F,ow,ih⟩
  have hz:=hs.of_sim hc;refine hz.tmps (D:=[45,46,47,48]) (by kernel_rfl) (λd hd=>?_) rfl (by rw[show(a3.put (some 48) _).defers=a3.defers from rfl];exact hl) (by rw[s4,hsz]) (λn hn=>?_)
  .simp at hd;rcases hd with rfl|rfl|rfl|rfl<;>exact⟨rfl,rfl⟩
  .simp at hn;rw[Ja a3 48 _ (by omega),if_neg (by omega),<-ha3,Ja a2 47 _ (by omega),if_neg (by omega),<-ha2,Ja a1 46 _ (by omega),if_neg (by omega),<-ha1,Ja a 45 _ (by omega),if_neg (by omega)]
 .have hH:=holds_of hb hv hw;have hd:out.toArray.size=out.length:=by simp
  have hf:=xE blk 0 cap Bs out.toArray (by rw[hd];omega) w hH hb.lt (by rw[hd,hB.cell];rfl) hB.lt (Ne.symm ha);rw[hd]at hf;refine hf.mono ?_;rintro e w' ⟨rfl,d',n,os,hp,he,rfl⟩;show wpOps _ _ _ _ _ _;rw[d3];have hp:d'.toList.Perm out:=by simpa using hp
  have hq:=LE (a':=a3.put (some 48) (.tuple #[])) (s:=6) (ys:=d'.toList) (n:=n) (os:=os) hs hL hB ho hb hv ht hr ha hH hp.length_eq hl (s4 _) (t4 _);rw[acq]at hq;refine xc _ (hQ d'.toList _ _ hp (λi j hij hj=>?_) hq);have hy:j<d'.size:=by simpa using hj
  have:=he i j hij hy;rw[getElem!_pos d' j hy,getElem!_pos d' i (by omega)]at this;rw[aap,aap,aal hj,aal (show i<d'.toList.length by simp;omega)];simpa using this
end
theorem op1:(o1 0).op=.makeMap 150 none/\(o1 0).dst=some 9/\(o1 0).guard=none/\(o1 1).op=.assign (.tmp 9)/\(o1 1).dst=some 3/\(o1 1).guard=none /\
  (o8 0).op=.move (.tmp 3)/\(o8 0).dst=some 30/\(o8 0).guard=none/\(o8 1).op=.range 150 (.tmp 30)/\(o8 1).dst=some 31/\(o8 1).guard=none:=by
 refine(by and_intros<;>kernel_rfl)
theorem at1:(opsOf (nav C0 [1,0]))[0]? = some (o1 0)/\(opsOf (nav C0 [1,0]))[1]? = some (o1 1)/\aaH (opsOf (nav C0 [1,0])).size=[0,1] /\
 (opsOf (nav C0 [1,1,1,1,0,0]))[0]? = some (o8 0)/\(opsOf (nav C0 [1,1,1,1,0,0]))[1]? = some (o8 1)/\aaH (opsOf (nav C0 [1,1,1,1,0,0])).size=[0,1]:=(by and_intros<;>kernel_rfl)
set_option maxHeartbeats 800000 in
theorem rR:Con aaq 121 SE:=by
 refine ol ef (fn:=Tryz.f121) (c:=C0) (by kernel_rfl) (by kernel_rfl) (by kernel_rfl) (rs:=[.tmp 2]) (by kernel_rfl) (by kernel_rfl) (λ_=>rfl) ?_;intro x hx fr hm hn hl a w hs;obtain⟨B,IoB,W0,F0⟩:=fr;have hl:IoB=[]:=hl rfl;subst hl;obtain⟨xs,u⟩:=x;have ho:lim (ba .item xs) 1:=hx;obtain⟨p0,d0,g0,p1,d1,g1,hv,hh,hj,hw,hi,hk⟩:=op1;have ht:MS ⟨50,none,[]⟩ B [] W0 F0 [] [(0,.v .sh (.lst .item xs))] a w:=(MS.of hs hm).forget (by kernel_rfl) rfl (λp h=>by cases h) (λp h=>by cases h);refine dh (c1:=nav C0 [0]) (c2:=nav C0 [1]) (by kernel_rfl) ?_;refine aaG gg (keep:=[0]) (e':=[(0,.v .sh (.lst .item xs))]) (ps:=[]) (by kernel_rfl) trivial ht (λa w hs=>?_);refine wpS ?_;refine Kc (by kernel_rfl) at1.2.2.1 ?_;rw[aav];refine va at1.1 g0 ?_;refine Xa (YD p0) ?_;rw[d0,aav];have h1:=hs.alloc (d:=9) (by kernel_rfl) (v:=.map (some w.heap.size)) (o:=.map #[] 0) rfl;refine va at1.2.1 g1 ?_;refine Xa (ft p1) ?_;rw[d1,h1.k (s:=9) (v:=.map (some w.heap.size)) (by simp)];have h2:=h1.val (d:=3) (by kernel_rfl) (v:=.map (some w.heap.size)) (av:=.dead) rfl (λ_ _=>trivial);have h3:MS (N1 w.heap.size) B [] W0 F0 [(w.heap.size,ya [])] [(0,.v .sh (.lst .item xs))] _ _:=(h2.weak (wa.cast (pat:=[(0,.same)]))).forget rfl rfl (λp hp=>by simp at hp⊢;simp[hp]) (λp hp=>hp);generalize w.heap.size=r at h3;clear h1 h2;refine xc _ ?_;show(nav C0 [1,1]).wp _ _ _ _;generalize w.alloc (.map #[] 0)=w1 at h3⊢;generalize (a.put (some 9) _).put (some 3) _=a1 at h3⊢;refine wpS ?_;refine wpS ?_;refine aaG gg (keep:=[10,11,12]) (e':=EL xs 0) (ps:=[]) (by kernel_rfl) trivial h3 (λa w hs=>?_);refine DE ho hs (λa w hs=>?_);show(nav C0 [1,1,1]).wp _ _ a w;refine wpS ?_;refine aaG gg (keep:=[6]) (e':=E2 []) (ps:=[]) (by kernel_rfl) trivial hs (λa w hs=>?_);refine wpS ?_;refine wpS ?_;refine Kc (by kernel_rfl) at1.2.2.2.2.2 ?_;rw[aav];refine va at1.2.2.2.1 hj ?_;refine Xa (cf hv) ?_;rw[hh,aav,hs.k (s:=3) (v:=.map (some r)) (by simp)];have h4:=hs.val (d:=30) (by kernel_rfl) (v:=.map (some r)) (av:=.dead) rfl (λ_ _=>trivial);refine va at1.2.2.2.2.1 hk ?_;refine Xa (gQ hw (by rw[h4.k (s:=30) (v:=.map (some r)) (by simp)];exact nQ (K:=96) (E:=3) (by kernel_rfl) (h4.o (r:=r) (o:=ya (bb (chI xs))) (by simp)))) ?_;rw[hi];have hq:r<w.heap.size:=(aaw.1 (h4.o (r:=r) (o:=ya (bb (chI xs))) (by simp))).1;have h5:=h4.alloc (d:=31) (by kernel_rfl) (v:=.pointer (some ⟨w.heap.size,0,none⟩)) (o:=Qb r (bb (chI xs)) []) rfl;have h6:MS (N2 w.heap.size) B [] W0 F0 [(w.heap.size,Qb r (bb (chI xs)) []),(r,ya (bb (chI xs)))] (E2 []) _ _:=(h5.weak (wa.cast (pat:=[(6,.same)]))).forget rfl rfl (λp hp=>by simp at hp⊢;simp[hp]) (λp hp=>hp);refine xc _ ?_;show(nav C0 [1,1,1,1,0,1]).wp _ _ _ _
 have hr:(bb (chI xs)).length<=1099511627775:=by
  have h1:=pR (chI xs);have h2:(chI xs).length=xs.length:=by simp[chI]
  have h3:(xs.length:Int)+1<=1099511627776:=ho;omega
 refine FE (Vj xs).2 hr (by omega) h6 (λS a w hnd hq hall hs=>?_);show(nav C0 [1,1,1,1,1]).wp _ _ a w;refine wpS ?_
 have hu:(Db (bb (chI xs)) S).length<=1099511627776:=by
  have h1:=Zn (bb (chI xs)) S;have h2:=Wj hnd hq;omega
 refine RE hu hn (hs.forget rfl rfl (λp h=>by cases h) (λp h=>by cases h)) (λys a w hp hso hs=>?_);have hy:=ME hnd hq hall hp hso;subst hy;show(nav C0 [1,1,1,1,1,1]).wp _ _ a w;refine wpS ?_;refine aaG gg (keep:=[2]) (e':=[(2,.v .fr (.lst .item (gathI xs)))]) (ps:=[]) (by kernel_rfl) trivial hs (λa w hs=>?_);refine Ih (by kernel_rfl) ?_;refine⟨[(2,.v .fr (.lst .item (gathI xs)))],?_,?_⟩
 .exact (hs.forget (N':=⟨(Tryz.f121).ntmps,none,[]⟩) (obs':=[]) (by kernel_rfl) rfl (λp h=>by cases h) (λp h=>by cases h)).to
 .exact⟨rfl,trivial⟩
section
open Go Go.Shelf Go.RowKit Go.Lib Go.Sort
abbrev fN(g:Nat)(lb:Array Value)(sfn:Fn)(sa sb:Array Value)(t:TypeId):Obj:=.cells #[.func (.func g) #[] lb,.func sfn sa sb] t
abbrev fO(g:Nat)(lb:Array Value)(sf:Nat)(sb:Array Value)(t:TypeId):Obj:=.cells #[.func (.func g) #[] lb,.func (.func sf) #[] sb] t
structure Ln where
 n:Nat
 os:Array Obj
instance:Add Ln:=⟨λa b=>⟨a.n+b.n,a.os++b.os⟩⟩
instance:OfNat Ln 0:=⟨⟨0,#[]⟩⟩
def later(w:World)(x:Ln):World:=grow (aar w x.n) x.os
theorem Gb(w:World)(x y:Ln):later (later w x) y=later w (x+y):=by
 show grow (aar (grow (aar w x.n) x.os) y.n) y.os=grow (aar w (x.n+y.n)) (x.os++y.os);rw[abv,aaP,ahead_ahead]
theorem Pe(w:World):later w 0=w:=by
 show grow (aar w 0) #[]=w;rw[grow_empty];rfl
theorem sX{w:World}{a:Addr}(h:a.block<w.heap.size)(x:Ln):(later w x).cell? a=w.cell? a:=acs _ _ _ h
section
variable {P:aaK}{α:Type} [Inhabited α] {enc:α->List Value}{k:Nat}{w w0 W:World}{blk off:Nat}{d dk X:Array α}
theorem sah(n:Nat)(dk:Array α)(os:Array Obj)(x:Ln):later (aaB enc k w0 blk off n dk os) x=aaB enc k w0 blk off (n+x.n) dk (os++x.os):=by
 unfold aaB;show grow (aar (grow (aan enc k (aar w0 n) blk off dk) os) x.n) x.os=_;rw[abv,aaP];have:=putRowK_drewN enc k w0 n x.n blk off dk;rw[<-this];rfl
theorem Dm(h:SWK enc k w0 blk off dk W)(x:Ln):SWK enc k w0 blk off dk (later W x):=by
 obtain⟨n,os,rfl⟩:=h;exact⟨_,_,sah n dk os x⟩
theorem tah(h:HoldsK enc k w blk off d)(hb:blk<w.heap.size)(x:Ln):HoldsK enc k (later w x) blk off d:=abh enc k _ _ blk off d hb (abX enc k w x.n blk off d h)
def LessReadsK(P:aaK)(g:Nat)(lb:Array Value)(enc:α->List Value)(k:Nat)(lt:α->α->Bool)(blk off size:Nat)(w:World):Prop:=
 ∀ (m:Nat) (os:Array Obj) (dk:Array α),dk.size=size->∀i j:Nat,i<size->j<size ->
   Calls P g (#[.int .i64 i,.int .i64 j]++lb) (aaB enc k w blk off m dk os) λe w'=>e=.returned (.bool (lt dk[i]! dk[j]!))/\∃q,w'=later (aaB enc k w blk off m dk os) q
variable {g:Nat}{lb:Array Value}{lt:α->α->Bool}{size:Nat}
theorem LessReadsK.grow(h:LessReadsK P g lb enc k lt blk off size w)(hblk:blk<w.heap.size)(os0:Array Obj) :
  LessReadsK P g lb enc k lt blk off size (Sort.grow w os0):=λm os dk hs i j hi hj=>by
 have e:aaB enc k (Sort.grow w os0) blk off m dk os=aaB enc k w blk off m dk (os0++os):=by
  unfold aaB;rw[abv,abF enc k (aar w m) _ blk off _ hblk,aaP]
 rw[e];exact h m _ dk hs i j hi hj
theorem LessReadsK.on(h:LessReadsK P g lb enc k lt blk off size w)(hblk:blk<w.heap.size)(n:Nat)(dk:Array α)(os:Array Obj)(hs:dk.size=size) :
  LessReadsK P g lb enc k lt blk off size (aaB enc k w blk off n dk os):=λm os' dk' hs' i j hi hj=>by
 rw[sortWorldK_on enc k w blk off n m dk dk' os os' hblk (hs'.trans hs.symm)];exact h _ _ dk' hs' i j hi hj
theorem ei(h:SWK enc k w0 blk off dk W)(hL:LessReadsK P g lb enc k lt blk off size w0)(hs:dk.size=size)(i j:Nat)(hi:i<size)(hj:j<size) :
  Calls P g (#[.int .i64 i,.int .i64 j]++lb) W λe w'=>e=.returned (.bool (lt dk[i]! dk[j]!))/\∃q,w'=later W q:=by
 obtain⟨n,os,rfl⟩:=h;exact hL n os dk hs i j hi hj
theorem tN(h:SWK enc k w0 blk off dk W)(hL:LessReadsK P g lb enc k lt blk off size w0)(hblk:blk<w0.heap.size)(hs:dk.size=size):LessReadsK P g lb enc k lt blk off size W:=by
 obtain⟨n,os,rfl⟩:=h;exact hL.on hblk n dk os hs
theorem fi(enc:α->List Value)(k:Nat)(w:World)(o:Obj)(blk off:Nat)(x:Ln)(X:Array α)(hblk:blk<w.heap.size) :
  later (aan enc k (w.alloc o) blk off X) x=aaB enc k w blk off x.n X (#[o]++x.os):=by
 unfold aaB;rw[aas,abF enc k w _ blk off X hblk];show grow (aar (grow (aan enc k w blk off X) #[o]) x.n) x.os=_;rw[abv,aaP];have:=putRowK_drewN enc k w 0 x.n blk off X;rw[aaM]at this;rw[<-this];rfl
theorem tX(h:LessReadsK P g lb enc k lt blk off size w)(o:Obj)(hblk:blk<w.heap.size)(hX:X.size=size)(x:Ln)(i j:Nat)(hi:i<size)(hj:j<size) :
  Calls P g (#[.int .i64 i,.int .i64 j]++lb) (later (aan enc k (w.alloc o) blk off X) x) λe w'=>e=.returned (.bool (lt X[i]! X[j]!))/\∃q,w'=later (aan enc k (w.alloc o) blk off X) (x+q):=by
 have:=h x.n (#[o]++x.os) X hX i j hi hj;rw[<-fi enc k w o blk off x X hblk]at this;exact this.mono λe w' ⟨he,q,hq⟩=>⟨he,q,hq.trans (Gb _ _ _)⟩
theorem swap_worldFK(enc:α->List Value)(k:Nat)(hk:∀x,(enc x).length=k)(w:World)(blk off:Nat)(hblk:blk<w.heap.size)(dk:Array α)(n:Ln)(i j:Nat)(hi:i<dk.size)(hj:j<dk.size) :
  ((later (aan enc k w blk off dk) n).setCells blk (off+i*k) (enc dk[j]!)).setCells blk (off+j*k) (enc dk[i]!)=later (aan enc k w blk off (swp dk i j)) n:=by
 have h1:blk<(aar (aan enc k w blk off dk) n.n).heap.size:=by
  show blk<(aan enc k w blk off dk).heap.size;rw[abY];exact hblk
 show((grow (aar (aan enc k w blk off dk) n.n) n.os).setCells _ _ _).setCells _ _ _=grow (aar (aan enc k w blk off (swp dk i j)) n.n) n.os;rw[abT _ _ _ _ _ h1,abT _ _ _ _ _ (by rw[size_setCells];exact h1)];rw[show aar (aan enc k w blk off dk) n.n=(aan enc k w blk off dk).drewN n.n from rfl,setCells_drewN,setCells_drewN,putRowK_swp enc k hk w blk off dk i j hi hj];rfl
theorem uN{sf:Nat}{sb:Array Value}(hswap:aaI P sf sb enc k blk off size)(hk:∀x,(enc x).length=k)(hH:HoldsK enc k w blk off d)(hblk:blk<w.heap.size)(hd:d.size=size)(hX:X.size=size)(x:Ln)(i j:Nat)(hi:i<size)(hj:j<size) :
  (aat sf (#[.int .i64 i,.int .i64 j]++sb)).run P (later (aan enc k w blk off X) x)=.ok (.value (.tuple #[])) (later (aan enc k w blk off (swp X i j)) x):=by
 rw[hswap _ X (tah (abL enc k _ blk off d X hH (hX.trans hd.symm)) (by rw[abY];exact hblk) x) hX i j hi hj];rw[swap_worldFK enc k hk w blk off hblk X x i j (by omega) (by omega)]
theorem wh{o:Obj}{kk:Nat}{v:Value}(h:(w.alloc o).cell? ⟨w.heap.size,kk,none⟩=some v)(hblk:blk<w.heap.size)(x:Ln) :
  (later (aan enc k (w.alloc o) blk off X) x).cell? ⟨w.heap.size,kk,none⟩=some v:=by
 rw[sX (by rw[abY,aas,aaR];show w.heap.size<w.heap.size+1;omega),cell?_putRowK_other enc k _ blk off X _ (by show w.heap.size≠blk;omega)];exact h
theorem vN(hH:HoldsK enc k w blk off d):w=later (aan enc k w blk off d) 0:=by
 rw[Pe,abZ enc k w blk off d hH]
end
end
section
open Go Go.Shelf Go.RowKit Go.Lib Go.Sort
variable {P:aaK}{ρ:Ren}{α:Type} [Inhabited α]
set_option maxHeartbeats 2000000 in
theorem Any.insertionSort_func_cells(L:LaysGg.n26 P ρ)(enc:α->List Value)(k:Nat)(hk:∀x,(enc x).length=k)(lt:α->α->Bool)(g:Nat)(lb:Array Value)(sf:Nat)(sb:Array Value)(blk off a b:Nat)(d:Array α)(w:World)
  (eg:∀args w,(aat g args).run P w=.ok (.enter g args) w) (hless:LessReadsK P g lb enc k lt blk off d.size w) (hswap:aaI P sf sb enc k blk off d.size)
  (hH:HoldsK enc k w blk off d) (hblk:blk<w.heap.size) (hab:a<=b) (hb:b<=d.size) (hsz:d.size<4611686018427387904) :
  Calls P (ρ.f 26) #[.agg #[.func (.func g) #[] lb,.func (.func sf) #[] sb],.int .i64 a,.int .i64 b] w λe w'=>
   e=.returned (.tuple #[])/\∃n,w'=(later (aan enc k (w.alloc (fO g lb sf sb (ρ.t 44))) blk off (abO lt d a b)) n):=by
 have ⟨mixed,_,t0,a0,z0,v0,_,t3,a3,z3,v3,_,t4,a4,z4,v4,_,t26,a26,z26,v26,_,t37,a37,z37,v37,_,t44,a44,z44,v44,_⟩:=L;have hz:=aaD L.t44;have hi:HoldsK enc k (w.alloc (fO g lb sf sb (ρ.t 44))) blk off d:=by rw[aas];exact abh enc k w _ blk off d hblk hH
 have ho:blk<(w.alloc (fO g lb sf sb (ρ.t 44))).heap.size:=by rw[aas,aaR];omega
 go_enter L.f26,BodyGg.n26_ntmps ρ
 go_wp2
 go_loopw [6] (λvi wr=>∃(i:Nat) (n:Ln) (dk:Array α),vi=.int .i64 i/\a<i/\i<=b+1/\dk.size=d.size/\wr=(later (aan enc k (w.alloc (fO g lb sf sb (ρ.t 44))) blk off dk) n) /\
  aca lt a b i dk=aca lt a b (a+1) d) (λvi _=>b+1 - (intOf vi).toNat)
 case atStart=>exact⟨a+1,0,d,by go_num,by omega,by omega,rfl,vN hi,rfl⟩
 case round=>
  obtain⟨i,n,dk,rfl,hm,hq,hv,hy,hO⟩:=hrel;have HO:Hid (aca lt a b i dk=aca lt a b (a+1) d):=hO;clear hO
  go_wp2
  ·
   go_loopw [7] (λvj wr2=>∃(j:Nat) (m:Ln) (dj:Array α),vj=.int .i64 j/\a<=j/\j<=i/\dj.size=d.size/\wr2=(later (aan enc k (w.alloc (fO g lb sf sb (ρ.t 44))) blk off dj) m) /\
    insInner lt a j dj=insInner lt a i dk) (λvj _=>(intOf vj).toNat)
   case atStart=>exact⟨i,n,dk,rfl,by omega,aao _,hv,rfl,rfl⟩
   case round=>
    obtain⟨j,m,dj,rfl,hn,hr,hu,hw,hI⟩:=hrel;have ht:i<b:=by assumption
    have c0:∀q,(later wr q).cell? ⟨w.heap.size,0,none⟩=some (.func (.func g) #[] lb):=λq=>by rw[hw,Gb];exact wh (by simp) hblk _
    have c1:∀q,(later wr q).cell? ⟨w.heap.size,1,none⟩=some (.func (.func sf) #[] sb):=λq=>by rw[hw,Gb];exact wh (by simp) hblk _
    have hh:wr.cell? ⟨w.heap.size,0,none⟩=some (.func (.func g) #[] lb):=by have:=c0 0;rwa [Pe]at this
    have HW:Hid (wr=(later (aan enc k (w.alloc (fO g lb sf sb (ρ.t 44))) blk off dj) m)):=hw;have HI:Hid (insInner lt a j dj=insInner lt a i dk):=hI;have HH1:Aside _:=hi;clear hw hI hH hi
    have out:(j<=a\/lt dj[j]! dj[j - 1]! = false)->∀q,∃i' n' dk',aau .i64 ((i:Int)+1)=.int .i64 (i':Nat)/\a<i'/\i'<=b+1/\dk'.size=d.size /\
      (later wr q)=(later (aan enc k (w.alloc (fO g lb sf sb (ρ.t 44))) blk off dk') n')/\aca lt a b i' dk'=aca lt a b (a+1) d:=λhs q=>
     ⟨i+1,m+q,dj,by go_num,by omega,by omega,hu,by rw[HW.out,Gb],
       by rw[<-HO.out,insOuter_go _ _ _ _ _ ht,<-HI.out,insInner_stop _ _ _ _ hs]⟩
    have OUT:Hid _:=out;clear out;by_cases hja:a<j
    .have hj:SWK enc k w blk off dj wr:=by rw[HW.out,fi enc k w _ blk off m dj hblk];exact⟨_,_,rfl⟩
     have hl:=ei hj hless hu j (j - 1) (by omega) (by omega);clear hj;rw[show(((j - 1:Nat):Int))=(j:Int) - 1 by omega]at hl;cases hlv:lt dj[j]! dj[j - 1]! with
     |true=>
      rw[hlv]at hl
      go_wp2_with (go_at_fn g;refine hl.mono ?_;rintro e w' ⟨rfl,q,rfl⟩)
      have hs:=uN hswap hk HH1.out ho rfl hu (m+q) j (j - 1) (by omega) (by omega);rw[<-Gb,<-HW.out]at hs;rw[show(((j - 1:Nat):Int))=(j:Int) - 1 by omega]at hs;rw[hs,Oper.upon_value]
      go_wp2
      go_roundw
      case rel=>
       (repeat apply Exists.intro)
       refine⟨⟨j - 1,m+q,swp dj j (j - 1),by congr 1<;>omega,by omega,by omega,by rw[aaQ];exact hu,?_,?_⟩,by rw[decide_eq_true ht,show((j - 1:Nat):Int)=(j:Int) - 1 by omega]⟩
       .rfl
       .rw[<-HI.out,insInner_go lt a j dj hja hlv]
      case measure=>simp[intOf];omega
     |false=>
      rw[hlv]at hl
      go_wp2_with (go_at_fn g;refine hl.mono ?_;rintro e w' ⟨rfl,q,rfl⟩)
      go_roundw
      case rel=>exact OUT.out (abq hlv) q
      case measure=>simp[intOf];omega
    .go_wp2
     go_roundw
     case rel=>have h0:=OUT.out (aaS (by omega)) 0;rw[Pe]at h0;exact h0
     case measure=>simp[intOf];omega
  ·
   have hp:¬ i<b:=by assumption
   go_end0
   exact⟨rfl,n,by unfold abO;rw[<-HO.out,insOuter_stop _ _ _ _ _ hp]⟩
theorem Any.insertionSort_func_cells_w(L:LaysGg.n26 P ρ)(enc:α->List Value)(k:Nat)(hk:∀x,(enc x).length=k)(lt:α->α->Bool)(g:Nat)(lb:Array Value)(sf:Nat)(sb:Array Value)(blk off a b:Nat)(d:Array α)(w:World)
  (eg:∀args w,(aat g args).run P w=.ok (.enter g args) w) (hless:LessReadsK P g lb enc k lt blk off d.size w) (hswap:aaI P sf sb enc k blk off d.size)
  (hH:HoldsK enc k w blk off d) (hblk:blk<w.heap.size) (hab:a<=b) (hb:b<=d.size) (hsz:d.size<4611686018427387904) :
  Calls P (ρ.f 26) #[.agg #[.func (.func g) #[] lb,.func (.func sf) #[] sb],.int .i64 a,.int .i64 b] w λe w'=>e=.returned (.tuple #[])/\∃n os,w'=aaB enc k w blk off n (abO lt d a b) os:=(Any.insertionSort_func_cells L enc k hk lt g lb sf sb blk off a b d w eg hless hswap hH hblk hab hb hsz).mono λ_ _ ⟨he,n,hw⟩=>⟨he,n.n,_,hw.trans (fi enc k w _ blk off n _ hblk)⟩
end
section
open Go Go.Shelf Go.RowKit Go.Lib Go.Sort
variable {P:aaK}{ρ:Ren}{α:Type} [Inhabited α]
theorem uah{β:Type}[Inhabited β]{e:β->Value}{w:World}{blk off:Nat}{d:Array β}(h:Holds e w blk off d)(hb:blk<w.heap.size)(x:Ln):Holds e (later w x) blk off d:=act e _ _ blk off d hb (holds_ahead e w x.n blk off d h)
theorem vah(W:World)(o:Obj)(q:Ln)(cb co s:Nat)(hS:Holds (aau .i64) W cb co (one s))(_hcb:cb<W.heap.size):later (W.alloc o) q=aaF (aau .i64) W cb co q.n (one s) (#[o]++q.os):=by
 unfold aaF;rw[putRow_self _ _ _ _ _ (holds_ahead _ W q.n cb co _ hS),aas];show grow (aar (grow W #[o]) q.n) q.os=_;rw[abv,aaP]
theorem wah(W:World)(o:Obj)(q:Ln)(cb co s:Nat)(hS:Holds (aau .i64) W cb co (one s))(hcb:cb<W.heap.size) :
  (later (W.alloc o) q).setCell ⟨cb,co,none⟩ (.int .i64 ((s:Int)+1))=aaF (aau .i64) W cb co q.n (one (s+1)) (#[o]++q.os):=by
 have h:=counter_succ W o q.n cb co s hS hcb;have e:later (W.alloc o) q=grow ((W.alloc o).drewN q.n) q.os:=rfl
 have hb:cb<((W.alloc o).drewN q.n).heap.size:=by
  show cb<(W.alloc o).heap.size;rw[aas,aaR];omega
 rw[e,setCell_eq,mapBlock_grow _ _ _ _ hb,<-setCell_eq,h];unfold aaF;rw[aaP]
set_option maxHeartbeats 1000000 in
theorem Any.order2_func_cells(L:LaysGg.n39 P ρ)(enc:α->List Value)(k:Nat)(_hk:∀x,(enc x).length=k)(lt:α->α->Bool)(g:Nat)(lb:Array Value)(sfn:Fn)(sa sb:Array Value)(blk off:Nat)(w0 W:World)(d:Array α)(a b cb co s:Nat)
  (eg:∀args w,(aat g args).run P w=.ok (.enter g args) w) (hL:LessReadsK P g lb enc k lt blk off d.size w0) (hW:SWK enc k w0 blk off d W) (ha:a<d.size) (hb:b<d.size)
  (hS:Holds (aau .i64) W cb co (one s)) (hcb:cb<W.heap.size) (hs:s<4611686018427387904) :
  Calls P (ρ.f 39) #[.agg #[.func (.func g) #[] lb,.func sfn sa sb],.int .i64 a,.int .i64 b,.pointer (some ⟨cb,co,none⟩)] W λe w'=>
   e=.returned (.tuple #[.int .i64 (order2 lt d a b s).1,.int .i64 (order2 lt d a b s).2.1])/\∃n os,w'=aaF (aau .i64) W cb co n (one (order2 lt d a b s).2.2) os:=by
 have ⟨mixed,_,t0,a0,z0,v0,_,t3,a3,z3,v3,_,t4,a4,z4,v4,_,t26,a26,z26,v26,_,t37,a37,z37,v37,_,t44,a44,z44,v44,_,t64,a64,z64,v64,_⟩:=L;have hm:=aaD L.t44;obtain⟨cs,fs⟩:=one_cell hS;have hl:=ei (hW.alloc (fN g lb sfn sa sb (ρ.t 44))) hL rfl b a hb ha;have hk:cb<(W.alloc (fN g lb sfn sa sb (ρ.t 44))).heap.size:=by rw[aas,aaR];omega
 have hj:∀q:Ln,Holds (aau .i64) (later (W.alloc (fN g lb sfn sa sb (ρ.t 44))) q) cb co (one s):=λq=>uah (by rw[aas];exact act _ W _ cb co _ hcb hS) hk q;have hh:∀q:Ln,(later (W.alloc (fN g lb sfn sa sb (ρ.t 44))) q).cell? ⟨cb,co,none⟩=some (.int .i64 s):=λq=>(one_cell (hj q)).1;have hi:∀q:Ln,(later (W.alloc (fN g lb sfn sa sb (ρ.t 44))) q).frozen? ⟨cb,co,none⟩=false:=λq=>(one_cell (hj q)).2;clear hj
 go_enter L.f39,BodyGg.n39_ntmps ρ
 cases hlv:lt d[b]! d[a]! with
 |true=>
  rw[hlv]at hl;have e2:order2 lt d a b s=(b,a,s+1):=by simp[order2,hlv]
  go_wp2_with (go_at_fn g;refine hl.mono ?_;rintro e w' ⟨rfl,q,rfl⟩)
  go_ret2
  rw[e2];exact⟨rfl,_,_,wah W _ q cb co s hS hcb⟩
 |false=>
  rw[hlv]at hl;have e2:order2 lt d a b s=(a,b,s):=by simp[order2,hlv]
  go_wp2_with (go_at_fn g;refine hl.mono ?_;rintro e w' ⟨rfl,q,rfl⟩)
  go_ret2
  rw[e2];exact⟨rfl,_,_,vah W _ q cb co s hS hcb⟩
set_option maxHeartbeats 1000000 in
theorem Any.median_func_cells(L:LaysGg.n38 P ρ)(enc:α->List Value)(k:Nat)(hk:∀x,(enc x).length=k)(lt:α->α->Bool)(g:Nat)(lb:Array Value)(sfn:Fn)(sa sb:Array Value)(blk off:Nat)(w0 W:World)(d:Array α)(a b c cb co s:Nat)
  (eg:∀args w,(aat g args).run P w=.ok (.enter g args) w) (hL:LessReadsK P g lb enc k lt blk off d.size w0) (hW:SWK enc k w0 blk off d W) (ha:a<d.size) (hb:b<d.size) (hc:c<d.size)
  (hS:Holds (aau .i64) W cb co (one s)) (hcb0:w0.heap.size<=cb) (hcb:cb<W.heap.size) (hs:s+3<4611686018427387904) :
  Calls P (ρ.f 38) #[.agg #[.func (.func g) #[] lb,.func sfn sa sb],.int .i64 a,.int .i64 b,.int .i64 c,.pointer (some ⟨cb,co,none⟩)] W λe w'=>
   e=.returned (.int .i64 (median lt d a b c s).1)/\∃n os,w'=aaF (aau .i64) W cb co n (one (median lt d a b c s).2) os:=by
 have ⟨mixed,_,_,t0,a0,z0,v0,_,t3,a3,z3,v3,_,t4,a4,z4,v4,_,t26,a26,z26,v26,_,t37,a37,z37,v37,_,t44,a44,z44,v44,_,t64,a64,z64,v64,_,t67,a67,z67,v67,_⟩:=L;have hq:=aaD L.t44;have hi:∀args w,(aat (ρ.f 39) args).run P w=.ok (.enter (ρ.f 39) args) w:=aaJ L.f39 (by kernel_rfl) rfl;have l1:=order2_lt' lt d s ha hb;have s1:=order2_swaps' lt d a b s;have l2:=order2_lt' lt d (order2 lt d a b s).2.2 l1.2 hc;have s2:=order2_swaps' lt d (order2 lt d a b s).2.1 c (order2 lt d a b s).2.2;have hl:=hW.alloc (fN g lb sfn sa sb (ρ.t 44));have hj:Holds (aau .i64) (W.alloc (fN g lb sfn sa sb (ρ.t 44))) cb co (one s):=by rw[aas];exact act _ W _ cb co _ hcb hS
 have hm:cb<(W.alloc (fN g lb sfn sa sb (ρ.t 44))).heap.size:=by rw[aas,aaR];omega
 have step:∀(n:Nat) (os:Array Obj) (t a' b':Nat),a'<d.size->b'<d.size->t<4611686018427387904 ->
   Calls P (ρ.f 39) #[.agg #[.func (.func g) #[] lb,.func sfn sa sb],.int .i64 a',.int .i64 b',.pointer (some ⟨cb,co,none⟩)] (aaF (aau .i64) (W.alloc (fN g lb sfn sa sb (ρ.t 44))) cb co n (one t) os) λe w'=>
    e=.returned (.tuple #[.int .i64 (order2 lt d a' b' t).1,.int .i64 (order2 lt d a' b' t).2.1])/\∃n' os',w'=aaF (aau .i64) (W.alloc (fN g lb sfn sa sb (ρ.t 44))) cb co n' (one (order2 lt d a' b' t).2.2) os':=λn os t a' b' ha' hb' ht=>
  (Any.order2_func_cells (P:=P) (ρ:=ρ) { L with } enc k hk lt g lb sfn sa sb blk off w0 _ d a' b' cb co t eg hL (hl.counter cb co n _ os hcb0) ha' hb' (holds_sortWorld _ _ cb co n (one s) _ os hm hj rfl) (lt_sortWorld _ _ cb co n _ os hm) ht).mono
    λ_ _ ⟨he,n',os',hw⟩=>⟨he,_,_,hw.trans (sortWorld_on _ _ cb co n n' _ _ os os' hm rfl)⟩
 have step0:=step 0 #[] s a b ha hb (by omega);rw[sortWorld_start _ _ cb co _ hj]at step0
 have bx:∀(kx:Nat) (v:Value),(W.alloc (fN g lb sfn sa sb (ρ.t 44))).cell? ⟨W.heap.size,kx,none⟩=some v->∀n t os,(aaF (aau .i64) (W.alloc (fN g lb sfn sa sb (ρ.t 44))) cb co n (one t) os).cell? ⟨W.heap.size,kx,none⟩=some v:=λkx v h n t os=>by
  unfold aaF;rw[acs _ _ _ (by show W.heap.size<(putRow _ _ _ _ _).heap.size;rw[size_putRow];show W.heap.size<(W.alloc _).heap.size;rw[aas,aaR];simp),cell?_putRow_other _ _ cb co _ _ (aaS (by show W.heap.size≠cb;omega))];exact h
 have bx0:=bx 0 (.func (.func g) #[] lb) (by simp);have hh:=bx 1 (.func sfn sa sb) (by simp);clear hS hj hL hW hl bx
 go_enter L.f38,BodyGg.n38_ntmps ρ
 go_wp2_with (go_at_fn_of (ρ.f 39) (aau .i64 (b:Int));refine step0.mono ?_;rintro e w' ⟨rfl,n1,hn,rfl⟩)
 go_wp2_with (go_at_fn_of (ρ.f 39) (aau .i64 (c:Int));refine(step n1 hn _ _ c l1.2 hc (by omega)).mono ?_;rintro e w' ⟨rfl,n2,ho,rfl⟩)
 go_wp2_with (go_at_fn_of (ρ.f 39) (aau .i64 ((order2 lt d a b s).1:Int));refine(step n2 ho _ _ _ l1.1 l2.1 (by omega)).mono ?_;rintro e w' ⟨rfl,n3,hp,rfl⟩)
 go_ret
 exact⟨rfl,_,_,sortWorld_alloc _ W _ cb co _ _ _ hcb⟩
set_option maxHeartbeats 1000000 in
theorem Any.medianAdjacent_func_cells(L:LaysGg.n37 P ρ)(enc:α->List Value)(k:Nat)(hk:∀x,(enc x).length=k)(lt:α->α->Bool)(g:Nat)(lb:Array Value)(sfn:Fn)(sa sb:Array Value)(blk off:Nat)(w0 W:World)(d:Array α)(a cb co s:Nat)
  (eg:∀args w,(aat g args).run P w=.ok (.enter g args) w) (hL:LessReadsK P g lb enc k lt blk off d.size w0) (hW:SWK enc k w0 blk off d W) (ha1:1<=a) (ha2:a+1<d.size) (hsz:d.size<4611686018427387904)
  (hS:Holds (aau .i64) W cb co (one s)) (hcb0:w0.heap.size<=cb) (hcb:cb<W.heap.size) (hs:s+3<4611686018427387904) :
  Calls P (ρ.f 37) #[.agg #[.func (.func g) #[] lb,.func sfn sa sb],.int .i64 a,.pointer (some ⟨cb,co,none⟩)] W λe w'=>
   e=.returned (.int .i64 (aaZ lt d a s).1)/\∃n os,w'=aaF (aau .i64) W cb co n (one (aaZ lt d a s).2) os:=by
 have ⟨mixed,_,_,_,t0,a0,z0,v0,_,t3,a3,z3,v3,_,t4,a4,z4,v4,_,t26,a26,z26,v26,_,t37,a37,z37,v37,_,t44,a44,z44,v44,_,t64,a64,z64,v64,_,t67,a67,z67,v67,_⟩:=L;have hi:=aaD L.t44;have hh:∀args w,(aat (ρ.f 38) args).run P w=.ok (.enter (ρ.f 38) args) w:=aaJ L.f38 (by kernel_rfl) rfl
 have hm:=Any.median_func_cells (P:=P) (ρ:=ρ) { L with } enc k hk lt g lb sfn sa sb blk off w0 _ d (a - 1) a (a+1) cb co s eg hL (hW.alloc (fN g lb sfn sa sb (ρ.t 44))) (by omega) (by omega) ha2
  (by rw[aas];exact act _ W _ cb co _ hcb hS) hcb0 (by rw[aas,aaR];omega) hs
 rw[show((a - 1:Nat):Int)=(a:Int) - 1 by omega,show((a+1:Nat):Int)=(a:Int)+1 by omega]at hm;clear hS hL hW
 go_enter L.f37,BodyGg.n37_ntmps ρ
 go_wp2_with (go_at_fn (ρ.f 38);refine hm.mono ?_;rintro e w' ⟨rfl,n,os,rfl⟩)
 go_ret
 exact⟨rfl,_,_,sortWorld_alloc _ W _ cb co _ _ _ hcb⟩
end
section
open Go Go.Shelf Go.RowKit Go.Lib Go.Sort
variable {P:aaK}{ρ:Ren}{α:Type} [Inhabited α]
theorem pivot_world_func_cells(L:LaysGg.n29 P ρ)(enc:α->List Value)(k:Nat)(hk:∀x,(enc x).length=k)(lt:α->α->Bool)(g:Nat)(lb:Array Value)(sfn:Fn)(sa sb:Array Value)(blk off:Nat)(W:World)(d:Array α)
  (eg:∀args w,(aat g args).run P w=.ok (.enter g args) w) (hless:LessReadsK P g lb enc k lt blk off d.size W) (hH:HoldsK enc k W blk off d) (hsz:d.size<4611686018427387904) :
  ∃ Wc:Nat->Nat->Array Obj->World,
    ((W.alloc (fN g lb sfn sa sb (ρ.t 44))).alloc (.cells #[.int .i64 0] (ρ.t 3)))=Wc 0 0 #[] /\
    (∀N S os,(Wc N S os).cell? ⟨W.heap.size+1,0,none⟩=some (.int .i64 S)) /\
    (∀N S os,(Wc N S os).cell? ⟨W.heap.size,0,none⟩=some (.func (.func g) #[] lb)) /\
    (∀N S os,(Wc N S os).cell? ⟨W.heap.size,1,none⟩=some (.func sfn sa sb)) /\
    (∀N S os,∃n os',Wc N S os=grow (aar W n) os') /\
    (∀x s N os,1<=x->x+1<d.size->s+3<4611686018427387904->Calls P (ρ.f 37) #[.agg #[.func (.func g) #[] lb,.func sfn sa sb],.int .i64 x,.pointer (some ⟨W.heap.size+1,0,none⟩)] (Wc N s os) λe w'=>e=.returned (.int .i64 (aaZ lt d x s).1)/\∃N' os',w'=Wc N' (aaZ lt d x s).2 os') /\
    (∀x y z s N os,x<d.size->y<d.size->z<d.size->s+3<4611686018427387904->Calls P (ρ.f 38) #[.agg #[.func (.func g) #[] lb,.func sfn sa sb],.int .i64 x,.int .i64 y,.int .i64 z,.pointer (some ⟨W.heap.size+1,0,none⟩)] (Wc N s os) λe w'=>e=.returned (.int .i64 (median lt d x y z s).1)/\∃N' os',w'=Wc N' (median lt d x y z s).2 os'):=by
 have hi:Holds (aau .i64) ((W.alloc (fN g lb sfn sa sb (ρ.t 44))).alloc (.cells #[.int .i64 0] (ρ.t 3))) (W.heap.size+1) 0 (one 0):=λj hj=>by
  have:j=0:=by simp at hj;omega
  subst this;exact⟨by rw[World.cell?_alloc_at _ _ _ _ (by simp)];rfl,World.frozen?_alloc_at _ _ _ _ (by simp)⟩
 have hm:W.heap.size+1<(((W.alloc (fN g lb sfn sa sb (ρ.t 44))).alloc (.cells #[.int .i64 0] (ρ.t 3)))).heap.size:=by simp
 have hl:SWK enc k W blk off d ((W.alloc (fN g lb sfn sa sb (ρ.t 44))).alloc (.cells #[.int .i64 0] (ρ.t 3))):=((SWK.start hH).alloc _).alloc _;have hh:=λN S os=>holds_sortWorld (aau .i64) ((W.alloc (fN g lb sfn sa sb (ρ.t 44))).alloc (.cells #[.int .i64 0] (ρ.t 3))) (W.heap.size+1) 0 N (one 0) (one S) os hm hi rfl
 have bx:∀(kx:Nat) (v:Value),(((W.alloc (fN g lb sfn sa sb (ρ.t 44))).alloc (.cells #[.int .i64 0] (ρ.t 3)))).cell? ⟨W.heap.size,kx,none⟩=some v->∀N S os,(aaF (aau .i64) ((W.alloc (fN g lb sfn sa sb (ρ.t 44))).alloc (.cells #[.int .i64 0] (ρ.t 3))) (W.heap.size+1) 0 N (one S) os).cell? ⟨W.heap.size,kx,none⟩=some v:=λkx v h N S os=>by
  unfold aaF;rw[acs _ _ _ (by show W.heap.size<(putRow _ _ _ _ _).heap.size;rw[size_putRow];show W.heap.size<(((W.alloc (fN g lb sfn sa sb (ρ.t 44))).alloc (.cells #[.int .i64 0] (ρ.t 3)))).heap.size;simp;omega),cell?_putRow_other _ _ _ 0 _ _ (aaS (by show W.heap.size≠W.heap.size+1;omega))];exact h
 refine⟨λN S os=>aaF (aau .i64) ((W.alloc (fN g lb sfn sa sb (ρ.t 44))).alloc (.cells #[.int .i64 0] (ρ.t 3))) (W.heap.size+1) 0 N (one S) os,(sortWorld_start _ _ _ 0 _ hi).symm,λN S os=>(one_cell (hh N S os)).1,
  bx 0 _ (by rw[ack _ _ _ (by simp)];simp),bx 1 _ (by rw[ack _ _ _ (by simp)];simp),λN S os=>?_,λx s N os h1 h2 hs=>?_,λx y z s N os hx hy hz hs=>?_⟩
 .show ∃n os',aaF _ _ _ _ _ _ _=_;unfold aaF;rw[aas,aas,aaP,abv];obtain⟨os',_,e⟩:=putRow_grow_new (aau .i64) (aar W N) (#[.cells #[.func (.func g) #[] lb,.func sfn sa sb] (ρ.t 44)]++#[.cells #[.int .i64 0] (ρ.t 3)]) (W.heap.size+1) 0 (one S) (by show W.heap.size<=_;omega);exact⟨N,_,by rw[e,aaP]⟩
 .exact(Any.medianAdjacent_func_cells (P:=P) (ρ:=ρ) { L with } enc k hk lt g lb sfn sa sb blk off W _ d x (W.heap.size+1) 0 s eg hless (hl.counter _ 0 N _ os (by omega)) h1 h2 hsz (hh N s os) (by omega) (lt_sortWorld _ _ _ 0 N _ os hm) hs).mono
   λ_ _ ⟨he,n',os',hw⟩=>⟨he,_,_,hw.trans (sortWorld_on _ _ _ 0 N n' _ _ os os' hm rfl)⟩
 .exact(Any.median_func_cells (P:=P) (ρ:=ρ) { L with } enc k hk lt g lb sfn sa sb blk off W _ d x y z (W.heap.size+1) 0 s eg hless (hl.counter _ 0 N _ os (by omega)) hx hy hz (hh N s os) (by omega) (lt_sortWorld _ _ _ 0 N _ os hm) hs).mono
   λ_ _ ⟨he,n',os',hw⟩=>⟨he,_,_,hw.trans (sortWorld_on _ _ _ 0 N n' _ _ os os' hm rfl)⟩
set_option maxHeartbeats 2000000 in
theorem Any.choosePivot_func_cells(L:LaysGg.n29 P ρ)(enc:α->List Value)(k:Nat)(hk:∀x,(enc x).length=k)(lt:α->α->Bool)(g:Nat)(lb:Array Value)(sfn:Fn)(sa sb:Array Value)(blk off a b:Nat)(W:World)(d:Array α)
  (eg:∀args w,(aat g args).run P w=.ok (.enter g args) w) (hless:LessReadsK P g lb enc k lt blk off d.size W) (hH:HoldsK enc k W blk off d) (hab:a<b) (hb:b<=d.size) (hsz:d.size<4611686018427387904) :
  Calls P (ρ.f 29) #[.agg #[.func (.func g) #[] lb,.func sfn sa sb],.int .i64 a,.int .i64 b] W λe w'=>
   e=.returned (.tuple #[.int .i64 (choosePivot lt d a b).1,.int .i64 (aaO (choosePivot lt d a b).2)])/\∃n os,w'=grow (aar W n) os:=by
 obtain⟨Wc,hl,cS,b0,b1,hG,MA,MD⟩:=pivot_world_func_cells L enc k hk lt g lb sfn sa sb blk off W d eg hless hH hsz;clear hH hless;have ⟨mixed,_,_,_,_,t0,a0,z0,v0,_,t3,a3,z3,v3,_,t4,a4,z4,v4,_,t26,a26,z26,v26,_,t37,a37,z37,v37,_,t44,a44,z44,v44,_,t53,a53,z53,v53,_,t64,a64,z64,v64,_,t67,a67,z67,v67,_⟩:=L;have ht:=aaD L.t44;have hh:∀args w,(aat (ρ.f 37) args).run P w=.ok (.enter (ρ.f 37) args) w:=aaJ L.f37 (by kernel_rfl) rfl;have hi:∀args w,(aat (ρ.f 38) args).run P w=.ok (.enter (ρ.f 38) args) w:=aaJ L.f38 (by kernel_rfl) rfl;rw[choosePivot_eq];obtain⟨I,hI⟩ : ∃I:Nat,I=a+(b - a) / 4*1:=⟨_,rfl⟩;obtain⟨J,hJ⟩ : ∃J:Nat,J=a+(b - a) / 4*2:=⟨_,rfl⟩;obtain⟨K,hK⟩ : ∃K:Nat,K=a+(b - a) / 4*3:=⟨_,rfl⟩;have eI:((a:Int)+((b:Int) - (a:Int)) / 4)=(I:Int):=by omega
 have eJ:((a:Int)+((b:Int) - (a:Int)) / 4*2)=(J:Int):=by omega
 have eK:((a:Int)+((b:Int) - (a:Int)) / 4*3)=(K:Int):=by omega
 by_cases h8:b - a >= 8
 .by_cases h50:b - a >= 50
  ·
   obtain⟨i1,s1,h1⟩ : ∃i1 s1,aaZ lt d I 0=(i1,s1):=⟨_,_,rfl⟩;obtain⟨j1,s2,h2⟩ : ∃j1 s2,aaZ lt d J s1=(j1,s2):=⟨_,_,rfl⟩;obtain⟨k1,s3,h3⟩ : ∃k1 s3,aaZ lt d K s2=(k1,s3):=⟨_,_,rfl⟩;obtain⟨p,s,h4⟩ : ∃p s,median lt d i1 j1 k1 s3=(p,s):=⟨_,_,rfl⟩;have hr:acb lt d a b=(p,s):=by simp only[acb,if_pos h8,if_pos h50,<-hI,<-hJ,<-hK,h1,h2,h3,h4]
   have m1:=abQ lt d I 0;rw[h1]at m1;have m2:=abQ lt d J s1;rw[h2]at m2;have m3:=abQ lt d K s2;rw[h3]at m3;have n1:=abG lt d I 0;rw[h1]at n1;have n2:=abG lt d J s1;rw[h2]at n2;have n3:=abG lt d K s2;rw[h3]at n3;simp only[]at m1 m2 m3 n1 n2 n3
   have c1:Calls P (ρ.f 37) #[.agg #[.func (.func g) #[] lb,.func sfn sa sb],.int .i64 (I:Int),.pointer (some ⟨W.heap.size+1,0,none⟩)] (Wc 0 0 #[]) λe w'=>e=.returned (.int .i64 (i1:Int))/\∃N' os',w'=Wc N' s1 os':=by
    have h:=MA I 0 0 #[] (by omega) (by omega) (by omega);rw[h1]at h;exact h
   have c2:∀N os,Calls P (ρ.f 37) #[.agg #[.func (.func g) #[] lb,.func sfn sa sb],.int .i64 (J:Int),.pointer (some ⟨W.heap.size+1,0,none⟩)] (Wc N s1 os) λe w'=>e=.returned (.int .i64 (j1:Int))/\∃N' os',w'=Wc N' s2 os':=λN os=>by
    have h:=MA J s1 N os (by omega) (by omega) (by omega);rw[h2]at h;exact h
   have c3:∀N os,Calls P (ρ.f 37) #[.agg #[.func (.func g) #[] lb,.func sfn sa sb],.int .i64 (K:Int),.pointer (some ⟨W.heap.size+1,0,none⟩)] (Wc N s2 os) λe w'=>e=.returned (.int .i64 (k1:Int))/\∃N' os',w'=Wc N' s3 os':=λN os=>by
    have h:=MA K s2 N os (by omega) (by omega) (by omega);rw[h3]at h;exact h
   have c4:∀N os,Calls P (ρ.f 38) #[.agg #[.func (.func g) #[] lb,.func sfn sa sb],.int .i64 (i1:Int),.int .i64 (j1:Int),.int .i64 (k1:Int),.pointer (some ⟨W.heap.size+1,0,none⟩)] (Wc N s3 os) λe w'=>e=.returned (.int .i64 (p:Int))/\∃N' os',w'=Wc N' s os':=λN os=>by
    have h:=MD i1 j1 k1 s3 N os (by omega) (by omega) (by omega) (by omega);rw[h4]at h;exact h
   rw[hr];obtain⟨Hc,hj⟩ : ∃Hc:Int,Hc=aaO (hintOf s):=⟨_,rfl⟩;have hn:s=0->Hc=1:=λh=>by rw[hj,h];rfl
   have ho:s=12->Hc=2:=λh=>by rw[hj,h];rfl
   have hq:s≠0->s≠12->Hc=0:=λh1 h2=>by rw[hj];unfold hintOf;rw[if_neg h1,if_neg h2];rfl
   show Calls P (ρ.f 29) _ W λe w'=>e=.returned (.tuple #[.int .i64 (p:Int),.int .i64 (aaO (hintOf s))])/\∃n os,w'=grow (aar W n) os;rw[<-hj];clear hj hr;clear h1 h2 h3 h4 MA MD hI hJ hK m1 m2 m3
   go_enter L.f29,BodyGg.n29_ntmps ρ
   go_wp2_with (first
    |(go_at_fn_of (ρ.f 37) (aau .i64 (I:Int));refine c1.mono ?_;rintro e w' ⟨rfl,N1,o1,rfl⟩)
    |(go_at_fn_of (ρ.f 37) (aau .i64 (J:Int));refine(c2 _ _).mono ?_;rintro e w' ⟨rfl,N2,o2,rfl⟩)
    |(go_at_fn_of (ρ.f 37) (aau .i64 (K:Int));refine(c3 _ _).mono ?_;rintro e w' ⟨rfl,N3,o3,rfl⟩)
    |(go_at_fn (ρ.f 38);refine(c4 _ _).mono ?_;rintro e w' ⟨rfl,N4,o4,rfl⟩))
   all_goals
    go_ret2
    refine⟨?_,hG _ _ _⟩
    first
     |(have e0:(s:Int)=0:=abH (by assumption)
       rw[hn (by omega)];rfl)
     |(have e1:(s:Int)=12:=abH (by assumption)
       rw[ho (by omega)];rfl)
     |(have e0:(s:Int)≠0:=abI (by assumption)
       have e1:(s:Int)≠12:=abI (by assumption);rw[hq (by omega) (by omega)];rfl)
     |(rw[hn (by omega)];rfl)
  ·
   obtain⟨p,s,h4⟩ : ∃p s,median lt d I J K 0=(p,s):=⟨_,_,rfl⟩;have hr:acb lt d a b=(p,s):=by simp only[acb,if_pos h8,if_neg h50,<-hI,<-hJ,<-hK,h4]
   have c4:Calls P (ρ.f 38) #[.agg #[.func (.func g) #[] lb,.func sfn sa sb],.int .i64 (I:Int),.int .i64 (J:Int),.int .i64 (K:Int),.pointer (some ⟨W.heap.size+1,0,none⟩)] (Wc 0 0 #[]) λe w'=>e=.returned (.int .i64 (p:Int))/\∃N' os',w'=Wc N' s os':=by
    have h:=MD I J K 0 0 #[] (by omega) (by omega) (by omega) (by omega);rw[h4]at h;exact h
   rw[hr];obtain⟨Hc,hj⟩ : ∃Hc:Int,Hc=aaO (hintOf s):=⟨_,rfl⟩;have hn:s=0->Hc=1:=λh=>by rw[hj,h];rfl
   have ho:s=12->Hc=2:=λh=>by rw[hj,h];rfl
   have hq:s≠0->s≠12->Hc=0:=λh1 h2=>by rw[hj];unfold hintOf;rw[if_neg h1,if_neg h2];rfl
   show Calls P (ρ.f 29) _ W λe w'=>e=.returned (.tuple #[.int .i64 (p:Int),.int .i64 (aaO (hintOf s))])/\∃n os,w'=grow (aar W n) os;rw[<-hj];clear hj hr;clear h4 MA MD hI hJ hK
   go_enter L.f29,BodyGg.n29_ntmps ρ
   go_wp2_with (first|(go_at_fn (ρ.f 38);refine c4.mono ?_;rintro e w' ⟨rfl,N4,o4,rfl⟩))
   all_goals
    go_ret2
    refine⟨?_,hG _ _ _⟩
    first
     |(have e0:(s:Int)=0:=abH (by assumption)
       rw[hn (by omega)];rfl)
     |(have e1:(s:Int)=12:=abH (by assumption)
       rw[ho (by omega)];rfl)
     |(have e0:(s:Int)≠0:=abI (by assumption)
       have e1:(s:Int)≠12:=abI (by assumption);rw[hq (by omega) (by omega)];rfl)
     |(rw[hn (by omega)];rfl)
 ·
  obtain⟨p,hp⟩ : ∃p:Nat,p=J:=⟨_,rfl⟩;obtain⟨s,hs⟩ : ∃s:Nat,s=0:=⟨_,rfl⟩;have hr:acb lt d a b=(p,s):=by simp only[acb,if_neg h8,<-hJ,hp,hs]
  rw[hr];obtain⟨Hc,hj⟩ : ∃Hc:Int,Hc=aaO (hintOf s):=⟨_,rfl⟩;have hn:s=0->Hc=1:=λh=>by rw[hj,h];rfl
  have ho:s=12->Hc=2:=λh=>by rw[hj,h];rfl
  have hq:s≠0->s≠12->Hc=0:=λh1 h2=>by rw[hj];unfold hintOf;rw[if_neg h1,if_neg h2];rfl
  show Calls P (ρ.f 29) _ W λe w'=>e=.returned (.tuple #[.int .i64 (p:Int),.int .i64 (aaO (hintOf s))])/\∃n os,w'=grow (aar W n) os;rw[<-hj];clear hj hr;subst hp;clear MA MD hI hJ hK;have hm:((W.alloc (fN g lb sfn sa sb (ρ.t 44))).alloc (.cells #[.int .i64 0] (ρ.t 3)))=Wc 0 s #[]:=by rw[hs];exact hl
  clear hl
  go_enter L.f29,BodyGg.n29_ntmps ρ
  go_wp2
  all_goals
   go_ret2
   refine⟨?_,hG _ _ _⟩
   first
    |(have e0:(s:Int)=0:=abH (by assumption)
      rw[hn (by omega)];rfl)
    |(have e1:(s:Int)=12:=abH (by assumption)
      rw[ho (by omega)];rfl)
    |(have e0:(s:Int)≠0:=abI (by assumption)
      have e1:(s:Int)≠12:=abI (by assumption);rw[hq (by omega) (by omega)];rfl)
    |(rw[hn (by omega)];rfl)
end
section
open Go Go.Shelf Go.RowKit Go.Lib Go.Sort
variable {P:aaK}{ρ:Ren}{α:Type} [Inhabited α]
set_option maxHeartbeats 6400000 in
theorem Any.partitionEqual_func_cells(L:LaysGg.n32 P ρ)(enc:α->List Value)(k:Nat)(hk:∀x,(enc x).length=k)(lt:α->α->Bool)(g:Nat)(lb:Array Value)(sf:Nat)(sb:Array Value)(blk off a b pivot:Nat)(d:Array α)(W:World)
  (eg:∀args w,(aat g args).run P w=.ok (.enter g args) w) (hless:LessReadsK P g lb enc k lt blk off d.size W) (hswap:aaI P sf sb enc k blk off d.size)
  (hH:HoldsK enc k W blk off d) (hblk:blk<W.heap.size) (hap:a<=pivot) (hpb:pivot<b) (hb:b<=d.size) (hsz:d.size<4611686018427387904) :
  Calls P (ρ.f 32) #[.agg #[.func (.func g) #[] lb,.func (.func sf) #[] sb],.int .i64 a,.int .i64 b,.int .i64 pivot] W λe w'=>
   e=.returned (.int .i64 (aaE lt d a b pivot).1)/\∃n,w'=(later (aan enc k (W.alloc (fO g lb sf sb (ρ.t 44))) blk off (aaE lt d a b pivot).2) n):=by
 have ⟨mixed,_,t0,a0,z0,v0,_,t3,a3,z3,v3,_,t4,a4,z4,v4,_,t26,a26,z26,v26,_,t37,a37,z37,v37,_,t44,a44,z44,v44,_⟩:=L;have ki:=aaD L.t44;have he:a<d.size:=by omega
 have hf:pivot<d.size:=by omega
 have hj:HoldsK enc k (W.alloc (fO g lb sf sb (ρ.t 44))) blk off d:=by rw[aas];exact abh enc k W _ blk off d hblk hH
 have jb:∀(dk:Array α) (n:Ln),SWK enc k W blk off dk (later (aan enc k (W.alloc (fO g lb sf sb (ρ.t 44))) blk off dk) n):=λdk n=>by rw[fi enc k W _ blk off n dk hblk];exact⟨_,_,rfl⟩
 have hp:blk<(W.alloc (fO g lb sf sb (ρ.t 44))).heap.size:=by rw[aas,aaR];omega
 have b0:∀(dk:Array α) (n:Ln),(later (aan enc k (W.alloc (fO g lb sf sb (ρ.t 44))) blk off dk) n).cell? ⟨W.heap.size,0,none⟩=some (.func (.func g) #[] lb):=λdk n=>wh (by simp) hblk n;have b1:∀(dk:Array α) (n:Ln),(later (aan enc k (W.alloc (fO g lb sf sb (ρ.t 44))) blk off dk) n).cell? ⟨W.heap.size,1,none⟩=some (.func (.func sf) #[] sb):=λdk n=>wh (by simp) hblk n;obtain⟨E0,hh⟩ : ∃E0:Nat->List Value,∀t,E0 t=enc d[t]!:=⟨λt=>enc d[t]!,λ_=>rfl⟩
 have ih:(aat sf (#[.int .i64 a,.int .i64 pivot]++sb)).run P (W.alloc (fO g lb sf sb (ρ.t 44)))=.ok (.value (.tuple #[])) ((((W.alloc (fO g lb sf sb (ρ.t 44)))).setCells blk (off+a*k) (E0 pivot)).setCells blk (off+pivot*k) (E0 a)):=by
  rw[hh,hh];exact hswap _ d hj rfl a pivot he hf
 have A0:Hid (∀t,E0 t=enc d[t]!):=hh;have AH:Hid (HoldsK enc k (W.alloc (fO g lb sf sb (ρ.t 44))) blk off d):=hj;clear hh hj
 go_enter L.f32,BodyGg.n32_ntmps ρ
 go_wp2
 go_loopw [9,10] (λvi vj wr=>∃(i j:Nat) (n:Ln) (dk:Array α),vi=.int .i64 i/\vj=.int .i64 j/\a<i/\i<=j+1/\j<b/\dk.size=d.size/\wr=(later (aan enc k (W.alloc (fO g lb sf sb (ρ.t 44))) blk off dk) n) /\
   abE lt a i j dk=abE lt a (a+1) (b - 1) (abg d a pivot))
  (λvi vj _=>(intOf vj).toNat+1 - (intOf vi).toNat)
 case atStart=>
  refine⟨a+1,b - 1,0,abg d a pivot,by go_num,by go_num,by omega,by omega,by omega,aaQ _ _ _,?_,rfl⟩;rw[A0.out a,A0.out pivot,Pe,aas];show _=aan enc k (W.alloc (fO g lb sf sb (ρ.t 44))) blk off (abg d a pivot);rw[aas,abF enc k W _ blk off _ hblk,<-putRowK_swp enc k hk W blk off d a pivot he hf,abZ enc k W blk off d hH,abT _ _ _ _ _ hblk,abT _ _ _ _ _ (by simpa using hblk)]
 case round=>
  obtain⟨i,j,n,dk,rfl,rfl,ho,hu,ha,hs,hw,hq⟩:=hrel;clear ih A0 AH
  rename World=>W1
  have hm:∀m,SWK enc k W blk off dk (later W1 m):=λm=>by rw[hw];exact Dm (jb dk n) m
  have c0:∀m,(later W1 m).cell? ⟨W.heap.size,0,none⟩=some (.func (.func g) #[] lb):=λm=>by rw[hw,Gb];exact b0 dk _
  have c1:∀m,(later W1 m).cell? ⟨W.heap.size,1,none⟩=some (.func (.func sf) #[] sb):=λm=>by rw[hw,Gb];exact b1 dk _
  have AW:Hid (W1=(later (aan enc k (W.alloc (fO g lb sf sb (ρ.t 44))) blk off dk) n)):=hw;have AE:Hid (abE lt a i j dk=abE lt a (a+1) (b - 1) (abg d a pivot)):=hq;clear hw hq
  go_wp2
  go_loopw [9] (λvi w1=>∃(i':Nat) (n1:Ln),vi=.int .i64 i'/\i<=i'/\i'<=j+1/\w1=(later W1 n1) /\
    Hid (aaN (λx=>!lt dk[a]! x) dk j i'=aaN (λx=>!lt dk[a]! x) dk j i))
   (λvi _=>j+1 - (intOf vi).toNat)
  case atStart=>exact⟨i,0,rfl,aao _,hu,(Pe _).symm,rfl⟩
  case round=>
   obtain⟨i',n1,rfl,ht,hv,ie,io⟩:=hrel;have d0:wr.cell? ⟨W.heap.size,0,none⟩=some (.func (.func g) #[] lb):=by rw[ie];exact c0 n1
   have hn:SWK enc k W blk off dk wr:=by rw[ie];exact hm n1
   have HW1:Hid (wr=(later W1 n1)):=ie;clear ie;by_cases hle:i'<=j
   .have hl:=ei hn hless hs a i' (by omega) (by omega);clear hn;cases hlv:lt dk[a]! dk[i']! with
    |false=>
     rw[hlv]at hl
     go_wp2_with (go_at_fn g;refine hl.mono ?_;rintro e w' ⟨rfl,nq,rfl⟩)
     go_roundw
     case rel=>exact⟨i'+1,n1+nq,by go_num,by omega,by omega,by rw[HW1.out,Gb],(scanUp_go (λx=>!lt dk[a]! x) dk j i' hle (by simp[hlv])).symm.trans io.out⟩
     case measure=>simp[intOf];omega
    |true=>
     rw[hlv]at hl;have hr:Hid (i'=aaN (λx=>!lt dk[a]! x) dk j i):=(abJ (λx=>!lt dk[a]! x) dk j i' (abq (by simp[hlv]))).symm.trans io.out
     go_wp2_with (go_at_fn g;refine hl.mono ?_;rintro e w' ⟨rfl,nq,rfl⟩)
     have ju:(later wr nq)=(later W1 (n1+nq)):=by rw[HW1.out,Gb]
     clear d0 HW1 io
     go_loopw [10] (λvj w2=>∃(j':Nat) (n2:Ln),vj=.int .i64 j'/\j'<=j/\i'<=j'+1/\w2=(later W1 n2) /\
       Hid (aay (λx=>lt dk[a]! x) dk i' j'=aay (λx=>lt dk[a]! x) dk i' j))
      (λvj _=>(intOf vj).toNat)
     case atStart=>exact⟨j,n1+nq,rfl,aao _,hv,ju,rfl⟩
     case round=>
      clear ju;obtain⟨j',n2,rfl,hc,hy,ju,it⟩:=hrel;have d0:wr.cell? ⟨W.heap.size,0,none⟩=some (.func (.func g) #[] lb):=by rw[ju];exact c0 n2
      have d1:∀q,(later wr q).cell? ⟨W.heap.size,1,none⟩=some (.func (.func sf) #[] sb):=λq=>by rw[ju,Gb];exact c1 _
      have hn:SWK enc k W blk off dk wr:=by rw[ju];exact hm n2
      have HW2:Hid (wr=(later W1 n2)):=ju;clear ju;by_cases hle2:i'<=j'
      .have hl:=ei hn hless hs a j' (by omega) (by omega);cases hlv2:lt dk[a]! dk[j']! with
       |true=>
        rw[hlv2]at hl
        go_wp2_with (go_at_fn g;refine hl.mono ?_;rintro e w' ⟨rfl,nq,rfl⟩)
        go_roundw
        case rel=>exact⟨j' - 1,n2+nq,by go_num,by omega,by omega,by rw[HW2.out,Gb],(scanDown_go (λx=>lt dk[a]! x) dk i' j' hle2 (by omega) hlv2).symm.trans it.out⟩
        case measure=>simp[intOf];omega
       |false=>
        rw[hlv2]at hl;have hz:Hid (j'=aay (λx=>lt dk[a]! x) dk i' j):=(aaW (λx=>lt dk[a]! x) dk i' j' (abq hlv2)).symm.trans it.out;have hg:=scans_lt lt a i j dk (by omega) hr.out hz.out hle2;obtain⟨Ek,hi⟩ : ∃Ek:Nat->List Value,∀t,Ek t=enc dk[t]!:=⟨λt=>enc dk[t]!,λ_=>rfl⟩
        have ix:∀q,(aat sf (#[.int .i64 i',.int .i64 j']++sb)).run P (later wr q)=.ok (.value (.tuple #[])) (((later wr q).setCells blk (off+i'*k) (Ek j')).setCells blk (off+j'*k) (Ek i')):=λq=>by
         rw[hi,hi];exact hswap (later wr q) dk ((Dm hn q).holds hblk hH hs) hs i' j' (by omega) (by omega)
        have AK:Hid (∀t,Ek t=enc dk[t]!):=hi;clear hi it hn
        go_wp2_with (go_at_fn g;refine hl.mono ?_;rintro e w' ⟨rfl,nq,rfl⟩)
        go_roundw
        case rel=>
         refine⟨i'+1,j' - 1,n+(n2+nq),abg dk i' j',by go_num,by go_num,by omega,by omega,by omega,by rw[aaQ];exact hs,?_,?_⟩
         .rw[HW2.out,AW.out,Gb,Gb,AK.out i',AK.out j'];exact swap_worldFK enc k hk _ blk off hp dk _ i' j' (by omega) (by omega)
         .rw[<-AE.out];exact(partEq_go lt a i j dk hr.out hz.out (by omega)).symm
        case measure=>simp[intOf];omega
      ·
       have hz:Hid (j'=aay (λx=>lt dk[a]! x) dk i' j):=(aaW (λx=>lt dk[a]! x) dk i' j' (aaS hle2)).symm.trans it.out;clear it
       go_wp2
       go_ret
       have e:=partEq_break lt a i j dk hr.out hz.out (by omega);refine⟨?_,n+n2,?_⟩
       .unfold aaE;rw[<-AE.out,e];rfl
       .unfold aaE;rw[<-AE.out,e,HW2.out,AW.out,Gb]
   ·
    clear hn;have hr:Hid (i'=aaN (λx=>!lt dk[a]! x) dk j i):=(abJ (λx=>!lt dk[a]! x) dk j i' (aaS hle)).symm.trans io.out
    go_wp2
    have ju:wr=(later W1 (n1)):=by exact HW1.out
    clear d0 HW1 io
    go_loopw [10] (λvj w2=>∃(j':Nat) (n2:Ln),vj=.int .i64 j'/\j'<=j/\i'<=j'+1/\w2=(later W1 n2) /\
      Hid (aay (λx=>lt dk[a]! x) dk i' j'=aay (λx=>lt dk[a]! x) dk i' j))
     (λvj _=>(intOf vj).toNat)
    case atStart=>exact⟨j,n1,rfl,aao _,hv,ju,rfl⟩
    case round=>
     clear ju;obtain⟨j',n2,rfl,hc,hy,ju,it⟩:=hrel;have d0:wr.cell? ⟨W.heap.size,0,none⟩=some (.func (.func g) #[] lb):=by rw[ju];exact c0 n2
     have d1:∀q,(later wr q).cell? ⟨W.heap.size,1,none⟩=some (.func (.func sf) #[] sb):=λq=>by rw[ju,Gb];exact c1 _
     have hn:SWK enc k W blk off dk wr:=by rw[ju];exact hm n2
     have HW2:Hid (wr=(later W1 n2)):=ju;clear ju;by_cases hle2:i'<=j'
     .exfalso;omega
     ·
      have hz:Hid (j'=aay (λx=>lt dk[a]! x) dk i' j):=(aaW (λx=>lt dk[a]! x) dk i' j' (aaS hle2)).symm.trans it.out;clear it
      go_wp2
      go_ret
      have e:=partEq_break lt a i j dk hr.out hz.out (by omega);refine⟨?_,n+n2,?_⟩
      .unfold aaE;rw[<-AE.out,e];rfl
      .unfold aaE;rw[<-AE.out,e,HW2.out,AW.out,Gb]
set_option maxHeartbeats 12800000 in
theorem Any.partition_func_cells(L:LaysGg.n33 P ρ)(enc:α->List Value)(k:Nat)(hk:∀x,(enc x).length=k)(lt:α->α->Bool)(g:Nat)(lb:Array Value)(sf:Nat)(sb:Array Value)(blk off a b pivot:Nat)(d:Array α)(W:World)
  (eg:∀args w,(aat g args).run P w=.ok (.enter g args) w) (hless:LessReadsK P g lb enc k lt blk off d.size W) (hswap:aaI P sf sb enc k blk off d.size)
  (hH:HoldsK enc k W blk off d) (hblk:blk<W.heap.size) (hap:a<=pivot) (hpb:pivot<b) (hb:b<=d.size) (hsz:d.size<4611686018427387904) :
  Calls P (ρ.f 33) #[.agg #[.func (.func g) #[] lb,.func (.func sf) #[] sb],.int .i64 a,.int .i64 b,.int .i64 pivot] W λe w'=>
   e=.returned (.tuple #[.int .i64 (aaY lt d a b pivot).1,.bool (aaY lt d a b pivot).2.1])/\∃n,w'=(later (aan enc k (W.alloc (fO g lb sf sb (ρ.t 44))) blk off (aaY lt d a b pivot).2.2) n):=by
 have ⟨mixed,_,t0,a0,z0,v0,_,t3,a3,z3,v3,_,t4,a4,z4,v4,_,t26,a26,z26,v26,_,t37,a37,z37,v37,_,t44,a44,z44,v44,_⟩:=L;have ks:=aaD L.t44;have ju:a<d.size:=by omega
 have jb:pivot<d.size:=by omega
 have hp:HoldsK enc k (W.alloc (fO g lb sf sb (ρ.t 44))) blk off d:=by rw[aas];exact abh enc k W _ blk off d hblk hH
 have kr:∀(dk:Array α) (n:Ln),SWK enc k W blk off dk (later (aan enc k (W.alloc (fO g lb sf sb (ρ.t 44))) blk off dk) n):=λdk n=>by rw[fi enc k W _ blk off n dk hblk];exact⟨_,_,rfl⟩
 have hz:blk<(W.alloc (fO g lb sf sb (ρ.t 44))).heap.size:=by rw[aas,aaR];omega
 have b0:∀(dk:Array α) (n:Ln),(later (aan enc k (W.alloc (fO g lb sf sb (ρ.t 44))) blk off dk) n).cell? ⟨W.heap.size,0,none⟩=some (.func (.func g) #[] lb):=λdk n=>wh (by simp) hblk n;have b1:∀(dk:Array α) (n:Ln),(later (aan enc k (W.alloc (fO g lb sf sb (ρ.t 44))) blk off dk) n).cell? ⟨W.heap.size,1,none⟩=some (.func (.func sf) #[] sb):=λdk n=>wh (by simp) hblk n;obtain⟨i,hi⟩ : ∃i:Nat,i=a+1:=⟨_,rfl⟩;obtain⟨j,hj⟩ : ∃j:Nat,j=b - 1:=⟨_,rfl⟩;obtain⟨dk,ha⟩ : ∃dk:Array α,dk=abg d a pivot:=⟨_,rfl⟩;obtain⟨n,hn⟩ : ∃n:Ln,n=0:=⟨_,rfl⟩;have hs:dk.size=d.size:=by rw[ha];exact aaQ _ _ _
 have hy:a<i:=by omega
 have hg:i<=j+1:=by omega
 have ix:j<b:=by omega
 obtain⟨W1,hv⟩ : ∃W1:World,W1=(((W.alloc (fO g lb sf sb (ρ.t 44)))).setCells blk (off+a*k) (enc d[pivot]!)).setCells blk (off+pivot*k) (enc d[a]!):=⟨_,rfl⟩;have kj:(aat sf (#[.int .i64 a,.int .i64 pivot]++sb)).run P (W.alloc (fO g lb sf sb (ρ.t 44)))=.ok (.value (.tuple #[])) W1:=by rw[hv];exact hswap _ d hp rfl a pivot ju jb
 have hw:W1=(later (aan enc k (W.alloc (fO g lb sf sb (ρ.t 44))) blk off dk) n):=by
  have e:=swap_worldFK enc k hk (W.alloc (fO g lb sf sb (ρ.t 44))) blk off hz d 0 a pivot ju jb;rw[Pe,Pe,abZ _ _ _ blk off d hp]at e;rw[hv,ha,hn,Pe];exact e
 have ht:∀m,SWK enc k W blk off dk (later W1 m):=λm=>by rw[hw];exact Dm (kr dk n) m
 have c0:∀m,(later W1 m).cell? ⟨W.heap.size,0,none⟩=some (.func (.func g) #[] lb):=λm=>by rw[hw,Gb];exact b0 dk _
 have c1:∀m,(later W1 m).cell? ⟨W.heap.size,1,none⟩=some (.func (.func sf) #[] sb):=λm=>by rw[hw,Gb];exact b1 dk _
 have AW:Hid (W1=(later (aan enc k (W.alloc (fO g lb sf sb (ρ.t 44))) blk off dk) n)):=hw;have Hi:Hid (i=a+1):=hi;have Hj:Hid (j=b - 1):=hj;have Hdk:Hid (dk=abg d a pivot):=ha;clear hw hv hp hn hi hj ha
 go_enter L.f33,BodyGg.n33_ntmps ρ
 go_wp2
 rw[show((a:Int)+1)=(i:Int) by have:=Hi.out;omega,show((b:Int) - 1)=(j:Int) by have:=Hj.out;omega]
 go_loopw [10] (λvi w1=>∃(i':Nat) (n1:Ln),vi=.int .i64 i'/\i<=i'/\i'<=j+1/\w1=(later W1 n1) /\
   Hid (aaN (λx=>lt x dk[a]!) dk j i'=aaN (λx=>lt x dk[a]!) dk j i))
  (λvi _=>j+1 - (intOf vi).toNat)
 case atStart=>exact⟨i,0,rfl,aao _,hg,(Pe _).symm,rfl⟩
 case round=>
  obtain⟨i',n1,rfl,hf,ih,kp,kk⟩:=hrel;have d0:wr.cell? ⟨W.heap.size,0,none⟩=some (.func (.func g) #[] lb):=by rw[kp];exact c0 n1
  have hu:SWK enc k W blk off dk wr:=by rw[kp];exact ht n1
  have HW1:Hid (wr=(later W1 n1)):=kp;clear kp;by_cases hle:i'<=j
  .have hl:=ei hu hless hs i' a (by omega) (by omega);clear hu;cases hlv:lt dk[i']! dk[a]! with
   |true=>
    rw[hlv]at hl
    go_wp2_with (go_at_fn g;refine hl.mono ?_;rintro e w' ⟨rfl,nq,rfl⟩)
    go_roundw
    case rel=>exact⟨i'+1,n1+nq,by go_num,by omega,by omega,by rw[HW1.out,Gb],(scanUp_go (λx=>lt x dk[a]!) dk j i' hle hlv).symm.trans kk.out⟩
    case measure=>simp[intOf];omega
   |false=>
    rw[hlv]at hl;have he:Hid (i'=aaN (λx=>lt x dk[a]!) dk j i):=(abJ (λx=>lt x dk[a]!) dk j i' (abq hlv)).symm.trans kk.out
    go_wp2_with (go_at_fn g;refine hl.mono ?_;rintro e w' ⟨rfl,nq,rfl⟩)
    have kq:(later wr nq)=(later W1 (n1+nq)):=by rw[HW1.out,Gb]
    clear d0 HW1 kk
    go_loopw [11] (λvj w2=>∃(j':Nat) (n2:Ln),vj=.int .i64 j'/\j'<=j/\i'<=j'+1/\w2=(later W1 n2) /\
      Hid (aay (λx=>!lt x dk[a]!) dk i' j'=aay (λx=>!lt x dk[a]!) dk i' j))
     (λvj _=>(intOf vj).toNat)
    case atStart=>exact⟨j,n1+nq,rfl,aao _,ih,kq,rfl⟩
    case round=>
     clear kq;obtain⟨j',n2,rfl,ie,io,kq,km⟩:=hrel;have d0:wr.cell? ⟨W.heap.size,0,none⟩=some (.func (.func g) #[] lb):=by rw[kq];exact c0 n2
     have d1:∀q,(later wr q).cell? ⟨W.heap.size,1,none⟩=some (.func (.func sf) #[] sb):=λq=>by rw[kq,Gb];exact c1 _
     have hu:SWK enc k W blk off dk wr:=by rw[kq];exact ht n2
     have HW2:Hid (wr=(later W1 n2)):=kq;clear kq;by_cases hle2:i'<=j'
     .have hl:=ei hu hless hs j' a (by omega) (by omega);cases hlv2:lt dk[j']! dk[a]! with
      |false=>
       rw[hlv2]at hl
       go_wp2_with (go_at_fn g;refine hl.mono ?_;rintro e w' ⟨rfl,nq,rfl⟩)
       go_roundw
       case rel=>exact⟨j' - 1,n2+nq,by go_num,by omega,by omega,by rw[HW2.out,Gb],(scanDown_go (λx=>!lt x dk[a]!) dk i' j' hle2 (by omega) (by simp[hlv2])).symm.trans km.out⟩
       case measure=>simp[intOf];omega
      |true=>
       rw[hlv2]at hl;have it:Hid (j'=aay (λx=>!lt x dk[a]!) dk i' j):=(aaW (λx=>!lt x dk[a]!) dk i' j' (abq (by simp[hlv2]))).symm.trans km.out;have ki:=part_scans_lt lt a i j dk (by omega) he.out it.out hle2;obtain⟨Ek,ho⟩ : ∃Ek:Nat->List Value,∀t,Ek t=enc dk[t]!:=⟨λt=>enc dk[t]!,λ_=>rfl⟩
       have kn:∀q,(aat sf (#[.int .i64 i',.int .i64 j']++sb)).run P (later wr q)=.ok (.value (.tuple #[])) (((later wr q).setCells blk (off+i'*k) (Ek j')).setCells blk (off+j'*k) (Ek i')):=λq=>by
        rw[ho,ho];exact hswap (later wr q) dk ((Dm hu q).holds hblk hH hs) hs i' j' (by omega) (by omega)
       have AK:Hid (∀t,Ek t=enc dk[t]!):=ho;clear ho km hu
       go_wp2_with (go_at_fn g;refine hl.mono ?_;rintro e w' ⟨rfl,nq,rfl⟩)
       rw[decide_eq_false (show ¬ j'<i' by omega)];obtain⟨I0,hq⟩ : ∃I0:Nat,I0=i'+1:=⟨_,rfl⟩;obtain⟨J0,hr⟩ : ∃J0:Nat,J0=j' - 1:=⟨_,rfl⟩;obtain⟨D0,hm⟩ : ∃D0:Array α,D0=abg dk i' j':=⟨_,rfl⟩
       have PF:Hid (aaY lt d a b pivot=((abc lt a I0 J0 D0).1,false,abg (abc lt a I0 J0 D0).2 (abc lt a I0 J0 D0).1 a)):=by
        rw[hq,hr,hm];exact part_first_go lt d a b pivot Hi.out Hj.out Hdk.out he.out it.out (by omega)
       go_loopw [10,11] (λvi vj wr=>∃(i j:Nat) (n:Ln) (dk:Array α),vi=.int .i64 i/\vj=.int .i64 j/\a<i/\i<=j+1/\j<b/\dk.size=d.size/\wr=(later (aan enc k (W.alloc (fO g lb sf sb (ρ.t 44))) blk off dk) n) /\
         abc lt a i j dk=abc lt a I0 J0 D0)
        (λvi vj _=>(intOf vj).toNat+1 - (intOf vi).toNat)
       case atStart=>
        refine⟨i'+1,j' - 1,n+(n2+nq),abg dk i' j',by go_num,by go_num,by omega,by omega,by omega,by rw[aaQ];exact hs,?_,by rw[hq,hr,hm]⟩;rw[HW2.out,AW.out,Gb,Gb,AK.out i',AK.out j'];exact swap_worldFK enc k hk _ blk off hz dk _ i' j' (by omega) (by omega)
       case round=>
        clear hq hr hm kn AK HW2 it he ki d0 d1 hl c0 c1 ht AW Hi Hj Hdk hs;obtain⟨i,j,n,dk,rfl,rfl,hy,hg,ix,hs,hw,hc⟩:=hrel
        rename World=>W1
        have ht:∀m,SWK enc k W blk off dk (later W1 m):=λm=>by rw[hw];exact Dm (kr dk n) m
        have c0:∀m,(later W1 m).cell? ⟨W.heap.size,0,none⟩=some (.func (.func g) #[] lb):=λm=>by rw[hw,Gb];exact b0 dk _
        have c1:∀m,(later W1 m).cell? ⟨W.heap.size,1,none⟩=some (.func (.func sf) #[] sb):=λm=>by rw[hw,Gb];exact b1 dk _
        have AW:Hid (W1=(later (aan enc k (W.alloc (fO g lb sf sb (ρ.t 44))) blk off dk) n)):=hw;have AE:Hid (abc lt a i j dk=abc lt a I0 J0 D0):=hc;clear hw hc
        go_wp2
        go_loopw [10] (λvi w1=>∃(i':Nat) (n1:Ln),vi=.int .i64 i'/\i<=i'/\i'<=j+1/\w1=(later W1 n1) /\
          Hid (aaN (λx=>lt x dk[a]!) dk j i'=aaN (λx=>lt x dk[a]!) dk j i))
         (λvi _=>j+1 - (intOf vi).toNat)
        case atStart=>exact⟨i,0,rfl,aao _,hg,(Pe _).symm,rfl⟩
        case round=>
         obtain⟨i',n1,rfl,hf,ih,kp,kk⟩:=hrel;have d0:wr.cell? ⟨W.heap.size,0,none⟩=some (.func (.func g) #[] lb):=by rw[kp];exact c0 n1
         have hu:SWK enc k W blk off dk wr:=by rw[kp];exact ht n1
         have HW1:Hid (wr=(later W1 n1)):=kp;clear kp;by_cases hle:i'<=j
         .have hl:=ei hu hless hs i' a (by omega) (by omega);clear hu;cases hlv:lt dk[i']! dk[a]! with
          |true=>
           rw[hlv]at hl
           go_wp2_with (go_at_fn g;refine hl.mono ?_;rintro e w' ⟨rfl,nq,rfl⟩)
           go_roundw
           case rel=>exact⟨i'+1,n1+nq,by go_num,by omega,by omega,by rw[HW1.out,Gb],(scanUp_go (λx=>lt x dk[a]!) dk j i' hle hlv).symm.trans kk.out⟩
           case measure=>simp[intOf];omega
          |false=>
           rw[hlv]at hl;have he:Hid (i'=aaN (λx=>lt x dk[a]!) dk j i):=(abJ (λx=>lt x dk[a]!) dk j i' (abq hlv)).symm.trans kk.out
           go_wp2_with (go_at_fn g;refine hl.mono ?_;rintro e w' ⟨rfl,nq,rfl⟩)
           have kq:(later wr nq)=(later W1 (n1+nq)):=by rw[HW1.out,Gb]
           clear d0 HW1 kk
           go_loopw [11] (λvj w2=>∃(j':Nat) (n2:Ln),vj=.int .i64 j'/\j'<=j/\i'<=j'+1/\w2=(later W1 n2) /\
             Hid (aay (λx=>!lt x dk[a]!) dk i' j'=aay (λx=>!lt x dk[a]!) dk i' j))
            (λvj _=>(intOf vj).toNat)
           case atStart=>exact⟨j,n1+nq,rfl,aao _,ih,kq,rfl⟩
           case round=>
            clear kq;obtain⟨j',n2,rfl,ie,io,kq,km⟩:=hrel;have d0:wr.cell? ⟨W.heap.size,0,none⟩=some (.func (.func g) #[] lb):=by rw[kq];exact c0 n2
            have d1:∀q,(later wr q).cell? ⟨W.heap.size,1,none⟩=some (.func (.func sf) #[] sb):=λq=>by rw[kq,Gb];exact c1 _
            have hu:SWK enc k W blk off dk wr:=by rw[kq];exact ht n2
            have HW2:Hid (wr=(later W1 n2)):=kq;clear kq;by_cases hle2:i'<=j'
            .have hl:=ei hu hless hs j' a (by omega) (by omega);cases hlv2:lt dk[j']! dk[a]! with
             |false=>
              rw[hlv2]at hl
              go_wp2_with (go_at_fn g;refine hl.mono ?_;rintro e w' ⟨rfl,nq,rfl⟩)
              go_roundw
              case rel=>exact⟨j' - 1,n2+nq,by go_num,by omega,by omega,by rw[HW2.out,Gb],(scanDown_go (λx=>!lt x dk[a]!) dk i' j' hle2 (by omega) (by simp[hlv2])).symm.trans km.out⟩
              case measure=>simp[intOf];omega
             |true=>
              rw[hlv2]at hl;have it:Hid (j'=aay (λx=>!lt x dk[a]!) dk i' j):=(aaW (λx=>!lt x dk[a]!) dk i' j' (abq (by simp[hlv2]))).symm.trans km.out;have ki:=part_scans_lt lt a i j dk (by omega) he.out it.out hle2;obtain⟨Ek,ho⟩ : ∃Ek:Nat->List Value,∀t,Ek t=enc dk[t]!:=⟨λt=>enc dk[t]!,λ_=>rfl⟩
              have kn:∀q,(aat sf (#[.int .i64 i',.int .i64 j']++sb)).run P (later wr q)=.ok (.value (.tuple #[])) (((later wr q).setCells blk (off+i'*k) (Ek j')).setCells blk (off+j'*k) (Ek i')):=λq=>by
               rw[ho,ho];exact hswap (later wr q) dk ((Dm hu q).holds hblk hH hs) hs i' j' (by omega) (by omega)
              have AK:Hid (∀t,Ek t=enc dk[t]!):=ho;clear ho km hu
              go_wp2_with (go_at_fn g;refine hl.mono ?_;rintro e w' ⟨rfl,nq,rfl⟩)
              go_roundw
              case rel=>
               refine⟨i'+1,j' - 1,n+(n2+nq),abg dk i' j',by go_num,by go_num,by omega,by omega,by omega,by rw[aaQ];exact hs,?_,?_⟩
               .rw[HW2.out,AW.out,Gb,Gb,AK.out i',AK.out j'];exact swap_worldFK enc k hk _ blk off hz dk _ i' j' (by omega) (by omega)
               .rw[<-AE.out];exact(part_go lt a i j dk he.out it.out (by omega)).symm
              case measure=>simp[intOf];omega
            ·
             have it:Hid (j'=aay (λx=>!lt x dk[a]!) dk i' j):=(aaW (λx=>!lt x dk[a]!) dk i' j' (aaS hle2)).symm.trans km.out;obtain⟨Ek,ho⟩ : ∃Ek:Nat->List Value,∀t,Ek t=enc dk[t]!:=⟨λt=>enc dk[t]!,λ_=>rfl⟩
             have kn:(aat sf (#[.int .i64 j',.int .i64 a]++sb)).run P wr=.ok (.value (.tuple #[])) ((wr.setCells blk (off+j'*k) (Ek a)).setCells blk (off+a*k) (Ek j')):=by
              rw[ho,ho];exact hswap wr dk (hu.holds hblk hH hs) hs j' a (by omega) (by omega)
             have hh:wr.cell? ⟨W.heap.size,1,none⟩=some (.func (.func sf) #[] sb):=(by have h0:=d1 0;rwa [Pe]at h0);have AK:Hid (∀t,Ek t=enc dk[t]!):=ho;clear ho km hu
             go_wp2
             go_ret2
             have e:=part_break lt a i j dk he.out it.out (by omega);rw[PF.out,<-AE.out,e];refine⟨rfl,n+n2,?_⟩;rw[HW2.out,AW.out,Gb,AK.out j',AK.out a];exact swap_worldFK enc k hk _ blk off hz dk _ j' a (by omega) (by omega)
         ·
          clear hu;have he:Hid (i'=aaN (λx=>lt x dk[a]!) dk j i):=(abJ (λx=>lt x dk[a]!) dk j i' (aaS hle)).symm.trans kk.out
          go_wp2
          have kq:wr=(later W1 (n1)):=by exact HW1.out
          clear d0 HW1 kk
          go_loopw [11] (λvj w2=>∃(j':Nat) (n2:Ln),vj=.int .i64 j'/\j'<=j/\i'<=j'+1/\w2=(later W1 n2) /\
            Hid (aay (λx=>!lt x dk[a]!) dk i' j'=aay (λx=>!lt x dk[a]!) dk i' j))
           (λvj _=>(intOf vj).toNat)
          case atStart=>exact⟨j,n1,rfl,aao _,ih,kq,rfl⟩
          case round=>
           clear kq;obtain⟨j',n2,rfl,ie,io,kq,km⟩:=hrel;have d0:wr.cell? ⟨W.heap.size,0,none⟩=some (.func (.func g) #[] lb):=by rw[kq];exact c0 n2
           have d1:∀q,(later wr q).cell? ⟨W.heap.size,1,none⟩=some (.func (.func sf) #[] sb):=λq=>by rw[kq,Gb];exact c1 _
           have hu:SWK enc k W blk off dk wr:=by rw[kq];exact ht n2
           have HW2:Hid (wr=(later W1 n2)):=kq;clear kq;by_cases hle2:i'<=j'
           .exfalso;omega
           ·
            have it:Hid (j'=aay (λx=>!lt x dk[a]!) dk i' j):=(aaW (λx=>!lt x dk[a]!) dk i' j' (aaS hle2)).symm.trans km.out;obtain⟨Ek,ho⟩ : ∃Ek:Nat->List Value,∀t,Ek t=enc dk[t]!:=⟨λt=>enc dk[t]!,λ_=>rfl⟩
            have kn:(aat sf (#[.int .i64 j',.int .i64 a]++sb)).run P wr=.ok (.value (.tuple #[])) ((wr.setCells blk (off+j'*k) (Ek a)).setCells blk (off+a*k) (Ek j')):=by
             rw[ho,ho];exact hswap wr dk (hu.holds hblk hH hs) hs j' a (by omega) (by omega)
            have hh:wr.cell? ⟨W.heap.size,1,none⟩=some (.func (.func sf) #[] sb):=(by have h0:=d1 0;rwa [Pe]at h0);have AK:Hid (∀t,Ek t=enc dk[t]!):=ho;clear ho km hu
            go_wp2
            go_ret2
            have e:=part_break lt a i j dk he.out it.out (by omega);rw[PF.out,<-AE.out,e];refine⟨rfl,n+n2,?_⟩;rw[HW2.out,AW.out,Gb,AK.out j',AK.out a];exact swap_worldFK enc k hk _ blk off hz dk _ j' a (by omega) (by omega)
     ·
      have it:Hid (j'=aay (λx=>!lt x dk[a]!) dk i' j):=(aaW (λx=>!lt x dk[a]!) dk i' j' (aaS hle2)).symm.trans km.out;obtain⟨Ek,ho⟩ : ∃Ek:Nat->List Value,∀t,Ek t=enc dk[t]!:=⟨λt=>enc dk[t]!,λ_=>rfl⟩
      have kn:(aat sf (#[.int .i64 j',.int .i64 a]++sb)).run P wr=.ok (.value (.tuple #[])) ((wr.setCells blk (off+j'*k) (Ek a)).setCells blk (off+a*k) (Ek j')):=by
       rw[ho,ho];exact hswap wr dk (hu.holds hblk hH hs) hs j' a (by omega) (by omega)
      have hh:wr.cell? ⟨W.heap.size,1,none⟩=some (.func (.func sf) #[] sb):=(by have h0:=d1 0;rwa [Pe]at h0);have AK:Hid (∀t,Ek t=enc dk[t]!):=ho;clear ho km hu
      go_wp2
      go_ret2
      have e:=part_first_break lt d a b pivot Hi.out Hj.out Hdk.out he.out it.out (by omega);rw[e];refine⟨rfl,n+n2,?_⟩;rw[HW2.out,AW.out,Gb,AK.out j',AK.out a];exact swap_worldFK enc k hk _ blk off hz dk _ j' a (by omega) (by omega)
  ·
   clear hu;have he:Hid (i'=aaN (λx=>lt x dk[a]!) dk j i):=(abJ (λx=>lt x dk[a]!) dk j i' (aaS hle)).symm.trans kk.out
   go_wp2
   have kq:wr=(later W1 (n1)):=by exact HW1.out
   clear d0 HW1 kk
   go_loopw [11] (λvj w2=>∃(j':Nat) (n2:Ln),vj=.int .i64 j'/\j'<=j/\i'<=j'+1/\w2=(later W1 n2) /\
     Hid (aay (λx=>!lt x dk[a]!) dk i' j'=aay (λx=>!lt x dk[a]!) dk i' j))
    (λvj _=>(intOf vj).toNat)
   case atStart=>exact⟨j,n1,rfl,aao _,ih,kq,rfl⟩
   case round=>
    clear kq;obtain⟨j',n2,rfl,ie,io,kq,km⟩:=hrel;have d0:wr.cell? ⟨W.heap.size,0,none⟩=some (.func (.func g) #[] lb):=by rw[kq];exact c0 n2
    have d1:∀q,(later wr q).cell? ⟨W.heap.size,1,none⟩=some (.func (.func sf) #[] sb):=λq=>by rw[kq,Gb];exact c1 _
    have hu:SWK enc k W blk off dk wr:=by rw[kq];exact ht n2
    have HW2:Hid (wr=(later W1 n2)):=kq;clear kq;by_cases hle2:i'<=j'
    .exfalso;omega
    ·
     have it:Hid (j'=aay (λx=>!lt x dk[a]!) dk i' j):=(aaW (λx=>!lt x dk[a]!) dk i' j' (aaS hle2)).symm.trans km.out;obtain⟨Ek,ho⟩ : ∃Ek:Nat->List Value,∀t,Ek t=enc dk[t]!:=⟨λt=>enc dk[t]!,λ_=>rfl⟩
     have kn:(aat sf (#[.int .i64 j',.int .i64 a]++sb)).run P wr=.ok (.value (.tuple #[])) ((wr.setCells blk (off+j'*k) (Ek a)).setCells blk (off+a*k) (Ek j')):=by
      rw[ho,ho];exact hswap wr dk (hu.holds hblk hH hs) hs j' a (by omega) (by omega)
     have hh:wr.cell? ⟨W.heap.size,1,none⟩=some (.func (.func sf) #[] sb):=(by have h0:=d1 0;rwa [Pe]at h0);have AK:Hid (∀t,Ek t=enc dk[t]!):=ho;clear ho km hu
     go_wp2
     go_ret2
     have e:=part_first_break lt d a b pivot Hi.out Hj.out Hdk.out he.out it.out (by omega);rw[e];refine⟨rfl,n+n2,?_⟩;rw[HW2.out,AW.out,Gb,AK.out j',AK.out a];exact swap_worldFK enc k hk _ blk off hz dk _ j' a (by omega) (by omega)
theorem Any.partitionEqual_func_cells_w(L:LaysGg.n32 P ρ)(enc:α->List Value)(k:Nat)(hk:∀x,(enc x).length=k)(lt:α->α->Bool)(g:Nat)(lb:Array Value)(sf:Nat)(sb:Array Value)(blk off a b pivot:Nat)(d:Array α)(W:World)
  (eg:∀args w,(aat g args).run P w=.ok (.enter g args) w) (hless:LessReadsK P g lb enc k lt blk off d.size W) (hswap:aaI P sf sb enc k blk off d.size)
  (hH:HoldsK enc k W blk off d) (hblk:blk<W.heap.size) (hap:a<=pivot) (hpb:pivot<b) (hb:b<=d.size) (hsz:d.size<4611686018427387904) :
  Calls P (ρ.f 32) #[.agg #[.func (.func g) #[] lb,.func (.func sf) #[] sb],.int .i64 a,.int .i64 b,.int .i64 pivot] W λe w'=>e=.returned (.int .i64 (aaE lt d a b pivot).1)/\∃n os,w'=aaB enc k W blk off n (aaE lt d a b pivot).2 os:=(Any.partitionEqual_func_cells L enc k hk lt g lb sf sb blk off a b pivot d W eg hless hswap hH hblk hap hpb hb hsz).mono λ_ _ ⟨he,n,hw⟩=>⟨he,n.n,_,hw.trans (fi enc k W _ blk off n _ hblk)⟩
theorem Any.partition_func_cells_w(L:LaysGg.n33 P ρ)(enc:α->List Value)(k:Nat)(hk:∀x,(enc x).length=k)(lt:α->α->Bool)(g:Nat)(lb:Array Value)(sf:Nat)(sb:Array Value)(blk off a b pivot:Nat)(d:Array α)(W:World)
  (eg:∀args w,(aat g args).run P w=.ok (.enter g args) w) (hless:LessReadsK P g lb enc k lt blk off d.size W) (hswap:aaI P sf sb enc k blk off d.size)
  (hH:HoldsK enc k W blk off d) (hblk:blk<W.heap.size) (hap:a<=pivot) (hpb:pivot<b) (hb:b<=d.size) (hsz:d.size<4611686018427387904) :
  Calls P (ρ.f 33) #[.agg #[.func (.func g) #[] lb,.func (.func sf) #[] sb],.int .i64 a,.int .i64 b,.int .i64 pivot] W λe w'=>e=.returned (.tuple #[.int .i64 (aaY lt d a b pivot).1,.bool (aaY lt d a b pivot).2.1])/\∃n os,w'=aaB enc k W blk off n (aaY lt d a b pivot).2.2 os:=(Any.partition_func_cells L enc k hk lt g lb sf sb blk off a b pivot d W eg hless hswap hH hblk hap hpb hb hsz).mono λ_ _ ⟨he,n,hw⟩=>⟨he,n.n,_,hw.trans (fi enc k W _ blk off n _ hblk)⟩
end
section
open Go Go.Shelf Go.RowKit Go.Lib Go.Sort
variable {P:aaK}{ρ:Ren}{α:Type} [Inhabited α]
set_option maxHeartbeats 16000000 in
theorem Any.partialInsertionSort_func_cells(L:LaysGg.n31 P ρ)(enc:α->List Value)(k:Nat)(hk:∀x,(enc x).length=k)(lt:α->α->Bool)(g:Nat)(lb:Array Value)(sf:Nat)(sb:Array Value)(blk off a b:Nat)(d:Array α)(w:World)
  (eg:∀args w,(aat g args).run P w=.ok (.enter g args) w) (hless:LessReadsK P g lb enc k lt blk off d.size w) (hswap:aaI P sf sb enc k blk off d.size)
  (hH:HoldsK enc k w blk off d) (hblk:blk<w.heap.size) (hab:a<b) (hb:b<=d.size) (hsz:d.size<4611686018427387904) :
  Calls P (ρ.f 31) #[.agg #[.func (.func g) #[] lb,.func (.func sf) #[] sb],.int .i64 a,.int .i64 b] w λe w'=>
   e=.returned (.bool (aaz lt d a b).2)/\∃n,w'=(later (aan enc k (w.alloc (fO g lb sf sb (ρ.t 44))) blk off (aaz lt d a b).1) n):=by
 have ⟨mixed,_,t0,a0,z0,v0,_,t3,a3,z3,v3,_,t4,a4,z4,v4,_,t26,a26,z26,v26,_,t37,a37,z37,v37,_,t44,a44,z44,v44,_⟩:=L;have ky:=aaD L.t44;have hi:HoldsK enc k (w.alloc (fO g lb sf sb (ρ.t 44))) blk off d:=by rw[aas];exact abh enc k w _ blk off d hblk hH
 have c0:∀(m:Ln) (X:Array α),(later (aan enc k (w.alloc (fO g lb sf sb (ρ.t 44))) blk off X) m).cell? ⟨w.heap.size,0,none⟩=some (.func (.func g) #[] lb):=λm X=>wh (by simp) hblk m;have c1:∀(m:Ln) (X:Array α),(later (aan enc k (w.alloc (fO g lb sf sb (ρ.t 44))) blk off X) m).cell? ⟨w.heap.size,1,none⟩=some (.func (.func sf) #[] sb):=λm X=>wh (by simp) hblk m;have hp:blk<(w.alloc (fO g lb sf sb (ρ.t 44))).heap.size:=by rw[aas,aaR];omega
 have jb:∀(X:Array α) (j:Nat) (v:Bool),X.size=d.size->1<=j->j<d.size->lt X[j]! X[j - 1]! = v->∀m,Calls P g (#[.int .i64 (j:Int),.int .i64 ((j:Int) - 1)]++lb) (later (aan enc k (w.alloc (fO g lb sf sb (ρ.t 44))) blk off X) m) λe w'=>e=.returned (.bool v)/\∃q,w'=(later (aan enc k (w.alloc (fO g lb sf sb (ρ.t 44))) blk off X) (m+q)):=λX j v hX h1 hj hv m=>by
  have hl:=tX hless (fO g lb sf sb (ρ.t 44)) hblk hX m j (j - 1) hj (by omega);rw[hv,show((j - 1:Nat):Int)=(j:Int) - 1 by omega]at hl;exact hl
 have kn:∀(X:Array α) (j:Nat),X.size=d.size->1<=j->j<d.size->∀m,(aat sf (#[.int .i64 (j:Int),.int .i64 ((j:Int) - 1)]++sb)).run P (later (aan enc k (w.alloc (fO g lb sf sb (ρ.t 44))) blk off X) m)=.ok (.value (.tuple #[])) (later (aan enc k (w.alloc (fO g lb sf sb (ρ.t 44))) blk off (swp X j (j - 1))) m):=λX j hX h1 hj m=>by
  have:=uN hswap hk hi hp rfl hX m j (j - 1) hj (by omega);rw[show((j - 1:Nat):Int)=(j:Int) - 1 by omega]at this;exact this
 have HL:Aside _:=jb;have HS:Aside _:=kn;have HST:Hid ((w.alloc (fO g lb sf sb (ρ.t 44)))=(later (aan enc k (w.alloc (fO g lb sf sb (ρ.t 44))) blk off d) 0)):=vN hi;clear jb kn hless hswap hH hi
 go_enter L.f31,BodyGg.n31_ntmps ρ
 go_wp2
 go_loopg [7,8] 5 (λg1 vi vs wr=>∃(i s:Nat) (n:Ln) (dk:Array α),vi=.int .i64 i/\vs=.int .i64 s/\s<=5/\5 - s<=g1/\a<i/\i<=b/\dk.size=d.size/\wr=(later (aan enc k (w.alloc (fO g lb sf sb (ρ.t 44))) blk off dk) n)/\Hid (partialIns lt a b (5 - s) i dk=partialIns lt a b 5 (a+1) d))
 case atStart=>exact⟨a+1,0,0,d,by go_num,rfl,by omega,by omega,by omega,by omega,rfl,HST.out,rfl⟩
 case round=>
  obtain⟨i,s,n,dk,rfl,rfl,km,hq,hn,hw,kq,rfl,HO⟩:=hrel;by_cases hs:s<5
  .have ks:(s:Int)<5:=by omega
   go_wp2
   go_loopg [7] (b - i) (λg2 vi wr2=>∃(kx:Nat) (m:Ln),vi=.int .i64 kx/\i<=kx/\kx<=b/\b - kx<=g2/\wr2=(later (aan enc k (w.alloc (fO g lb sf sb (ρ.t 44))) blk off dk) m)/\Hid (scanSorted lt dk b kx=scanSorted lt dk b i))
   case atStart=>exact⟨i,n,rfl,aao _,hw,aao _,rfl,rfl⟩
   case round=>
    obtain⟨kx,m,rfl,hy,hg,hr,rfl,HSc⟩:=hrel;by_cases hkb':kx<b
    .have it:(kx:Int)<(b:Int):=by omega
     cases hlv:lt dk[kx]! dk[kx - 1]! with
     |false=>
      have hl:=HL.out dk kx false kq (by omega) (by omega) hlv
      go_wp2_with (go_at_fn g;refine(hl _).mono ?_;rintro e w' ⟨rfl,q,rfl⟩)
      go_roundg (b - (kx+1))
      case measure=>omega
      case rel=>exact⟨kx+1,_,by go_num,by omega,by omega,aao _,rfl,(show Hid _ from by rw[<-HSc.out,scanSorted_go lt dk b kx hkb' hlv];exact rfl)⟩
     |true=>
      have hl:=HL.out dk kx true kq (by omega) (by omega) hlv;have HK:Hid (scanSorted lt dk b i=kx):=by show _=_;rw[<-HSc.out,scanSorted_stop lt dk b kx (abq hlv)]
      have io:((kx:Int) == (b:Int))=false:=beq_eq_false_iff_ne.2 (by omega);by_cases h50:b - a<50
      .have hh:(b:Int) - (a:Int)<50:=by omega
       go_wp2_with (go_at_fn g;refine(hl _).mono ?_;rintro e w' ⟨rfl,q,rfl⟩)
       have hv:aaz lt d a b=(dk,false):=by
        unfold aaz;rw[<-HO.out,pi_short lt a b s i dk hs (by rw[HK.out];omega) h50]
       rw[hv]
       go_ret
       exact⟨rfl,_,rfl⟩
      .have hh:¬ ((b:Int) - (a:Int)<50):=by omega
       have ki:=HS.out dk kx kq (by omega) (by omega);have hm:(swp dk kx (kx - 1)).size=d.size:=by rw[aaQ];exact kq
       by_cases hka:kx - a >= 2
       ·
        have hf:(2:Int)<=(kx:Int) - (a:Int):=by omega
        go_wp2_with (go_at_fn g;refine(hl _).mono ?_;rintro e w' ⟨rfl,q,rfl⟩)
        go_loopg [9] (kx - 1) (λg3 vj wr3=>∃(j:Nat) (m2:Ln) (dj:Array α),vj=.int .i64 j/\j<=kx - 1/\j<=g3/\dj.size=d.size/\wr3=(later (aan enc k (w.alloc (fO g lb sf sb (ρ.t 44))) blk off dj) m2)/\Hid (shiftDown lt j dj=shiftDown lt (kx - 1) (swp dk kx (kx - 1))))
        case atStart=>exact⟨kx - 1,_,(swp dk kx (kx - 1)),by congr 1;omega,aao _,aao _,hm,rfl,rfl⟩
        case round=>
         obtain⟨j,m2,dj,rfl,hc,ht,kp,rfl,HDn⟩:=hrel;by_cases hj1:1<=j
         .have hz:(1:Int)<=(j:Int):=by omega
          cases hlv2:lt dj[j]! dj[j - 1]! with
          |true=>
           have ix:=HL.out dj j true kp hj1 (by omega) hlv2;have kj:=HS.out dj j kp hj1 (by omega)
           go_wp2_with (go_at_fn g;refine(ix _).mono ?_;rintro e w' ⟨rfl,q,rfl⟩)
           go_roundg (j - 1)
           case measure=>omega
           case rel=>exact⟨j - 1,_,swp dj j (j - 1),by congr 1;omega,by omega,aao _,by rw[aaQ];exact kp,rfl,(show Hid _ from by rw[<-HDn.out,shiftDown_go lt j dj hj1 hlv2];exact rfl)⟩
          |false=>
           have ix:=HL.out dj j false kp hj1 (by omega) hlv2;have HD:Hid (acm lt a kx (swp dk kx (kx - 1))=dj):=by show _=_;unfold acm;rw[if_pos hka,<-HDn.out,shiftDown_stop lt j dj (abq hlv2)]
           by_cases hbk:b - kx >= 2
           ·
            have ho:(2:Int)<=(b:Int) - (kx:Int):=by omega
            go_wp2_with (go_at_fn g;refine(ix _).mono ?_;rintro e w' ⟨rfl,q,rfl⟩)
            go_loopg [10] (b - (kx+1)) (λg4 vj wr4=>∃(ju:Nat) (m3:Ln) (du:Array α),vj=.int .i64 ju/\kx+1<=ju/\ju<=b/\b - ju<=g4/\du.size=d.size/\wr4=(later (aan enc k (w.alloc (fO g lb sf sb (ρ.t 44))) blk off du) m3)/\Hid (acn lt b ju du=acn lt b (kx+1) dj))
            case atStart=>exact⟨kx+1,_,dj,by go_num,aao _,by omega,aao _,kp,rfl,rfl⟩
            case round=>
             obtain⟨ju,m3,du,rfl,ih,ha,hu,kr,rfl,HU⟩:=hrel;by_cases hjb':ju<b
             .have he:(ju:Int)<(b:Int):=by omega
              cases hlv3:lt du[ju]! du[ju - 1]! with
              |true=>
               have ie:=HL.out du ju true kr (by omega) (by omega) hlv3;have kk:=HS.out du ju kr (by omega) (by omega)
               go_wp2_with (go_at_fn g;refine(ie _).mono ?_;rintro e w' ⟨rfl,q,rfl⟩)
               go_roundg (b - (ju+1))
               case measure=>omega
               case rel=>exact⟨ju+1,_,swp du ju (ju - 1),by go_num,by omega,by omega,aao _,by rw[aaQ];exact kr,rfl,(show Hid _ from by rw[<-HU.out,shiftUp_go lt b ju du hjb' hlv3];exact rfl)⟩
              |false=>
               have ie:=HL.out du ju false kr (by omega) (by omega) hlv3
               go_wp2_with (go_at_fn g;refine(ie _).mono ?_;rintro e w' ⟨rfl,q,rfl⟩)
               go_roundg (5 - (s+1))
               case measure=>omega
               case rel=>exact⟨kx,s+1,_,du,rfl,by go_num,by omega,aao _,by omega,by omega,kr,rfl,(show Hid _ from by rw[<-HO.out,pi_go lt a b s i kx dk hs HK.out (by omega) h50,HD.out,show fixUp lt b kx dj=du from by unfold fixUp;rw[if_pos hbk,<-HU.out,abr lt b ju du (abq hlv3)]];exact rfl)⟩
             .have he:¬ (ju:Int)<(b:Int):=by omega
              go_wp2
              go_roundg (5 - (s+1))
              case measure=>omega
              case rel=>exact⟨kx,s+1,_,du,rfl,by go_num,by omega,aao _,by omega,by omega,kr,rfl,(show Hid _ from by rw[<-HO.out,pi_go lt a b s i kx dk hs HK.out (by omega) h50,HD.out,show fixUp lt b kx dj=du from by unfold fixUp;rw[if_pos hbk,<-HU.out,abr lt b ju du (aaS hjb')]];exact rfl)⟩
           .have ho:¬ (2:Int)<=(b:Int) - (kx:Int):=by omega
            go_wp2_with (go_at_fn g;refine(ix _).mono ?_;rintro e w' ⟨rfl,q,rfl⟩)
            go_roundg (5 - (s+1))
            case measure=>omega
            case rel=>exact⟨kx,s+1,_,dj,rfl,by go_num,by omega,aao _,by omega,by omega,kp,rfl,(show Hid _ from by rw[<-HO.out,pi_go lt a b s i kx dk hs HK.out (by omega) h50,HD.out,show fixUp lt b kx dj=dj from by unfold fixUp;rw[if_neg hbk]];exact rfl)⟩
         .have hz:¬ (1:Int)<=(j:Int):=by omega
          have HD:Hid (acm lt a kx (swp dk kx (kx - 1))=dj):=by show _=_;unfold acm;rw[if_pos hka,<-HDn.out,shiftDown_stop lt j dj (aaS (by omega))]
          by_cases hbk:b - kx >= 2
          ·
           have ho:(2:Int)<=(b:Int) - (kx:Int):=by omega
           go_wp2
           go_loopg [10] (b - (kx+1)) (λg4 vj wr4=>∃(ju:Nat) (m3:Ln) (du:Array α),vj=.int .i64 ju/\kx+1<=ju/\ju<=b/\b - ju<=g4/\du.size=d.size/\wr4=(later (aan enc k (w.alloc (fO g lb sf sb (ρ.t 44))) blk off du) m3)/\Hid (acn lt b ju du=acn lt b (kx+1) dj))
           case atStart=>exact⟨kx+1,_,dj,by go_num,aao _,by omega,aao _,kp,rfl,rfl⟩
           case round=>
            obtain⟨ju,m3,du,rfl,ih,ha,hu,kr,rfl,HU⟩:=hrel;by_cases hjb':ju<b
            .have he:(ju:Int)<(b:Int):=by omega
             cases hlv3:lt du[ju]! du[ju - 1]! with
             |true=>
              have ie:=HL.out du ju true kr (by omega) (by omega) hlv3;have kk:=HS.out du ju kr (by omega) (by omega)
              go_wp2_with (go_at_fn g;refine(ie _).mono ?_;rintro e w' ⟨rfl,q,rfl⟩)
              go_roundg (b - (ju+1))
              case measure=>omega
              case rel=>exact⟨ju+1,_,swp du ju (ju - 1),by go_num,by omega,by omega,aao _,by rw[aaQ];exact kr,rfl,(show Hid _ from by rw[<-HU.out,shiftUp_go lt b ju du hjb' hlv3];exact rfl)⟩
             |false=>
              have ie:=HL.out du ju false kr (by omega) (by omega) hlv3
              go_wp2_with (go_at_fn g;refine(ie _).mono ?_;rintro e w' ⟨rfl,q,rfl⟩)
              go_roundg (5 - (s+1))
              case measure=>omega
              case rel=>exact⟨kx,s+1,_,du,rfl,by go_num,by omega,aao _,by omega,by omega,kr,rfl,(show Hid _ from by rw[<-HO.out,pi_go lt a b s i kx dk hs HK.out (by omega) h50,HD.out,show fixUp lt b kx dj=du from by unfold fixUp;rw[if_pos hbk,<-HU.out,abr lt b ju du (abq hlv3)]];exact rfl)⟩
            .have he:¬ (ju:Int)<(b:Int):=by omega
             go_wp2
             go_roundg (5 - (s+1))
             case measure=>omega
             case rel=>exact⟨kx,s+1,_,du,rfl,by go_num,by omega,aao _,by omega,by omega,kr,rfl,(show Hid _ from by rw[<-HO.out,pi_go lt a b s i kx dk hs HK.out (by omega) h50,HD.out,show fixUp lt b kx dj=du from by unfold fixUp;rw[if_pos hbk,<-HU.out,abr lt b ju du (aaS hjb')]];exact rfl)⟩
          .have ho:¬ (2:Int)<=(b:Int) - (kx:Int):=by omega
           go_wp2
           go_roundg (5 - (s+1))
           case measure=>omega
           case rel=>exact⟨kx,s+1,_,dj,rfl,by go_num,by omega,aao _,by omega,by omega,kp,rfl,(show Hid _ from by rw[<-HO.out,pi_go lt a b s i kx dk hs HK.out (by omega) h50,HD.out,show fixUp lt b kx dj=dj from by unfold fixUp;rw[if_neg hbk]];exact rfl)⟩
       .have hf:¬ (2:Int)<=(kx:Int) - (a:Int):=by omega
        have HD:Hid (acm lt a kx (swp dk kx (kx - 1))=(swp dk kx (kx - 1))):=by show _=_;unfold acm;rw[if_neg hka]
        by_cases hbk:b - kx >= 2
        ·
         have ho:(2:Int)<=(b:Int) - (kx:Int):=by omega
         go_wp2_with (go_at_fn g;refine(hl _).mono ?_;rintro e w' ⟨rfl,q,rfl⟩)
         go_loopg [10] (b - (kx+1)) (λg4 vj wr4=>∃(ju:Nat) (m3:Ln) (du:Array α),vj=.int .i64 ju/\kx+1<=ju/\ju<=b/\b - ju<=g4/\du.size=d.size/\wr4=(later (aan enc k (w.alloc (fO g lb sf sb (ρ.t 44))) blk off du) m3)/\Hid (acn lt b ju du=acn lt b (kx+1) (swp dk kx (kx - 1))))
         case atStart=>exact⟨kx+1,_,(swp dk kx (kx - 1)),by go_num,aao _,by omega,aao _,hm,rfl,rfl⟩
         case round=>
          obtain⟨ju,m3,du,rfl,ih,ha,hu,kr,rfl,HU⟩:=hrel;by_cases hjb':ju<b
          .have he:(ju:Int)<(b:Int):=by omega
           cases hlv3:lt du[ju]! du[ju - 1]! with
           |true=>
            have ie:=HL.out du ju true kr (by omega) (by omega) hlv3;have kk:=HS.out du ju kr (by omega) (by omega)
            go_wp2_with (go_at_fn g;refine(ie _).mono ?_;rintro e w' ⟨rfl,q,rfl⟩)
            go_roundg (b - (ju+1))
            case measure=>omega
            case rel=>exact⟨ju+1,_,swp du ju (ju - 1),by go_num,by omega,by omega,aao _,by rw[aaQ];exact kr,rfl,(show Hid _ from by rw[<-HU.out,shiftUp_go lt b ju du hjb' hlv3];exact rfl)⟩
           |false=>
            have ie:=HL.out du ju false kr (by omega) (by omega) hlv3
            go_wp2_with (go_at_fn g;refine(ie _).mono ?_;rintro e w' ⟨rfl,q,rfl⟩)
            go_roundg (5 - (s+1))
            case measure=>omega
            case rel=>exact⟨kx,s+1,_,du,rfl,by go_num,by omega,aao _,by omega,by omega,kr,rfl,(show Hid _ from by rw[<-HO.out,pi_go lt a b s i kx dk hs HK.out (by omega) h50,HD.out,show fixUp lt b kx (swp dk kx (kx - 1))=du from by unfold fixUp;rw[if_pos hbk,<-HU.out,abr lt b ju du (abq hlv3)]];exact rfl)⟩
          .have he:¬ (ju:Int)<(b:Int):=by omega
           go_wp2
           go_roundg (5 - (s+1))
           case measure=>omega
           case rel=>exact⟨kx,s+1,_,du,rfl,by go_num,by omega,aao _,by omega,by omega,kr,rfl,(show Hid _ from by rw[<-HO.out,pi_go lt a b s i kx dk hs HK.out (by omega) h50,HD.out,show fixUp lt b kx (swp dk kx (kx - 1))=du from by unfold fixUp;rw[if_pos hbk,<-HU.out,abr lt b ju du (aaS hjb')]];exact rfl)⟩
        ·
         exfalso;omega
    ·
     obtain rfl:kx=b:=by omega
     have it:¬ (kx:Int)<(kx:Int):=by omega
     go_wp2
     have hv:aaz lt d a kx=(dk,true):=by
      unfold aaz;rw[<-HO.out,pi_true lt a kx s i dk hs (by rw[<-HSc.out,scanSorted_stop lt dk kx kx (aaS (by omega))])]
     rw[hv]
     go_ret
     exact⟨rfl,_,rfl⟩
  ·
   obtain rfl:s=5:=by omega
   go_wp2
   have hv:aaz lt d a b=(dk,false):=by
    unfold aaz;rw[<-HO.out,pi_end]
   rw[hv]
   go_ret
   exact⟨rfl,n,rfl⟩
theorem Any.partialInsertionSort_func_cells_w(L:LaysGg.n31 P ρ)(enc:α->List Value)(k:Nat)(hk:∀x,(enc x).length=k)(lt:α->α->Bool)(g:Nat)(lb:Array Value)(sf:Nat)(sb:Array Value)(blk off a b:Nat)(d:Array α)(w:World)
  (eg:∀args w,(aat g args).run P w=.ok (.enter g args) w) (hless:LessReadsK P g lb enc k lt blk off d.size w) (hswap:aaI P sf sb enc k blk off d.size)
  (hH:HoldsK enc k w blk off d) (hblk:blk<w.heap.size) (hab:a<b) (hb:b<=d.size) (hsz:d.size<4611686018427387904) :
  Calls P (ρ.f 31) #[.agg #[.func (.func g) #[] lb,.func (.func sf) #[] sb],.int .i64 a,.int .i64 b] w λe w'=>e=.returned (.bool (aaz lt d a b).2)/\∃n os,w'=aaB enc k w blk off n (aaz lt d a b).1 os:=(Any.partialInsertionSort_func_cells L enc k hk lt g lb sf sb blk off a b d w eg hless hswap hH hblk hab hb hsz).mono λ_ _ ⟨he,n,hw⟩=>⟨he,n.n,_,hw.trans (fi enc k w _ blk off n _ hblk)⟩
end
section
open Go Go.Shelf Go.RowKit Go.Lib Go.Sort
variable {P:aaK}{ρ:Ren}{α:Type} [Inhabited α]
set_option maxHeartbeats 4000000 in
theorem Any.siftDown_func_cells(L:LaysGg.n34 P ρ)(enc:α->List Value)(k:Nat)(hk:∀x,(enc x).length=k)(lt:α->α->Bool)(g:Nat)(lb:Array Value)(sf:Nat)(sb:Array Value)(blk off lo hi first:Nat)(d:Array α)(w:World)
  (eg:∀args w,(aat g args).run P w=.ok (.enter g args) w) (hless:LessReadsK P g lb enc k lt blk off d.size w) (hswap:aaI P sf sb enc k blk off d.size)
  (hH:HoldsK enc k w blk off d) (hblk:blk<w.heap.size) (hlo:lo<=hi) (hb:first+hi<=d.size) (hsz:d.size<4611686018427387904) :
  Calls P (ρ.f 34) #[.agg #[.func (.func g) #[] lb,.func (.func sf) #[] sb],.int .i64 lo,.int .i64 hi,.int .i64 first] w λe w'=>
   e=.returned (.tuple #[])/\∃n,w'=(later (aan enc k (w.alloc (fO g lb sf sb (ρ.t 44))) blk off (abz lt hi first lo d)) n):=by
 have ⟨mixed,_,t0,a0,z0,v0,_,t3,a3,z3,v3,_,t4,a4,z4,v4,_,t26,a26,z26,v26,_,t37,a37,z37,v37,_,t44,a44,z44,v44,_⟩:=L;have hv:=aaD L.t44;have hl:HoldsK enc k (w.alloc (fO g lb sf sb (ρ.t 44))) blk off d:=by rw[aas];exact abh enc k w _ blk off d hblk hH
 have hm:blk<(w.alloc (fO g lb sf sb (ρ.t 44))).heap.size:=by rw[aas,aaR];omega
 go_enter L.f34,BodyGg.n34_ntmps ρ
 go_wp2
 go_loopg [8] (hi - lo) (λkx s8 wr=>∃(root:Nat) (dk:Array α) (n:Ln),s8=.int .i64 root/\root<=hi/\hi - root<=kx/\dk.size=d.size/\wr=(later (aan enc k (w.alloc (fO g lb sf sb (ρ.t 44))) blk off dk) n)/\Hid (abz lt hi first root dk=abz lt hi first lo d))
 case atStart=>exact⟨lo,d,0,rfl,hlo,aao _,rfl,vN hl,rfl⟩
 case round=>
  obtain⟨root,dk,n,rfl,hr,ho,hn,rfl,HE⟩:=hrel;have c0:∀m,(later (aan enc k (w.alloc (fO g lb sf sb (ρ.t 44))) blk off dk) m).cell? ⟨w.heap.size,0,none⟩=some (.func (.func g) #[] lb):=λm=>wh (by simp) hblk m;have c1:∀m,(later (aan enc k (w.alloc (fO g lb sf sb (ρ.t 44))) blk off dk) m).cell? ⟨w.heap.size,1,none⟩=some (.func (.func sf) #[] sb):=λm=>wh (by simp) hblk m;have ht:∀(m:Ln) (i j:Nat),i<d.size->j<d.size->Calls P g (#[.int .i64 i,.int .i64 j]++lb) (later (aan enc k (w.alloc (fO g lb sf sb (ρ.t 44))) blk off dk) m) λe w'=>e=.returned (.bool (lt dk[i]! dk[j]!))/\∃q,w'=(later (aan enc k (w.alloc (fO g lb sf sb (ρ.t 44))) blk off dk) (m+q)):=λm i j hi' hj'=>tX hless (fO g lb sf sb (ρ.t 44)) hblk hn m i j hi' hj';have hu:∀(m:Ln) (i j:Nat),i<d.size->j<d.size->(aat sf (#[.int .i64 i,.int .i64 j]++sb)).run P (later (aan enc k (w.alloc (fO g lb sf sb (ρ.t 44))) blk off dk) m)=.ok (.value (.tuple #[])) (later (aan enc k (w.alloc (fO g lb sf sb (ρ.t 44))) blk off (swp dk i j)) m):=λm i j hi' hj'=>uN hswap hk hl hm rfl hn m i j hi' hj';have HL:Aside _:=ht;have HS:Aside _:=hu;clear ht hu hless hswap hH hl;by_cases h0:hi<=2*root+1
  ·
   have hh:(hi:Int)<=2*(root:Int)+1:=by omega
   go_wp2
   go_end0
   refine⟨rfl,n,?_⟩;rw[<-HE.out,sd_end lt dk h0]
  .have hh:¬ ((hi:Int)<=2*(root:Int)+1):=by omega
   by_cases h1:2*root+2<hi
   ·
    have hj:2*(root:Int)+1+1<(hi:Int):=by omega
    have hp:=HL.out n (first+(2*root+1)) (first+(2*root+2)) (by omega) (by omega);rw[show((first+(2*root+1):Nat):Int)=(first:Int)+(2*(root:Int)+1) by omega,show((first+(2*root+2):Nat):Int)=(first:Int)+(2*(root:Int)+1)+1 by omega]at hp;cases hL:lt dk[first+(2*root+1)]! dk[first+(2*root+2)]! with
    |true=>
     rw[hL]at hp;cases hG:lt dk[first+root]! dk[first+(2*root+2)]! with
     |true=>
      have hq:∀m,Calls P g (#[.int .i64 ((first:Int)+(root:Int)),.int .i64 ((first:Int)+(2*(root:Int)+1+1))]++lb) (later (aan enc k (w.alloc (fO g lb sf sb (ρ.t 44))) blk off dk) m) λe w'=>e=.returned (.bool true)/\∃q,w'=(later (aan enc k (w.alloc (fO g lb sf sb (ρ.t 44))) blk off dk) (m+q)):=λm=>by
       have:=HL.out m (first+root) (first+(2*root+2)) (by omega) (by omega);rw[hG,show((first+root:Nat):Int)=(first:Int)+(root:Int) by omega,show((first+(2*root+2):Nat):Int)=(first:Int)+(2*(root:Int)+1+1) by omega]at this;exact this
      have hs:∀m,(aat sf (#[.int .i64 ((first:Int)+(root:Int)),.int .i64 ((first:Int)+(2*(root:Int)+1+1))]++sb)).run P (later (aan enc k (w.alloc (fO g lb sf sb (ρ.t 44))) blk off dk) m)=.ok (.value (.tuple #[])) (later (aan enc k (w.alloc (fO g lb sf sb (ρ.t 44))) blk off (swp dk (first+root) (first+(2*root+2)))) m):=λm=>by
       have:=HS.out m (first+root) (first+(2*root+2)) (by omega) (by omega);rw[show((first+root:Nat):Int)=(first:Int)+(root:Int) by omega,show((first+(2*root+2):Nat):Int)=(first:Int)+(2*(root:Int)+1+1) by omega]at this;exact this
      clear HL HS
      go_wp2_with (first|(go_at_fn g;refine hp.mono ?_;rintro e w' ⟨rfl,q1,rfl⟩)|(go_at_fn g;refine(hq _).mono ?_;rintro e w' ⟨rfl,q2,rfl⟩))
      go_roundg (hi - (2*root+2))
      case measure=>omega
      case rel=>exact⟨2*root+2,swp dk (first+root) (first+(2*root+2)),_,by go_num,by omega,aao _,by rw[aaQ];exact hn,rfl,(show Hid _ from by rw[<-HE.out,sd_right_go lt dk h1 hL hG];exact rfl)⟩
     |false=>
      have hq:∀m,Calls P g (#[.int .i64 ((first:Int)+(root:Int)),.int .i64 ((first:Int)+(2*(root:Int)+1+1))]++lb) (later (aan enc k (w.alloc (fO g lb sf sb (ρ.t 44))) blk off dk) m) λe w'=>e=.returned (.bool false)/\∃q,w'=(later (aan enc k (w.alloc (fO g lb sf sb (ρ.t 44))) blk off dk) (m+q)):=λm=>by
       have:=HL.out m (first+root) (first+(2*root+2)) (by omega) (by omega);rw[hG,show((first+root:Nat):Int)=(first:Int)+(root:Int) by omega,show((first+(2*root+2):Nat):Int)=(first:Int)+(2*(root:Int)+1+1) by omega]at this;exact this
      clear HL HS
      go_wp2_with (first|(go_at_fn g;refine hp.mono ?_;rintro e w' ⟨rfl,q1,rfl⟩)|(go_at_fn g;refine(hq _).mono ?_;rintro e w' ⟨rfl,q2,rfl⟩))
      (try simp only[aaC,Exit.then]);refine abt (abu rfl _ _ _) rfl ?_
      refine⟨rfl,?_⟩;rw[<-HE.out,sd_right_stop lt dk h1 hL hG];exact⟨_,rfl⟩
    |false=>
     rw[hL]at hp;cases hG:lt dk[first+root]! dk[first+(2*root+1)]! with
     |true=>
      have hq:∀m,Calls P g (#[.int .i64 ((first:Int)+(root:Int)),.int .i64 ((first:Int)+(2*(root:Int)+1))]++lb) (later (aan enc k (w.alloc (fO g lb sf sb (ρ.t 44))) blk off dk) m) λe w'=>e=.returned (.bool true)/\∃q,w'=(later (aan enc k (w.alloc (fO g lb sf sb (ρ.t 44))) blk off dk) (m+q)):=λm=>by
       have:=HL.out m (first+root) (first+(2*root+1)) (by omega) (by omega);rw[hG,show((first+root:Nat):Int)=(first:Int)+(root:Int) by omega,show((first+(2*root+1):Nat):Int)=(first:Int)+(2*(root:Int)+1) by omega]at this;exact this
      have hs:∀m,(aat sf (#[.int .i64 ((first:Int)+(root:Int)),.int .i64 ((first:Int)+(2*(root:Int)+1))]++sb)).run P (later (aan enc k (w.alloc (fO g lb sf sb (ρ.t 44))) blk off dk) m)=.ok (.value (.tuple #[])) (later (aan enc k (w.alloc (fO g lb sf sb (ρ.t 44))) blk off (swp dk (first+root) (first+(2*root+1)))) m):=λm=>by
       have:=HS.out m (first+root) (first+(2*root+1)) (by omega) (by omega);rw[show((first+root:Nat):Int)=(first:Int)+(root:Int) by omega,show((first+(2*root+1):Nat):Int)=(first:Int)+(2*(root:Int)+1) by omega]at this;exact this
      clear HL HS
      go_wp2_with (first|(go_at_fn g;refine hp.mono ?_;rintro e w' ⟨rfl,q1,rfl⟩)|(go_at_fn g;refine(hq _).mono ?_;rintro e w' ⟨rfl,q2,rfl⟩))
      go_roundg (hi - (2*root+1))
      case measure=>omega
      case rel=>exact⟨2*root+1,swp dk (first+root) (first+(2*root+1)),_,by go_num,by omega,aao _,by rw[aaQ];exact hn,rfl,(show Hid _ from by rw[<-HE.out,sd_left_go lt dk (by omega) (λ_=>hL) hG];exact rfl)⟩
     |false=>
      have hq:∀m,Calls P g (#[.int .i64 ((first:Int)+(root:Int)),.int .i64 ((first:Int)+(2*(root:Int)+1))]++lb) (later (aan enc k (w.alloc (fO g lb sf sb (ρ.t 44))) blk off dk) m) λe w'=>e=.returned (.bool false)/\∃q,w'=(later (aan enc k (w.alloc (fO g lb sf sb (ρ.t 44))) blk off dk) (m+q)):=λm=>by
       have:=HL.out m (first+root) (first+(2*root+1)) (by omega) (by omega);rw[hG,show((first+root:Nat):Int)=(first:Int)+(root:Int) by omega,show((first+(2*root+1):Nat):Int)=(first:Int)+(2*(root:Int)+1) by omega]at this;exact this
      clear HL HS
      go_wp2_with (first|(go_at_fn g;refine hp.mono ?_;rintro e w' ⟨rfl,q1,rfl⟩)|(go_at_fn g;refine(hq _).mono ?_;rintro e w' ⟨rfl,q2,rfl⟩))
      (try simp only[aaC,Exit.then]);refine abt (abu rfl _ _ _) rfl ?_
      refine⟨rfl,?_⟩;rw[<-HE.out,sd_left_stop lt dk (by omega) (λ_=>hL) hG];exact⟨_,rfl⟩
   ·
    have hj:¬ (2*(root:Int)+1+1<(hi:Int)):=by omega
    cases hG:lt dk[first+root]! dk[first+(2*root+1)]! with
    |true=>
     have hq:∀m,Calls P g (#[.int .i64 ((first:Int)+(root:Int)),.int .i64 ((first:Int)+(2*(root:Int)+1))]++lb) (later (aan enc k (w.alloc (fO g lb sf sb (ρ.t 44))) blk off dk) m) λe w'=>e=.returned (.bool true)/\∃q,w'=(later (aan enc k (w.alloc (fO g lb sf sb (ρ.t 44))) blk off dk) (m+q)):=λm=>by
      have:=HL.out m (first+root) (first+(2*root+1)) (by omega) (by omega);rw[hG,show((first+root:Nat):Int)=(first:Int)+(root:Int) by omega,show((first+(2*root+1):Nat):Int)=(first:Int)+(2*(root:Int)+1) by omega]at this;exact this
     have hs:∀m,(aat sf (#[.int .i64 ((first:Int)+(root:Int)),.int .i64 ((first:Int)+(2*(root:Int)+1))]++sb)).run P (later (aan enc k (w.alloc (fO g lb sf sb (ρ.t 44))) blk off dk) m)=.ok (.value (.tuple #[])) (later (aan enc k (w.alloc (fO g lb sf sb (ρ.t 44))) blk off (swp dk (first+root) (first+(2*root+1)))) m):=λm=>by
      have:=HS.out m (first+root) (first+(2*root+1)) (by omega) (by omega);rw[show((first+root:Nat):Int)=(first:Int)+(root:Int) by omega,show((first+(2*root+1):Nat):Int)=(first:Int)+(2*(root:Int)+1) by omega]at this;exact this
     clear HL HS
     go_wp2_with (go_at_fn g;refine(hq _).mono ?_;rintro e w' ⟨rfl,q2,rfl⟩)
     go_roundg (hi - (2*root+1))
     case measure=>omega
     case rel=>exact⟨2*root+1,swp dk (first+root) (first+(2*root+1)),_,by go_num,by omega,aao _,by rw[aaQ];exact hn,rfl,(show Hid _ from by rw[<-HE.out,sd_left_go lt dk (by omega) (λh=>absurd h h1) hG];exact rfl)⟩
    |false=>
     have hq:∀m,Calls P g (#[.int .i64 ((first:Int)+(root:Int)),.int .i64 ((first:Int)+(2*(root:Int)+1))]++lb) (later (aan enc k (w.alloc (fO g lb sf sb (ρ.t 44))) blk off dk) m) λe w'=>e=.returned (.bool false)/\∃q,w'=(later (aan enc k (w.alloc (fO g lb sf sb (ρ.t 44))) blk off dk) (m+q)):=λm=>by
      have:=HL.out m (first+root) (first+(2*root+1)) (by omega) (by omega);rw[hG,show((first+root:Nat):Int)=(first:Int)+(root:Int) by omega,show((first+(2*root+1):Nat):Int)=(first:Int)+(2*(root:Int)+1) by omega]at this;exact this
     clear HL HS
     go_wp2_with (go_at_fn g;refine(hq _).mono ?_;rintro e w' ⟨rfl,q2,rfl⟩)
     (try simp only[aaC,Exit.then]);refine abt (abu rfl _ _ _) rfl ?_
     refine⟨rfl,?_⟩;rw[<-HE.out,sd_left_stop lt dk (by omega) (λh=>absurd h h1) hG];exact⟨_,rfl⟩
theorem Any.siftDown_func_cells_w(L:LaysGg.n34 P ρ)(enc:α->List Value)(k:Nat)(hk:∀x,(enc x).length=k)(lt:α->α->Bool)(g:Nat)(lb:Array Value)(sf:Nat)(sb:Array Value)(blk off lo hi first:Nat)(d:Array α)(w:World)
  (eg:∀args w,(aat g args).run P w=.ok (.enter g args) w) (hless:LessReadsK P g lb enc k lt blk off d.size w) (hswap:aaI P sf sb enc k blk off d.size)
  (hH:HoldsK enc k w blk off d) (hblk:blk<w.heap.size) (hlo:lo<=hi) (hb:first+hi<=d.size) (hsz:d.size<4611686018427387904) :
  Calls P (ρ.f 34) #[.agg #[.func (.func g) #[] lb,.func (.func sf) #[] sb],.int .i64 lo,.int .i64 hi,.int .i64 first] w λe w'=>e=.returned (.tuple #[])/\∃n os,w'=aaB enc k w blk off n (abz lt hi first lo d) os:=(Any.siftDown_func_cells L enc k hk lt g lb sf sb blk off lo hi first d w eg hless hswap hH hblk hlo hb hsz).mono λ_ _ ⟨he,n,hw⟩=>⟨he,n.n,_,hw.trans (fi enc k w _ blk off n _ hblk)⟩
set_option maxHeartbeats 4000000 in
theorem Any.heapSort_func_cells_w(L:LaysGg.n27 P ρ)(enc:α->List Value)(k:Nat)(hk:∀x,(enc x).length=k)(lt:α->α->Bool)(g:Nat)(lb:Array Value)(sf:Nat)(sb:Array Value)(blk off a b:Nat)(d:Array α)(w:World)
  (eg:∀args w,(aat g args).run P w=.ok (.enter g args) w) (hless:LessReadsK P g lb enc k lt blk off d.size w) (hswap:aaI P sf sb enc k blk off d.size)
  (hH:HoldsK enc k w blk off d) (hblk:blk<w.heap.size) (hab:a<=b) (hb:b<=d.size) (hsz:d.size<4611686018427387904) :
  Calls P (ρ.f 27) #[.agg #[.func (.func g) #[] lb,.func (.func sf) #[] sb],.int .i64 a,.int .i64 b] w λe w'=>e=.returned (.tuple #[])/\∃n os,w'=aaB enc k w blk off n (heapSort lt d a b) os:=by
 have ⟨mixed,_,_,t0,a0,z0,v0,_,t3,a3,z3,v3,_,t4,a4,z4,v4,_,t26,a26,z26,v26,_,t37,a37,z37,v37,_,t44,a44,z44,v44,_⟩:=L;have hw:=aaD L.t44;have hj:∀args w,(aat (ρ.f 34) args).run P w=.ok (.enter (ρ.f 34) args) w:=aaJ L.f34 (by kernel_rfl) rfl;have hl:((b - a:Nat):Int)=(b:Int) - (a:Int):=by omega
 have hr:w.heap.size≠blk:=by omega
 go_enter L.f27,BodyGg.n27_ntmps ρ
 go_wp2
 go_loopg [9] ((b - a - 1) / 2+1) (λkx s9 wr=>s9=.int .i64 ((kx:Int) - 1)/\kx<=(b - a - 1) / 2+1/\∃(dk:Array α),dk.size=d.size/\Aside (SWK enc k w blk off dk wr)/\wr.cell? ⟨w.heap.size,0,none⟩=some (.func (.func g) #[] lb)/\wr.cell? ⟨w.heap.size,1,none⟩=some (.func (.func sf) #[] sb)/\w.heap.size<wr.heap.size /\
  Hid (heapBuild lt (b - a) a kx dk=heapBuild lt (b - a) a ((b - a - 1) / 2+1) d))
 case atStart=>exact⟨by rw[half_start hab],aao _,d,rfl,(SWK.start hH).alloc _,by simp,by simp,by simp,rfl⟩
 case round=>
  obtain⟨rfl,hq,dk,hp,S,c0,c1,hu,HE⟩:=hrel;cases gk with
  |zero=>
   have hB:dk=heapBuild lt (b - a) a ((b - a - 1) / 2+1) d:=HE.out;clear HE hq
   go_wp2
   go_loopg [10] (b - a) (λkx s10 wr2=>s10=.int .i64 ((kx:Int) - 1)/\kx<=b - a/\∃(dj:Array α),dj.size=d.size/\Aside (SWK enc k w blk off dj wr2)/\wr2.cell? ⟨w.heap.size,0,none⟩=some (.func (.func g) #[] lb)/\wr2.cell? ⟨w.heap.size,1,none⟩=some (.func (.func sf) #[] sb)/\w.heap.size<wr2.heap.size/\Hid (heapPop lt a kx dj=heapPop lt a (b - a) dk))
   case atStart=>exact⟨by rw[hl],aao _,dk,hp,S,c0,c1,hu,rfl⟩
   case round=>
    clear S c0 c1 hu;obtain⟨rfl,hq,dj,ho,S,c0,c1,hu,HE2⟩:=hrel;cases gk with
    |zero=>
     go_wp2
     go_end0
     have e:dj=heapSort lt d a b:=by rw[heapSort,<-hB,<-HE2.out];rfl
     rw[<-e];exact⟨rfl,S.out⟩
    |succ kx=>
     have hs:=hswap wr dj (S.out.holds hblk hH ho) ho a (a+kx) (by omega) (by omega);rw[show((a+kx:Nat):Int)=(a:Int)+(kx:Int) by omega]at hs;have S2:=S.out.swap hk hblk a (a+kx) (by omega) (by omega);have hn:(swp dj a (a+kx)).size=d.size:=by rw[aaQ];exact ho
     have hh:((wr.setCells blk (off+a*k) (enc dj[a+kx]!)).setCells blk (off+(a+kx)*k) (enc dj[a]!)).cell? ⟨w.heap.size,0,none⟩=some (.func (.func g) #[] lb):=by
      rw[aba blk _ _ _ _ (λe _=>absurd e hr),aba blk _ _ _ _ (λe _=>absurd e hr)];exact c0
     have hi:((wr.setCells blk (off+a*k) (enc dj[a+kx]!)).setCells blk (off+(a+kx)*k) (enc dj[a]!)).cell? ⟨w.heap.size,1,none⟩=some (.func (.func sf) #[] sb):=by
      rw[aba blk _ _ _ _ (λe _=>absurd e hr),aba blk _ _ _ _ (λe _=>absurd e hr)];exact c1
     have hv:w.heap.size<((wr.setCells blk (off+a*k) (enc dj[a+kx]!)).setCells blk (off+(a+kx)*k) (enc dj[a]!)).heap.size:=by simpa using hu
     generalize (wr.setCells blk (off+a*k) (enc dj[a+kx]!)).setCells blk (off+(a+kx)*k) (enc dj[a]!)=w2 at hs S2 hh hi hv;have hm:=Any.siftDown_func_cells_w (P:=P) (ρ:=ρ) { L with } enc k hk lt g lb sf sb blk off 0 kx a (swp dj a (a+kx)) w2 eg (by rw[hn];exact tN S2 hless hblk hn) (by rw[hn];exact hswap) (S2.holds hblk hH hn) (S2.lt hblk) (abf _) (by rw[hn];omega) (by rw[hn];exact hsz);have S2':Aside (SWK enc k w blk off (swp dj a (a+kx)) w2):=S2;clear S2 S hless hswap hH
     go_wp2_with (go_at_fn (ρ.f 34);refine hm.mono ?_;rintro e w1 ⟨rfl,m,os,rfl⟩)
     go_roundg kx
     case measure=>omega
     case rel=>
      have ht:(abz lt kx a 0 (swp dj a (a+kx))).size=(swp dj a (a+kx)).size:=size_siftDown lt _ _ _ _ _ (aao _)
      exact⟨by simp,by omega,abz lt kx a 0 (swp dj a (a+kx)),by rw[ht,hn],S2'.out.on hblk m _ os ht,
       by rw[abi enc k w2 blk off m _ os _ hr hv];exact hh,by rw[abi enc k w2 blk off m _ os _ hr hv];exact hi,
       aaU hv (SWK.le (⟨m,os,rfl⟩ : SWK enc k w2 blk off _ _)),HE2⟩
  |succ kx=>
   have hm:=Any.siftDown_func_cells_w (P:=P) (ρ:=ρ) { L with } enc k hk lt g lb sf sb blk off kx (b - a) a dk wr eg (by rw[hp];exact tN S.out hless hblk hp) (by rw[hp];exact hswap) (S.out.holds hblk hH hp) (S.out.lt hblk) (by omega) (by omega) (by omega);rw[hl]at hm;clear hless hswap hH
   go_wp2_with (go_at_fn (ρ.f 34);refine hm.mono ?_;rintro e w1 ⟨rfl,m,os,rfl⟩)
   go_roundg kx
   case measure=>omega
   case rel=>
    have ht:(abz lt (b - a) a kx dk).size=dk.size:=size_siftDown lt _ _ _ _ _ (aao _)
    exact⟨by simp,by omega,abz lt (b - a) a kx dk,by rw[ht,hp],S.out.on hblk m _ os ht,
     by rw[abi enc k wr blk off m _ os _ hr hu];exact c0,by rw[abi enc k wr blk off m _ os _ hr hu];exact c1,
     aaU hu (SWK.le (⟨m,os,rfl⟩ : SWK enc k wr blk off _ _)),HE⟩
end
section
open Go Go.Shelf Go.RowKit Go.Lib Go.Sort
variable {P:aaK}{ρ:Ren}{α:Type} [Inhabited α]
set_option maxHeartbeats 12800000 in
theorem Any.pdqsort_func_cells_all(L:LaysGg.n14 P ρ)(enc:α->List Value)(k:Nat)(hk:∀x,(enc x).length=k)(lt:α->α->Bool)(hO:SWO lt)(g:Nat)(lb:Array Value)(sf:Nat)(sb:Array Value)(eg:∀args w,(aat g args).run P w=.ok (.enter g args) w) :
  ∀(N blk off a b limit:Nat) (d:Array α) (w:World),b - a<N->LessReadsK P g lb enc k lt blk off d.size w->aaI P sf sb enc k blk off d.size->HoldsK enc k w blk off d->blk<w.heap.size->a<=b->b<=d.size->d.size<4611686018427387904->limit<4611686018427387904->Below lt a b d ->
  Calls P (ρ.f 14) #[.agg #[.func (.func g) #[] lb,.func (.func sf) #[] sb],.int .i64 a,.int .i64 b,.int .i64 limit] w λe w'=>e=.returned (.tuple #[])/\AtK enc k w blk off (pdq lt d a b limit true true) w':=by
 have ⟨mixed,_,_,_,_,_,_,_,_,_,_,_,_,_,_,_,_,_,_,t0,a0,z0,v0,_,t3,a3,z3,v3,_,t4,a4,z4,v4,_,t5,a5,z5,v5,_,t9,a9,z9,v9,_,t26,a26,z26,v26,_,t37,a37,z37,v37,_,t41,a41,z41,v41,_,t44,a44,z44,v44,_,t49,a49,z49,v49,_,t51,a51,z51,v51,_,t53,a53,z53,v53,_,t54,a54,z54,v54,_,t58,a58,z58,v58,_,t60,a60,z60,v60,_,t64,a64,z64,v64,_,t66,a66,z66,v66,_,t67,a67,z67,v67,_⟩:=L;have sx:=aaD L.t44;have hi:∀args w,(aat (ρ.f 26) args).run P w=.ok (.enter (ρ.f 26) args) w:=aaJ L.f26 (by kernel_rfl) rfl;have hj:∀args w,(aat (ρ.f 27) args).run P w=.ok (.enter (ρ.f 27) args) w:=aaJ L.f27 (by kernel_rfl) rfl;have hm:∀args w,(aat (ρ.f 28) args).run P w=.ok (.enter (ρ.f 28) args) w:=aaJ L.f28 (by kernel_rfl) rfl;have hn:∀args w,(aat (ρ.f 29) args).run P w=.ok (.enter (ρ.f 29) args) w:=aaJ L.f29 (by kernel_rfl) rfl;have ho:∀args w,(aat (ρ.f 30) args).run P w=.ok (.enter (ρ.f 30) args) w:=aaJ L.f30 (by kernel_rfl) rfl;have hp:∀args w,(aat (ρ.f 31) args).run P w=.ok (.enter (ρ.f 31) args) w:=aaJ L.f31 (by kernel_rfl) rfl;have hq:∀args w,(aat (ρ.f 32) args).run P w=.ok (.enter (ρ.f 32) args) w:=aaJ L.f32 (by kernel_rfl) rfl;have hr:∀args w,(aat (ρ.f 33) args).run P w=.ok (.enter (ρ.f 33) args) w:=aaJ L.f33 (by kernel_rfl) rfl;have e14:∀args w,(aat (ρ.f 14) args).run P w=.ok (.enter (ρ.f 14) args) w:=aaJ L.f14 (by kernel_rfl) rfl;intro N
 induction N with
 |zero=>intro _ _ _ _ _ _ _ h;exact absurd h (Nat.not_lt_zero _)
 |succ N ih=>
  intro blk off a b limit d w hN hL hS hH mp lo hb hsz qa ju;have qb:w.heap.size≠blk:=by omega
  have LR:∀ {D:Array α}{X:World},AtK enc k w blk off D X->D.size=d.size->LessReadsK P g lb enc k lt blk off D.size X:=λ{D X} hA hs=>by rw[hs];exact tN (show SWK enc k w blk off D X from hA) hL mp hs
  have SR:∀ {D:Array α},D.size=d.size->aaI P sf sb enc k blk off D.size:=λ{D} hs=>by rw[hs];exact hS
  go_enter L.f14,BodyGg.n14_ntmps ρ
  go_wp2
  go_loopg [1,2,3,8,9] (b - a) (λkx s1 s2 s3 s8 s9 wr=>∃(a' b' lim:Nat) (wb wp:Bool) (dk:Array α),s1=.int .i64 a'/\s2=.int .i64 b'/\s3=.int .i64 lim/\s8=.bool wb/\s9=.bool wp /\
   a'<=b'/\b'<=d.size/\b' - a'<=kx/\kx<=b - a/\lim<=limit/\dk.size=d.size/\Below lt a' b' dk/\AtK enc k w blk off dk wr/\BxK w.heap.size (.func (.func g) #[] lb) (.func (.func sf) #[] sb) wr/\pdq lt dk a' b' lim wb wp=pdq lt d a b limit true true)
  case atStart=>exact⟨a,b,limit,true,true,d,rfl,rfl,rfl,rfl,rfl,lo,hb,aao _,aao _,aao _,rfl,ju,(SWK.start hH).alloc _,⟨by simp,by simp,by simp⟩,rfl⟩
  case round=>
   obtain⟨a',b',lim,wb,wp,dk,rfl,rfl,rfl,rfl,rfl,lp,lx,pz,py,pf,pt,ie,ha,jb,pv⟩:=hrel;obtain⟨kc,mt⟩:=ha.holds hH pt mp;obtain⟨x0,x1,_⟩:=jb;have A:Aside (pdq lt dk a' b' lim wb wp=pdq lt d a b limit true true):=pv;clear pv;by_cases h12:b' - a'<=12
   ·
    have hw:(b':Int) - (a':Int)<=12:=by omega
    have hc:=Any.insertionSort_func_cells_w (P:=P) (ρ:=ρ) { L with } enc k hk lt g lb sf sb blk off a' b' dk wr eg (LR ha pt) (SR pt) kc mt lp (by omega) (by omega)
    go_wp2_with (go_at_fn (ρ.f 26);refine hc.mono ?_;rintro e w1 ⟨rfl,sh⟩)
    (try simp only[aaC,Exit.then]);refine abt (abu rfl _ _ _) rfl ?_
    refine⟨rfl,?_⟩;rw[<-A.out,pdq_small h12];exact ha.stepG mp (insertionSort_holds hO dk a' b' lp (by omega)).1.1 sh
   .have hw:¬ ((b':Int) - (a':Int)<=12):=by omega
    by_cases hl0:lim=0
    ·
     subst hl0;have hc:=Any.heapSort_func_cells_w (P:=P) (ρ:=ρ) { L with } enc k hk lt g lb sf sb blk off a' b' dk wr eg (LR ha pt) (SR pt) kc mt lp (by omega) (by omega)
     go_wp2_with (go_at_fn (ρ.f 27);refine hc.mono ?_;rintro e w1 ⟨rfl,sh⟩)
     (try simp only[aaC,Exit.then]);refine abt (abu rfl _ _ _) rfl ?_
     refine⟨rfl,?_⟩;rw[<-A.out,pdq_heap h12 rfl];exact ha.stepG mp (heapSort_holds hO dk a' b' lp (by omega)).1.1 sh
    .have pa:¬ ((lim:Int)=0):=by omega
     obtain⟨s1,B1,ou,s2,B2,rc,s3,B3⟩:=rd_facts (lt:=lt) (limit:=lim) (wb:=wb) (wp:=wp) hO partialInsertionSort_holds reverseRange_holds (show a'<b' by omega) (show b'<=dk.size by omega) ie
     go_upto_if 35 with fail
     go_cut [3] from 19 (λs3 wc=>s3=.int .i64 (aam lt dk a' b' lim wb wp).lim/\AtK enc k w blk off (aam lt dk a' b' lim wb wp).d1 wc/\BxK w.heap.size (.func (.func g) #[] lb) (.func (.func sf) #[] sb) wc)
     case first=>
      cases wb
      .have hc:=Any.breakPatterns_func_cells_w (P:=P) (ρ:=ρ) { L with } enc k hk (.func g) #[] lb sf sb blk off a' b' dk wr (SR pt) kc mt lp (by omega) (by omega)
       go_wp2_with (go_at_fn (ρ.f 28);refine hc.mono ?_;rintro e w1 ⟨rfl,sh⟩)
       go_meet
       case rel=>
        refine⟨?_,ha.stepG mp s1 sh,BxK.stepG ⟨x0,x1,by assumption⟩ enc k qb sh⟩;show aau .i64 ((lim:Int) - 1)=aau .i64 ((lim - 1:Nat):Int)
        congr 1
        omega
      .go_wp2_with fail
       go_meet
       case rel=>exact⟨rfl,ha,⟨x0,x1,by assumption⟩⟩
     case rest=>
      obtain⟨rfl,he,ki⟩:=hcut;clear x0 x1;obtain⟨kq,nl⟩:=he.holds hH (s1.trans pt) mp;obtain⟨y0,y1,_⟩:=ki
      have ow:Calls P (ρ.f 29) #[.agg #[.func (.func g) #[] lb,.func (.func sf) #[] sb],.int .i64 a',.int .i64 b'] wc λe w'=>e=.returned (.tuple #[.int .i64 (aam lt dk a' b' lim wb wp).c.1,.int .i64 (aaO (aam lt dk a' b' lim wb wp).c.2)])/\∃n os,w'=grow (aar wc n) os:=Any.choosePivot_func_cells (P:=P) (ρ:=ρ) { L with } enc k hk lt g lb (.func sf) #[] sb blk off a' b' wc (aam lt dk a' b' lim wb wp).d1 eg (LR he (s1.trans pt)) kq (by omega) (by omega) (by omega)
      go_upto_if 50 with(go_at_fn (ρ.f 29);refine ow.mono ?_;rintro e w2 ⟨rfl,sl⟩)
      have hf:AtK enc k w blk off (aam lt dk a' b' lim wb wp).d1 w2:=he.same hH (s1.trans pt) mp sl;have kj:BxK w.heap.size (.func (.func g) #[] lb) (.func (.func sf) #[] sb) w2:=BxK.same ⟨y0,y1,by assumption⟩ sl;clear y0 y1;obtain⟨kr,nm⟩:=hf.holds hH (s1.trans pt) mp;obtain⟨z0,z1,_⟩:=kj
      go_cut [11,12] from 19 (λs11 s12 wc=>s11=.int .i64 (aam lt dk a' b' lim wb wp).pivot/\s12=.int .i64 (aaO (aam lt dk a' b' lim wb wp).hint)/\AtK enc k w blk off (aam lt dk a' b' lim wb wp).d2 wc/\BxK w.heap.size (.func (.func g) #[] lb) (.func (.func sf) #[] sb) wc)
      case first=>
       by_cases hh:(aam lt dk a' b' lim wb wp).c.2=.decreasing
       .have pp:aaO (aam lt dk a' b' lim wb wp).c.2=2:=by rw[hh];rfl
        obtain⟨e2,hv,ht⟩:=rd_dec hh;have ox:=Any.reverseRange_func_cells_w (P:=P) (ρ:=ρ) { L with } enc k hk (.func g) #[] lb sf sb blk off a' b' (aam lt dk a' b' lim wb wp).d1 w2 (SR (s1.trans pt)) kr nm lp (by omega) (by omega)
        go_wp2_with (go_at_fn (ρ.f 30);refine ox.mono ?_;rintro e w3 ⟨rfl,sn⟩)
        go_meet
        case rel=>
         refine⟨?_,by rw[ht];rfl,by rw[e2];exact hf.stepG mp (by rw[<-e2,s2,s1]) sn,BxK.stepG ⟨z0,z1,by assumption⟩ enc k qb sn⟩;rw[hv]
         congr 1
         omega
       .have pp:¬ (aaO (aam lt dk a' b' lim wb wp).c.2=2):=λh=>hh (hintCode_two h);obtain⟨e2,hv,ht⟩:=rd_not hh
        go_wp2_with fail
        go_meet
        case rel=>exact⟨by rw[hv],by rw[ht],by rw[e2];exact hf,⟨z0,z1,by assumption⟩⟩
      case rest=>
       obtain⟨rfl,rfl,hg,kk⟩:=hcut;clear z0 z1;obtain⟨ks,nt⟩:=hg.holds hH (s2.trans pt) mp;obtain⟨v0,v1,_⟩:=kk
       go_upto_region 16 with fail
       go_cut [12,68] from 19 (λs12 s68 wx=>s12=.int .i64 (aaO (aam lt dk a' b' lim wb wp).hint)/\s68=.bool (wb&&wp&&decide ((aam lt dk a' b' lim wb wp).hint=.increasing))/\wx=wc)
       case first=>
        cases wb<;>cases wp<;>cases hh3:(aam lt dk a' b' lim _ _).hint <;>
         (have ps:=congrArg aaO hh3
          simp only[aaO]at ps
          go_wp2_with fail
          go_meet
          exact⟨by simp[hh3,aaO],by simp[hh3,aaO],rfl⟩)
       case rest=>
        obtain⟨rfl,rfl,rfl⟩:=hcut
        go_upto_if 68 with fail
        go_cut [] from 19 (λwx=>(aam lt dk a' b' lim wb wp).pi.2=false/\AtK enc k w blk off (aam lt dk a' b' lim wb wp).pi.1 wx/\BxK w.heap.size (.func (.func g) #[] lb) (.func (.func sf) #[] sb) wx)
        case first=>
         cases h68:(wb&&wp&&decide ((aam lt dk a' b' lim wb wp).hint=.increasing))
         .have hu:=rd_pi_no h68
          go_wp2_with fail
          go_meet
          case rel=>exact⟨by rw[hu],by rw[hu];exact hg,⟨v0,v1,by assumption⟩⟩
         .have hu:=rd_pi_yes h68;have oy:=Any.partialInsertionSort_func_cells_w (P:=P) (ρ:=ρ) { L with } enc k hk lt g lb sf sb blk off a' b' (aam lt dk a' b' lim wb wp).d2 wc eg (LR hg (s2.trans pt)) (SR (s2.trans pt)) ks nt (by omega) (by omega) (by omega);rw[<-hu]at oy
          go_wp2_with (go_at_fn (ρ.f 31);refine oy.mono ?_;rintro e w4 ⟨rfl,so⟩)
          all_goals first
           |(have rr:(aam lt dk a' b' lim wb wp).pi.2=false:=by rw[hu];assumption
             go_meet
             exact⟨rr,hg.stepG mp (by rw[s3,s2]) so,BxK.stepG ⟨v0,v1,by assumption⟩ enc k qb so⟩)
           |(have rr:(aam lt dk a' b' lim wb wp).pi.2=true:=by rw[hu];assumption
             (try simp only[aaC,Exit.then]);refine abt (abu rfl _ _ _) rfl ?_
             refine⟨rfl,?_⟩;rw[<-A.out,pdq_done h12 hl0 rr];exact hg.stepG mp (by rw[s3,s2]) so)
        case rest=>
         obtain⟨rr,io,km⟩:=hcut;clear v0 v1;obtain⟨ky,oj⟩:=io.holds hH (s3.trans pt) mp;obtain⟨t0,t1,_⟩:=km
         go_upto_region 18 with fail
         go_cut [83] from 19 (λs83 wx=>s83=.bool (decide (a' > 0)&&!lt (aam lt dk a' b' lim wb wp).pi.1[a' - 1]! (aam lt dk a' b' lim wb wp).pi.1[(aam lt dk a' b' lim wb wp).pivot]!)/\AtK enc k w blk off (aam lt dk a' b' lim wb wp).pi.1 wx/\BxK w.heap.size (.func (.func g) #[] lb) (.func (.func sf) #[] sb) wx)
         case first=>
          rcases Nat.eq_zero_or_pos a' with ke|ke
          .have li:decide ((a':Int) > 0)=false:=decide_eq_false (by omega)
           go_wp2_with fail
           go_meet
           case rel=>exact⟨by simp[ke],io,⟨t0,t1,by assumption⟩⟩
          .have li:(a':Int) > 0:=by omega
           have hl:=ei (show SWK enc k w blk off (aam lt dk a' b' lim wb wp).pi.1 wc from io) hL (s3.trans pt) (a' - 1) (aam lt dk a' b' lim wb wp).pivot (by omega) (by omega);rw[show((a' - 1:Nat):Int)=(a':Int) - 1 by omega]at hl
           cases hlv:lt (aam lt dk a' b' lim wb wp).pi.1[a' - 1]! (aam lt dk a' b' lim wb wp).pi.1[(aam lt dk a' b' lim wb wp).pivot]! <;>
            (rw[hlv]at hl
             go_wp2_with (go_at_fn g;refine hl.mono ?_;rintro e w' ⟨rfl,nq,rfl⟩)
             go_meet
             exact⟨by simp[ke,hlv],io.same hH (s3.trans pt) mp ⟨nq.n,nq.os,rfl⟩,BxK.same ⟨t0,t1,by assumption⟩ ⟨nq.n,nq.os,rfl⟩⟩)
         case rest=>
          obtain⟨rfl,it,kn⟩:=hcut;clear t0 t1;obtain⟨kz,oo⟩:=it.holds hH (s3.trans pt) mp;obtain⟨q0,q1,_⟩:=kn;cases h87:(decide (a' > 0)&&!lt (aam lt dk a' b' lim wb wp).pi.1[a' - 1]! (aam lt dk a' b' lim wb wp).pi.1[(aam lt dk a' b' lim wb wp).pivot]!)
          ·
           obtain⟨mid,ap,d4,hx⟩ : ∃mid ap d4,partition lt (aam lt dk a' b' lim wb wp).pi.1 a' b' (aam lt dk a' b' lim wb wp).pivot=(mid,ap,d4):=⟨(partition lt (aam lt dk a' b' lim wb wp).pi.1 a' b' (aam lt dk a' b' lim wb wp).pivot).1,(partition lt (aam lt dk a' b' lim wb wp).pi.1 a' b' (aam lt dk a' b' lim wb wp).pivot).2.1,(partition lt (aam lt dk a' b' lim wb wp).pi.1 a' b' (aam lt dk a' b' lim wb wp).pivot).2.2,rfl⟩;obtain⟨r1,r2,r3,r4,r5,r6,r7⟩:=round_part hO (partition_holds lt) rc.1 rc.2 (show b'<=(aam lt dk a' b' lim wb wp).pi.1.size by omega) B3 hx;have pn:=Any.partition_func_cells_w (P:=P) (ρ:=ρ) { L with } enc k hk lt g lb sf sb blk off a' b' (aam lt dk a' b' lim wb wp).pivot (aam lt dk a' b' lim wb wp).pi.1 wc eg (LR it (s3.trans pt)) (SR (s3.trans pt)) kz oo rc.1 rc.2 (by omega) (by omega);rw[hx]at pn;have X:Aside (partition lt (aam lt dk a' b' lim wb wp).pi.1 a' b' (aam lt dk a' b' lim wb wp).pivot=(mid,ap,d4)):=hx;clear hx
           go_upto_if 109 with(go_at_fn (ρ.f 33);refine pn.mono ?_;rintro e w7 ⟨rfl,sp⟩)
           have hx:=X.out;have rf:d4.size=d.size:=r3.trans (s3.trans pt);have ix:AtK enc k w blk off d4 w7:=it.stepG mp r3 sp;have kp:BxK w.heap.size (.func (.func g) #[] lb) (.func (.func sf) #[] sb) w7:=BxK.stepG ⟨q0,q1,by assumption⟩ enc k qb sp;clear q0 q1;obtain⟨kb,ot⟩:=ix.holds hH rf mp;obtain⟨p0,p1,_⟩:=kp;by_cases h4:mid - a'<b' - mid
           .have hy:(mid:Int) - (a':Int)<(b':Int) - (mid:Int):=by omega
            have px:=ih blk off a' mid (aam lt dk a' b' lim wb wp).lim d4 w7 (by omega) (LR ix rf) (SR rf) kb ot (by omega) (by omega) (by omega) (abP (aaL ach pf) qa) r4;obtain⟨pL,sL⟩:=pdq_sorts lt hO d4 a' mid (aam lt dk a' b' lim wb wp).lim true true (by omega) (by omega) r4
            go_wp2_with (go_at_fn (ρ.f 14);refine px.mono ?_;rintro e w8 ⟨rfl,sr⟩)
            go_roundg (b' - (mid+1))
            case measure=>omega
            case rel=>
             refine⟨mid+1,b',(aam lt dk a' b' lim wb wp).lim,decide (mid - a' >= (b' - a') / 8),ap,pdq lt d4 a' mid (aam lt dk a' b' lim wb wp).lim true true,by simp,rfl,rfl,?_,rfl,by omega,by omega,aao _,by omega,aaL ach pf,by rw[pL.1,rf],(r6 _ pL sL).1,ix.stepG mp pL.1 sr,BxK.stepG ⟨p0,p1,by assumption⟩ enc k qb sr,?_⟩
             .exact congrArg acG (eighth (by omega) (by omega))
             .rw[<-A.out,pdq_left h12 hl0 rr h87 (by rw[hx];exact⟨r1,r2⟩) (by rw[hx];exact h4),hx]
           .have hy:¬ ((mid:Int) - (a':Int)<(b':Int) - (mid:Int)):=by omega
            have px:=ih blk off (mid+1) b' (aam lt dk a' b' lim wb wp).lim d4 w7 (by omega) (LR ix rf) (SR rf) kb ot (by omega) (by omega) (by omega) (abP (aaL ach pf) qa) r5;rw[show((mid+1:Nat):Int)=(mid:Int)+1 by omega]at px;obtain⟨pL,sL⟩:=pdq_sorts lt hO d4 (mid+1) b' (aam lt dk a' b' lim wb wp).lim true true (by omega) (by omega) r5
            go_wp2_with (go_at_fn (ρ.f 14);refine px.mono ?_;rintro e w8 ⟨rfl,sr⟩)
            go_roundg (mid - a')
            case measure=>omega
            case rel=>
             refine⟨a',mid,(aam lt dk a' b' lim wb wp).lim,decide (b' - mid >= (b' - a') / 8),ap,pdq lt d4 (mid+1) b' (aam lt dk a' b' lim wb wp).lim true true,rfl,rfl,rfl,?_,rfl,by omega,by omega,aao _,by omega,aaL ach pf,by rw[pL.1,rf],(r7 _ pL sL).1,ix.stepG mp pL.1 sr,BxK.stepG ⟨p0,p1,by assumption⟩ enc k qb sr,?_⟩
             .exact congrArg acG (eighth (by omega) (by omega))
             .rw[<-A.out,pdq_right h12 hl0 rr h87 (by rw[hx];exact⟨r1,r2⟩) (by rw[hx];exact h4),hx]
          ·
           have hz:=h87;simp only[abl,decide_eq_true_eq,Bool.not_eq_true']at hz;obtain⟨mid,d4,hx⟩ : ∃mid d4,abM lt (aam lt dk a' b' lim wb wp).pi.1 a' b' (aam lt dk a' b' lim wb wp).pivot=(mid,d4):=⟨(abM lt (aam lt dk a' b' lim wb wp).pi.1 a' b' (aam lt dk a' b' lim wb wp).pivot).1,(abM lt (aam lt dk a' b' lim wb wp).pi.1 a' b' (aam lt dk a' b' lim wb wp).pivot).2,rfl⟩;obtain⟨r1,r2,r3,r4,_⟩:=round_eq hO (partitionEqual_holds lt) hz.1 rc.1 rc.2 (show b'<=(aam lt dk a' b' lim wb wp).pi.1.size by omega) B3 hz.2 hx;have ob:=Any.partitionEqual_func_cells_w (P:=P) (ρ:=ρ) { L with } enc k hk lt g lb sf sb blk off a' b' (aam lt dk a' b' lim wb wp).pivot (aam lt dk a' b' lim wb wp).pi.1 wc eg (LR it (s3.trans pt)) (SR (s3.trans pt)) kz oo rc.1 rc.2 (by omega) (by omega);rw[hx]at ob;have X:Aside (abM lt (aam lt dk a' b' lim wb wp).pi.1 a' b' (aam lt dk a' b' lim wb wp).pivot=(mid,d4)):=hx;clear hx
           go_wp2_with (go_at_fn (ρ.f 32);refine ob.mono ?_;rintro e w7 ⟨rfl,sp⟩)
           go_roundg (b' - mid)
           case measure=>omega
           case rel=>
            have hx:=X.out;exact⟨mid,b',(aam lt dk a' b' lim wb wp).lim,wb,wp,d4,rfl,rfl,rfl,rfl,rfl,r2,lx,aao _,by omega,aaL ach pf,by rw[r3,s3,pt],r4,it.stepG mp r3 sp,BxK.stepG ⟨q0,q1,by assumption⟩ enc k qb sp,by rw[<-A.out,pdq_eq h12 hl0 rr h87 (by rw[hx];exact⟨r1,r2⟩),hx]⟩
theorem Any.sort_Slice_cells_eq(L:LaysGg.n6 P ρ)(t e:TypeId)(i ie:TypeInfo)(hi:P.info? t=some i)(hd:i.desc=.slice e)(hpk:P.packed t=false)(hie:P.info? e=some ie)(ke:Nat)(hke:∀w,(acD e).run P w=.ok ke w)
  (enc:α->List Value) (k:Nat) (hk:∀x,(enc x).length=k) (hs1:ie.size=k) (hagg:∀w,(Go.isAgg e).run P w=.ok true w) (h1:∀x,∀v∈enc x,v.oneCell'=true) (lt:α->α->Bool) (hO:SWO lt) (g:Nat) (lb:Array Value)
  (eg:∀args w,(aat g args).run P w=.ok (.enter g args) w) (blk off c:Nat) (d:Array α) (h2:2<=d.size) (hsz:d.size<4611686018427387904)
  (f:Nat) (hf:P.funcs.findIdx? (·.name == "internal/reflectlite"++".Swapper$"++toString (swapperK d.size ie ke))=some f)
  (gS:Bool) (hx:∀args W,(aat f args).run P W=((abe gS args).run P W).andThen λv w'=>.ok (.value v) w')
  (w:World) (hless:LessReadsK P g lb enc k lt blk off d.size w) (hH:HoldsK enc k w blk off d) (hblk:blk<w.heap.size) :
  Calls P (ρ.f 6) #[.iface t (.slice (some ⟨blk,off,none⟩) d.size c),.func (.func g) #[] lb] w λe w'=>
   e=.returned (.tuple #[])/\∃n os,w'=grow (aan enc k (aar w n) blk off (pdq lt d 0 d.size (acr d.size) true true)) os:=by
 refine Any.sort_Slice_of_pdq L t e i ie hi hd hpk hie ke hke _ d.size c hsz f hf (.func g) #[] lb w _ ?_
 have hB:sliceBound P e ie ke (some ⟨blk,off,none⟩) d.size c=#[.slice (some ⟨blk,off,none⟩) d.size c,typeHandle P e]:=by
  unfold sliceBound;rw[if_neg (swapperK_gt _ _ _ h2)]
 have hW:sliceWorld P ρ t (some ⟨blk,off,none⟩) d.size c w=grow w #[.cells #[.slice (some ⟨blk,off,none⟩) d.size c] t,.cells #[.pointer (some ⟨P.globals.size,t,none⟩),.pointer (some ⟨w.heap.size,0,none⟩),.int .u64 151] (ρ.t 35)]:=by
  unfold sliceWorld;rw[aas,aas,aaP];rfl
 generalize (#[.cells #[.slice (some ⟨blk,off,none⟩) d.size c] t,.cells #[.pointer (some ⟨P.globals.size,t,none⟩),.pointer (some ⟨w.heap.size,0,none⟩),.int .u64 151] (ρ.t 35)]:Array Obj)=os0 at hW;rw[hB,hW];have hh:acr d.size<4611686018427387904:=abP (Lib.bitLen_le d.size 62 (by omega) (by omega)) (by omega)
 have hp:=Any.pdqsort_func_cells_all (P:=P) (ρ:=ρ) { L with } enc k hk lt hO g lb f _ eg (d.size+1) blk off 0 d.size (acr d.size) d (grow w os0) (by omega) (hless.grow hblk os0)
  (swapSwapsK_of_literal gS f hx e ie hie enc k hk hs1 hagg h1 blk off d.size c) (abh enc k w _ blk off d hblk hH) (by rw[aaR];omega) (abf _) (aao _) hsz hh (aaS rfl)
 refine hp.mono ?_;rintro e w' ⟨rfl,n,os,rfl⟩;exact⟨rfl,n,_,by rw[abv,abF enc k (aar w n) _ blk off _ hblk,aaP]⟩
theorem Any.sort_Slice_cells_sorted(L:LaysGg.n6 P ρ)(t e:TypeId)(i ie:TypeInfo)(hi:P.info? t=some i)(hd:i.desc=.slice e)(hpk:P.packed t=false)(hie:P.info? e=some ie)(ke:Nat)(hke:∀w,(acD e).run P w=.ok ke w)
  (enc:α->List Value) (k:Nat) (hk:∀x,(enc x).length=k) (hs1:ie.size=k) (hagg:∀w,(Go.isAgg e).run P w=.ok true w) (h1:∀x,∀v∈enc x,v.oneCell'=true) (lt:α->α->Bool) (hO:SWO lt) (g:Nat) (lb:Array Value)
  (eg:∀args w,(aat g args).run P w=.ok (.enter g args) w) (blk off c:Nat) (d:Array α) (h2:2<=d.size) (hsz:d.size<4611686018427387904)
  (f:Nat) (hf:P.funcs.findIdx? (·.name == "internal/reflectlite"++".Swapper$"++toString (swapperK d.size ie ke))=some f)
  (gS:Bool) (hx:∀args W,(aat f args).run P W=((abe gS args).run P W).andThen λv w'=>.ok (.value v) w')
  (w:World) (hless:LessReadsK P g lb enc k lt blk off d.size w) (hH:HoldsK enc k w blk off d) (hblk:blk<w.heap.size) :
  Calls P (ρ.f 6) #[.iface t (.slice (some ⟨blk,off,none⟩) d.size c),.func (.func g) #[] lb] w λe w'=>
   e=.returned (.tuple #[])/\∃d' n os,PermIn 0 d.size d d'/\SortedIn lt 0 d.size d'/\w'=grow (aan enc k (aar w n) blk off d') os:=(Any.sort_Slice_cells_eq L t e i ie hi hd hpk hie ke hke enc k hk hs1 hagg h1 lt hO g lb eg blk off c d h2 hsz f hf gS hx w hless hH hblk).mono λ_ _ ⟨he,n,os,hw⟩=>
   have h:=pdq_sorts lt hO d 0 d.size (acr d.size) true true (abf _) (aao _) (aaS rfl)
   ⟨he,_,n,os,h.1,h.2,hw⟩
end
section
namespace Rw
open Go Go.Proofs Go.Shelf Go.RowKit Go.Lib Go.Sort
def ltT(x y:Time):Bool:=decide (x.A<y.A)||(decide (x.A=y.A)&&decide (x.B<y.B))
def ltI(x y:Row):Bool:=decide (x.Key<y.Key)||(decide (x.Key=y.Key)&&(decide (x.Val<y.Val)||(decide (x.Val=y.Val)&&ltT x.At y.At)))
def encI(x:Row):List Value:=[.int .i64 x.Key,.int .i64 x.Val,.int .i64 x.At.A,.int .i64 x.At.B,.int .i64 x.Diff]
theorem tE:SWO ltI:=by
 constructor
 .intro x;simp[ltI,ltT]
 .intro x y z h1 h2;simp only[ltI,ltT,acf,abl,decide_eq_true_eq]at h1 h2⊢;omega
 .intro x y z h1 h2;simp only[ltI,ltT,abD,abB,decide_eq_false_iff_not]at h1 h2⊢;omega
theorem TY(w:World)(x y:Obj):(w.alloc x).alloc y=later w ⟨0,#[x,y]⟩:=by
 rw[aas,aas,aaP];rfl
theorem Haj(w:World)(x y z u:Obj):(((w.alloc x).alloc y).alloc z).alloc u=later w ⟨0,#[x,y,z,u]⟩:=by
 rw[aas,aas,aas,aas,aaP,aaP,aaP];rfl
set_option maxHeartbeats 4000000 in
theorem Iaj(x y:Row)(W:World):Calls aaq 114 #[.agg #[.int .i64 x.Key,.int .i64 x.Val,.int .i64 x.At.A,.int .i64 x.At.B,.int .i64 x.Diff],.agg #[.int .i64 y.Key,.int .i64 y.Val,.int .i64 y.At.A,.int .i64 y.At.B,.int .i64 y.Diff]] W
  λe w'=>e=.returned (.bool (ltI x y))/\∃q,w'=later W q:=by
 by_cases h1:x.Key=y.Key
 .have e1:(x.Key != y.Key)=false:=by simp[h1]
  by_cases h2:x.Val=y.Val
  .have e2:(x.Val != y.Val)=false:=by simp[h2]
   have hl:ltI x y=ltT x.At y.At:=by simp[ltI,h1,h2]
   rw[hl]
   go_enter Tryz.func114,Tryz.ntmps114
   go_wp2
   all_goals go_ret
   all_goals refine⟨?_,_,Haj _ _ _ _ _⟩
   all_goals refine congrArg acH (congrArg acG ?_)
   all_goals (rw[Bool.eq_iff_iff];simp[ltT];try omega)
  .have e2:(x.Val != y.Val)=true:=by simp[h2]
   have hl:ltI x y=decide (x.Val<y.Val):=by simp[ltI,h1,h2]
   rw[hl]
   go_enter Tryz.func114,Tryz.ntmps114
   go_wp2
   go_ret
   exact⟨rfl,_,TY _ _ _⟩
 .have e1:(x.Key != y.Key)=true:=by simp[h1]
  have hl:ltI x y=decide (x.Key<y.Key):=by simp[ltI,h1]
  rw[hl]
  go_enter Tryz.func114,Tryz.ntmps114
  go_wp2
  go_ret
  exact⟨rfl,_,TY _ _ _⟩
noncomputable def svT:TypeInfo:=(aaq.info? 43).get (by kernel_rfl)
noncomputable def svE:TypeInfo:=(aaq.info? 79).get (by kernel_rfl)
theorem vE(n:Nat)(h2:2<=n):aaV n svE 25=9:=by
 have a:svE.hasPointers=false:=by kernel_rfl
 have b:svE.bytes=40:=by kernel_rfl
 have c:(n == 0)=false:=by simp;omega
 have d:(n == 1)=false:=by simp;omega
 simp[aaV,a,b,c,d]
end Rw
namespace Rw
open Go
def kI(x:Row):List Int:=[x.Key,x.Val,x.At.A,x.At.B,0]
def mkI(p:List Int×Int):Row:=match p.1 with
 |[k,v,t,u,_]=>⟨k,v,⟨t,u⟩,p.2⟩
 |_=>⟨0,0,⟨0,0⟩,p.2⟩
def chI(xs:List Row):List (List Int×Int):=xs.map λx=>(kI x,x.Diff)
def gathI(xs:List Row):List Row:=(Xc (chI xs)).map mkI
def Db(m:MP)(S:List Nat):List Row:=((S.map λi=>m.getD i ([0,0,0,0,0],0)).filter λp=>p.2 != 0).map mkI
end Rw
noncomputable def qO(a0:List Row):List Row:=Rw.gathI a0
def rO(a0:List Row):Prop:=lim (ba .row a0) 1
noncomputable def sO:Spec:=⟨[.lst .row],.one .fr (.lst .row),false,λx=>(qO x.1,0),λx=>rO x.1⟩
namespace Rw
open Go
def ttg:TT:=[(3,⟨.scalar,1,[.int .i64 0],some .int,false⟩),(4,⟨.scalar,1,[.bool false],some .bool,false⟩),(43,⟨.slice 79,1,[.nl .row],some .lrow,false⟩),
 (65,⟨.struct [(0,1),(1,1)],2,[.int .i64 0,.int .i64 0],some .time,true⟩),(79,⟨.struct [(0,1),(1,1),(2,2),(4,1)],5,[.int .i64 0,.int .i64 0,.int .i64 0,.int .i64 0,.int .i64 0],some .row,true⟩)]
theorem ef:dc aaq ttg:=Cn (by kernel_rfl)
theorem gg:Good aaq ttg []:=⟨ef,(λ_ _ h=>by cases h),by kernel_rfl⟩
theorem tdE:Sb aaq 79 ⟨.struct [(0,1),(1,1),(2,2),(4,1)],5,[.int .i64 0,.int .i64 0,.int .i64 0,.int .i64 0,.int .i64 0],some .row,true⟩:=ef.td _ _ (by kernel_rfl)
theorem tdM:Sb aaq 65 ⟨.struct [(0,1),(1,1)],2,[.int .i64 0,.int .i64 0],some .time,true⟩:=ef.td _ _ (by kernel_rfl)
theorem td3:Sb aaq 3 ⟨.scalar,1,[.int .i64 0],some .int,false⟩:=ef.td _ _ (by kernel_rfl)
noncomputable def fsG:Array Field:=match aaq.underlying 79 with
 |some (.struct fs)=>fs
 |_=>#[]
noncomputable def sv3:TypeInfo:=(aaq.info? 3).get (by kernel_rfl)
theorem Kh:ID aaq 139 79 3 5:=by
 refine⟨by kernel_rfl,⟨fsG,by kernel_rfl⟩,ef.eq _ ⟨.struct [(0,1),(1,1),(2,2),(4,1)],5,[.int .i64 0,.int .i64 0,.int .i64 0,.int .i64 0,.int .i64 0],some .row,true⟩ (by kernel_rfl) rfl,
  JD (fs:=fsG) (i:=svE) (by kernel_rfl) (by kernel_rfl) (by kernel_rfl) (by kernel_rfl),λw=>?_⟩
 have hi : aaq.info? 3=some sv3:=by kernel_rfl
 have hz:sv3.zero=some (.int .i64 0):=by kernel_rfl
 simp[zeroValue,typeInfo,hi,hz]
noncomputable def C0:Code:=pg Tryz.f118
noncomputable def o1(i:Nat):Oper:=opN (opsOf (nav C0 [1,0])) i
noncomputable def o5(i:Nat):Oper:=opN (opsOf (nav C0 [1,1,0,1,0,0,1,1,0,0,1])) i
noncomputable def o8(i:Nat):Oper:=opN (opsOf (nav C0 [1,1,1,1,0,0])) i
noncomputable def o9(i:Nat):Oper:=opN (opsOf (nav C0 [1,1,1,1,0,1,0,0,0])) i
noncomputable def o10(i:Nat):Oper:=opN (opsOf (nav C0 [1,1,1,1,0,1,0,0,1,1,0,0])) i
noncomputable def o14(i:Nat):Oper:=opN (opsOf (nav C0 [1,1,1,1,1,0])) i
theorem chk:(opsOf (nav C0 [1,0])).size=2/\(opsOf (nav C0 [1,1,0,1,0,0,1,1,0,0,1])).size=15/\(opsOf (nav C0 [1,1,1,1,0,0])).size=2/\(opsOf (nav C0 [1,1,1,1,0,1,0,0,0])).size=2 /\
 (opsOf (nav C0 [1,1,1,1,0,1,0,0,1,1,0,0])).size=6/\(opsOf (nav C0 [1,1,1,1,1,0])).size=4:=(by and_intros<;>kernel_rfl)
end Rw
namespace Rw
open Go
theorem pO{P:aaK}{a:Act}{w:World}{o:Oper}{s x:Nat}(hop:o.op=.load s (.tmp x)){b c:Nat}(hx:a.tmps.getD x undef=.pointer (some ⟨b,c,none⟩)){d:TD}(hd:Sb P s d)(ha:isAgg d=true){us:List Value}(hn:us.length=d.size)
  (hu:∀j u,us[j]? = some u->w.cell? ⟨b,c+j,none⟩=some u):(execOp a.eval o).run P w=.ok (.value (.agg us.toArray)) w:=by
 obtain⟨hh,op,ty,pos,aft,gd⟩:=o;simp only[]at hop;subst hop;have hl:=xj hd ha (w:=w) hn hu;exact ze (s:=Instr.loadAt s (a.tmps.getD x undef)) rfl (by rw[hx];exact hl)
def tuV(t u:Int):Value:=.agg [aau .i64 t,aau .i64 u].toArray
theorem yE(w:World)(k v t u:Int):(Instr.build 79 #[(0,.int .i64 k),(1,.int .i64 v),(2,tuV t u)]).run aaq w=.ok (Na [k,v,t,u,0]) w:=by
 obtain⟨us,h1,h2⟩:=VC (F:=λ_ _=>False) (B:=0) (w:=w) tdE rfl (ps:=[(0,⟨true,false,[.int .i64 k]⟩),(1,⟨true,false,[.int .i64 v]⟩),(2,⟨true,true,[.int .i64 t,.int .i64 u]⟩)]) (vs:=#[(0,.int .i64 k),(1,.int .i64 v),(2,tuV t u)])
  (f:=true) (cs:=[.int .i64 k,.int .i64 v,.int .i64 t,.int .i64 u,.int .i64 0]) rfl (λj i p u' hp hu=>by
    match j,hp,hu with
    |0,hp,hu=>simp at hp hu;obtain⟨rfl,rfl⟩:=hp;subst hu;exact RC.int _ _
    |1,hp,hu=>simp at hp hu;obtain⟨rfl,rfl⟩:=hp;subst hu;exact RC.int _ _
    |2,hp,hu=>simp at hp hu;obtain⟨rfl,rfl⟩:=hp;subst hu;exact⟨[.int .i64 t,.int .i64 u],rfl,.cons (RC.int _ _) (.cons (RC.int _ _) .nil)⟩
    |j+3,hp,hu=>simp at hp) rfl
 rw[h1];cases h2 with
 |cons h2 h3=>cases h2;cases h3 with
  |cons h2 h3=>cases h2;cases h3 with
   |cons h2 h3=>cases h2;cases h3 with
    |cons h2 h3=>cases h2;cases h3 with
     |cons h2 h3=>cases h2;cases h3;rfl
def V5(r b5:Nat)(k v t u c:Int)(m:MP):Nat->Value
 |0=>.map (some r)
 |1=>.pointer (some ⟨b5,0,none⟩)
 |2=>.int .i64 k
 |3=>.pointer (some ⟨b5,1,none⟩)
 |4=>.int .i64 v
 |5=>.pointer (some ⟨b5,2,none⟩)
 |6=>tuV t u
 |7=>Na [k,v,t,u,0]
 |8=>.int .i64 (rb m [k,v,t,u,0])
 |9=>.pointer (some ⟨b5,4,none⟩)
 |10=>.int .i64 c
 |11=>.int .i64 (ar .add .i64 (rb m [k,v,t,u,0]) c)
 |12=>.tuple #[.int .i64 (rb m [k,v,t,u,0]),goInt (stp m [k,v,t,u,0])]
 |_=>goInt (stp m [k,v,t,u,0])
def mL(m:MP)(q:List Int×Int)(L:Nat->Bool):MP:=if L 14 then stepM m q else if L 12 then Vc m q.1 else m
structure J5(a0:Act)(w1:World)(r b5:Nat)(k v t u c:Int)(m:MP)(L:Nat->Bool)(a:Act)(w:World):Prop where
 df:a.defers=[]
 sz:a.tmps.size=a0.tmps.size
 vs:∀i,i<14->L i=true->a.tmps.getD (16+i) undef=V5 r b5 k v t u c m i
 ot:∀n,n<16\/29<n->a.tmps.getD n undef=a0.tmps.getD n undef
 pk:Pk w1 r w
 ob:w.heap[r]? = some (ya (mL m ([k,v,t,u,0],c) L))
theorem J5.put{a0:Act}{w1:World}{r b5:Nat}{k v t u c:Int}{m:MP}{L:Nat->Bool}{a:Act}{w w':World}(h:J5 a0 w1 r b5 k v t u c m L a w)(h28:30<=a0.tmps.size){i:Nat}(hi:i<14)(hp:Pk w r w')
  (ho:w'.heap[r]? = some (ya (mL m ([k,v,t,u,0],c) λj=>if j=i then true else L j))):J5 a0 w1 r b5 k v t u c m (λj=>if j=i then true else L j) (a.put (some (16+i)) (V5 r b5 k v t u c m i)) w':=by
 have hs:16+i<a.tmps.size:=by rw[h.sz];omega
 refine⟨h.df,by rw[Ye];exact h.sz,λj hj hL=>?_,λn hn=>?_,h.pk.trans hp,ho⟩
 .rw[Ja a _ _ hs];by_cases e:j=i
  .rw[if_pos (by omega),e]
  .rw[if_neg (by omega)];exact h.vs j hj (by simpa [e] using hL)
 .rw[Ja a _ _ hs,if_neg (by omega)];exact h.ot n hn
theorem zE{m:MP}{q:List Int×Int}{L:Nat->Bool}{i:Nat}(h1:i≠12)(h2:i≠14):mL m q (λj=>if j=i then true else L j)=mL m q L:=by
 unfold mL;have e1:¬ (14=i):=λe=>h2 e.symm;have e2:¬ (12=i):=λe=>h1 e.symm;simp[e1,e2]
theorem op5:(∀i,i<14->(o5 i).dst=some (16+i)/\(o5 i).guard=none)/\(o5 14).dst=none/\(o5 14).guard=none /\
  (o5 0).op=.move (.tmp 3)/\(o5 1).op=.fieldAddr 79 (.tmp 5) 0/\(o5 2).op=.load 3 (.tmp 17)/\(o5 3).op=.fieldAddr 79 (.tmp 5) 1/\(o5 4).op=.load 3 (.tmp 19)/\(o5 5).op=.fieldAddr 79 (.tmp 5) 2/\(o5 6).op=.load 65 (.tmp 21)/\(o5 7).op=.build 79 #[(0,.tmp 18),(1,.tmp 20),(2,.tmp 22)]/\(o5 8).op=.lookup 139 (.tmp 16) (.tmp 23) false/\(o5 9).op=.fieldAddr 79 (.tmp 5) 3/\(o5 10).op=.load 3 (.tmp 25)/\(o5 11).op=.binOp .add 3 (.tmp 24) (.tmp 26) 3/\(o5 12).op=.mapEntry 139 (.tmp 16) (.tmp 23)/\(o5 13).op=.extract (.tmp 28) 1/\(o5 14).op=.entryStore 139 (.tmp 16) (.tmp 29) (.tmp 27):=by
 refine⟨λi hi=>?_,by kernel_rfl,by kernel_rfl,by kernel_rfl,by kernel_rfl,by kernel_rfl,by kernel_rfl,by kernel_rfl,by kernel_rfl,by kernel_rfl,by kernel_rfl,by kernel_rfl,by kernel_rfl,by kernel_rfl,by kernel_rfl,by kernel_rfl,by kernel_rfl,by kernel_rfl⟩;rcases (show i=0\/i=1\/i=2\/i=3\/i=4\/i=5\/i=6\/i=7\/i=8\/i=9\/i=10\/i=11\/i=12\/i=13 by omega) with rfl|rfl|rfl|rfl|rfl|rfl|rfl|rfl|rfl|rfl|rfl|rfl|rfl|rfl<;>exact⟨by kernel_rfl,by kernel_rfl⟩
set_option maxHeartbeats 1600000 in
theorem BE{Q:Exit->Act->World->Prop}{B:Nat}{W0:World}{F0:Fz}{r:Nat}{m:MP}{e:Env}{k v t u c:Int}{a:Act}{w:World}{N:NP}(hs:MS N B [] W0 F0 [(r,ya m)] e a w)(hfl:Ie e=true)
  (hN:N.n=52/\N.r=none/\N.k=[(3,.map (some r))]) (hg:da e 5=.box [(.fr,.int .i64 k),(.fr,.int .i64 v),(.fr,.int .i64 t),(.fr,.int .i64 u),(.fr,.int .i64 c)]) (hd:∀d,16<=d->d<=29->Ga (da e d)=true) (hm:Tb 5 m)
  (hQ:∀a w,MS N B [] W0 F0 [(r,ya (stepM m ([k,v,t,u,0],c)))] e a w->Q .normal a w):(nav C0 [1,1,0,1,0,0,1,1,0,0,1]).wp aaq Q a w:=by
 obtain⟨hw,hy,hz⟩:=hN;have ix:nav C0 [1,1,0,1,0,0,1,1,0,0,1]=.region (ah (nav C0 [1,1,0,1,0,0,1,1,0,0,1])) (opsOf (nav C0 [1,1,0,1,0,0,1,1,0,0,1])) true:=by kernel_rfl
 have hsz:(opsOf (nav C0 [1,1,0,1,0,0,1,1,0,0,1])).size=15:=chk.2.1;obtain⟨F,ow,hx⟩:=hs.sim.rep;obtain⟨b5,us,kq,_,hc,_,hlen,io⟩:=hx.box hg;have kq:a.tmps.getD 5 undef=.pointer (some ⟨b5,0,none⟩):=kq;have hr:=hs.o (aaT.2 rfl);have ih:b5≠r:=hc.ne hr rfl;have h3:a.tmps.getD 3 undef=.map (some r):=hs.k (by rw[hz];simp);have hq:30<=a.tmps.size:=by rw[hs.sim.tmps.size,hw];omega
 have ks:us=[.int .i64 k,.int .i64 v,.int .i64 t,.int .i64 u,.int .i64 c]:=by
  match us,hlen with
  |[u0,u1,u2,u3,u4],_=>
   have q0:RC F B w (.int .i64 k) u0:=io 0 _ u0 rfl rfl;have q1:RC F B w (.int .i64 v) u1:=io 1 _ u1 rfl rfl;have q2:RC F B w (.int .i64 t) u2:=io 2 _ u2 rfl rfl;have q3:RC F B w (.int .i64 u) u3:=io 3 _ u3 rfl rfl;have q4:RC F B w (.int .i64 c) u4:=io 4 _ u4 rfl rfl;cases q0;cases q1;cases q2;cases q3;cases q4;rfl
 subst ks;obtain⟨ju,ie,jb,p0,p1,p2,p3,p4,p5,p6,p7,p8,p9,p10,p11,p12,p13,kx⟩:=op5;have kk:([k,v,t,u,0]:List Int).length=5:=rfl;rw[ix];refine acu gg.hm ?_;refine ED (J:=J5 a { w with drawn:=w.drawn+1 } r b5 k v t u c m) (by kernel_rfl) ?_ ?_ (opsOf (nav C0 [1,1,0,1,0,0,1,1,0,0,1])).size _ a _ (by simp) (by simp) ?_ ?_
 .intro L a' w' i o kj hv hE it hJ next hn;have ki:i<15:=by have:=(aaw.1 kj).1;omega
  have ho:o=o5 i:=(tl kj).symm;have hu:∀j,Hh (o5 i) j=true->L j=true:=λj hj=>rl (by rw[<-ho];exact hE) hj
  have hC:∀i j,i<15->L i=true->Hh (o5 i) j=true->L j=true:=λi j hi hL hj=>by
   have km:i<(opsOf (nav C0 [1,1,0,1,0,0,1,1,0,0,1])).size:=by omega
   exact rl (λe he hb=>it i (o5 i) (by have:=abo km;rw[this];exact congrArg some (tl this).symm) hL e he hb) hj
  have hf:Blk w' b5 [.int .i64 k,.int .i64 v,.int .i64 t,.int .i64 u,.int .i64 c]:=by
   refine Blk.same (w:=w) hc ?_;rw[hJ.pk.block b5 ih]
  have t3:a'.tmps.getD 3 undef=.map (some r):=by rw[hJ.ot 3 (.inl (by omega))];exact h3
  have t5:a'.tmps.getD 5 undef=.pointer (some ⟨b5,0,none⟩):=by rw[hJ.ot 5 (.inl (by omega))];exact kq
  have ky:∀(hi:i<14),i≠12->(execOp a'.eval (o5 i)).run aaq w'=.ok (.value (V5 r b5 k v t u c m i)) w'->wpOp aaq (opsOf (nav C0 [1,1,0,1,0,0,1,1,0,0,1])) Q i next a' w':=by
   intro hi hh kr;refine va kj (by rw[ho];exact(ju i hi).2) ?_;rw[ho];refine Xa kr ?_;rw[(ju i hi).1];exact hn _ _ (hJ.put hq hi ⟨rfl,rfl,rfl,rfl,λ_ _=>rfl⟩ (by rw[zE hh (by omega)];exact hJ.ob))
  have kn:L 14=false->w'.heap[r]? = some (ya (if L 12 then Vc m [k,v,t,u,0] else m)):=λh=>by
   have:=hJ.ob;unfold mL at this;rw[h]at this;simpa using this
  rcases (show i=0\/i=1\/i=2\/i=3\/i=4\/i=5\/i=6\/i=7\/i=8\/i=9\/i=10\/i=11\/i=12\/i=13\/i=14 by omega) with rfl|rfl|rfl|rfl|rfl|rfl|rfl|rfl|rfl|rfl|rfl|rfl|rfl|rfl|rfl
  .exact ky (by omega) (by omega) (by rw[cf p0,t3];rfl)
  .exact ky (by omega) (by omega) (Fi p1 t5 tdE rfl rfl)
  .exact ky (by omega) (by omega) (sg p2 (hJ.vs 1 (by omega) (hu 1 (by kernel_rfl))) td3 rfl (by rw[hf.cell];rfl))
  .exact ky (by omega) (by omega) (Fi p3 t5 tdE rfl rfl)
  .exact ky (by omega) (by omega) (sg p4 (hJ.vs 3 (by omega) (hu 3 (by kernel_rfl))) td3 rfl (by rw[hf.cell];rfl))
  .exact ky (by omega) (by omega) (Fi p5 t5 tdE rfl rfl)
  .exact ky (by omega) (by omega) (pO p6 (hJ.vs 5 (by omega) (hu 5 (by kernel_rfl))) tdM rfl (us:=[.int .i64 t,.int .i64 u]) rfl (λj x hx=>by
    rw[hf.cell]
    match j,hx with
    |0,hx=>exact hx
    |1,hx=>exact hx
    |j+2,hx=>simp at hx))
  .refine ky (by omega) (by omega) (mQ p7 ?_);have e1:a'.tmps.getD 18 undef=.int .i64 k:=hJ.vs 2 (by omega) (hu 2 (by kernel_rfl));have e2:a'.tmps.getD 20 undef=.int .i64 v:=hJ.vs 4 (by omega) (hu 4 (by kernel_rfl));have e3:a'.tmps.getD 22 undef=tuV t u:=hJ.vs 6 (by omega) (hu 6 (by kernel_rfl))
   have:(#[(0,abN 18),(1,abN 20),(2,abN 22)].map λp=>(p.1,a'.eval p.2))=#[(0,aau .i64 k),(1,aau .i64 v),(2,tuV t u)]:=by
    simp only[List.map_toArray,abR,abU];rw[show a'.eval (.tmp 18)=.int .i64 k from e1,show a'.eval (.tmp 20)=.int .i64 v from e2,show a'.eval (.tmp 22)=tuV t u from e3]
   rw[this];exact yE w' k v t u
  .refine ky (by omega) (by omega) (jt p8 ?_);rw[hJ.vs 0 (by omega) (hu 0 (by kernel_rfl)),hJ.vs 7 (by omega) (hu 7 (by kernel_rfl))]
   have hl:L 14=false:=by
    cases h:L 14 with
    |false=>rfl
    |true=>
     have h9:=hC 14 11 (by omega) h (by kernel_rfl);have h6:=hC 11 8 (by omega) h9 (by kernel_rfl);rw[h6]at hv;cases hv
   have kp:=kn hl;cases hh:L 12 with
   |false=>
    rw[hh]at kp;exact Ys Kh kp hm kk
   |true=>
    rw[hh]at kp;have kp:w'.heap[r]? = some (ya (Vc m [k,v,t,u,0])):=kp;have:=Ys Kh kp (hm.ins kk) kk;rw[mR]at this;exact this
  .exact ky (by omega) (by omega) (Fi p9 t5 tdE rfl rfl)
  .exact ky (by omega) (by omega) (sg p10 (hJ.vs 9 (by omega) (hu 9 (by kernel_rfl))) td3 rfl (by rw[hf.cell];rfl))
  .exact ky (by omega) (by omega) (jQ p11 (hJ.vs 8 (by omega) (hu 8 (by kernel_rfl))) (hJ.vs 10 (by omega) (hu 10 (by kernel_rfl))))
  .have hl:L 14=false:=by
    cases h:L 14 with
    |false=>rfl
    |true=>
     have hk:=hC 14 13 (by omega) h (by kernel_rfl);have hh:=hC 13 12 (by omega) hk (by kernel_rfl);rw[hh]at hv;cases hv
   have kp:=kn hl;rw[hv]at kp;have kp:w'.heap[r]? = some (ya m):=kp;have kr:=IP Kh kp hm kk;refine va kj (by rw[ho];exact(ju 12 (by omega)).2) ?_;rw[ho];refine Xa (eQ p12 (by rw[hJ.vs 0 (by omega) (hu 0 (by kernel_rfl)),hJ.vs 7 (by omega) (hu 7 (by kernel_rfl))];exact kr)) ?_;rw[(ju 12 (by omega)).1];refine hn _ _ (hJ.put hq (by omega) (Di _ _ _) ?_);rw[Ei kp];unfold mL;simp[hl]
  .have e10:a'.tmps.getD 28 undef=.tuple #[.int .i64 (rb m [k,v,t,u,0]),goInt (stp m [k,v,t,u,0])]:=hJ.vs 12 (by omega) (hu 12 (by kernel_rfl));have kr:(execOp a'.eval (o5 13)).run aaq w'=.ok (.value (goInt (stp m [k,v,t,u,0]))) w':=bh (vs:=#[.int .i64 (rb m [k,v,t,u,0]),goInt (stp m [k,v,t,u,0])]) p13 e10 (by simp);exact ky (by omega) (by omega) kr
  .have hh:L 12=true:=hC 13 12 (by omega) (hu 13 (by kernel_rfl)) (by kernel_rfl);have kp:=kn hv;rw[hh]at kp;have kp:w'.heap[r]? = some (ya (Vc m [k,v,t,u,0])):=kp;have kr:=JP Kh kp (nR m [k,v,t,u,0]) (ar .add .i64 (rb m [k,v,t,u,0]) c);refine va kj (by rw[ho];exact jb) ?_;rw[ho];refine Nj (fQ kx (by rw[hJ.vs 0 (by omega) (hu 0 (by kernel_rfl)),hJ.vs 13 (by omega) (hu 13 (by kernel_rfl)),hJ.vs 11 (by omega) (hu 11 (by kernel_rfl))];exact kr)) ?_;rw[ie];refine hn _ _ ⟨hJ.df,hJ.sz,λj hj hL=>hJ.vs j hj (by simpa [show j≠14 by omega] using hL),hJ.ot,hJ.pk.trans (Di _ _ _),?_⟩;rw[Ei kp];rfl
 .intro L a' w' ha hJ;refine hQ a' w' ?_
  have kp:w'.heap[r]? = some (ya (stepM m ([k,v,t,u,0],c))):=by
   have:=hJ.ob;unfold mL at this;rw[ha 14 (by omega)]at this;simpa using this
  have h1:=(hs.drew (w.drawn+1)).set (obs':=[(r,ya (stepM m ([k,v,t,u,0],c)))]) (aaT.2 rfl) hJ.pk (λp hp=>by
   rw[aaT.1 hp];exact .inr ⟨rfl,kp,rfl⟩)
  refine h1.tmps (D:=[16,17,18,19,20,21,22,23,24,25,26,27,28,29]) hfl (λd hdm=>⟨hd d ?_ ?_,?_⟩) hy hJ.df hJ.sz (λn hn=>hJ.ot n ?_)
  .simp at hdm;omega
  .simp at hdm;omega
  .rw[hz];have ht:3≠d:=by simp at hdm;omega
   simp[Rg,Qf ht]
  .simp at hn;omega
 .intro i o ho hL;simp only[aaA]at hL;by_cases hi:i<(opsOf (nav C0 [1,1,0,1,0,0,1,1,0,0,1])).size
  .simp[hi]at hL
  .simp[hi]at hL
 .refine⟨hs.sim.defers,rfl,λi hi hL=>?_,λn _=>rfl,⟨rfl,rfl,rfl,rfl,λ_ _=>rfl⟩,?_⟩
  .simp only[aaA]at hL;simp[hsz,show i<15 by omega]at hL
  .show w.heap[r]? = _;rw[hr];unfold mL;simp[aaA,hsz]
end Rw
namespace Rw
open Go
abbrev N1(r:Nat):NP:=⟨52,none,[(3,.map (some r))]⟩
def EL(xs:List Row)(i:Int):Env:=[(10,.v .sh (.lst .row xs)),(11,.v .fr (.int .i64 (ba .row xs))),(12,.v .fr (.int .i64 i))]
theorem Vj(xs:List Row):Tb 5 (bb (chI xs))/\∀p∈bb (chI xs),∃k v t u,p.1=[k,v,t,u,0]:=by
 have key:∀(l:List (List Int×Int)) (m:MP),(∀p∈l,∃k v t u,p.1=[k,v,t,u,0])->(∀ks∈oa m,∃k v t u,ks=[k,v,t,u,(0:Int)])->∀ks∈oa (l.foldl stepM m),∃k v t u,ks=[k,v,t,u,(0:Int)]:=by
  intro l
  induction l with
  |nil=>exact λm _ h=>h
  |cons q r ih=>
   intro m hl hm;refine ih _ (λp hp=>hl p (by simp[hp])) (λks hk=>?_);rw[Zs]at hk;split at hk
   .exact hm ks hk
   .rcases abn.1 hk with hk|hk
    .exact hm ks hk
    .simp at hk;subst hk;exact hl q (by simp)
 have h2:∀p∈bb (chI xs),∃k v t u,p.1=[k,v,t,u,0]:=λp hp=>key (chI xs) [] (λq hq=>by
  obtain⟨x,_,rfl⟩:=abV.1 hq;exact⟨x.Key,x.Val,x.At.A,x.At.B,rfl⟩) (by simp[oa]) p.1 (abV.2 ⟨p,hp,rfl⟩)
 exact⟨λp hp=>by obtain⟨k,v,t,u,h⟩:=h2 p hp;rw[h];rfl,h2⟩
theorem CE{xs:List Row}{i:Nat}(hi:i<xs.length):bb (chI (xs.take (i+1)))=stepM (bb (chI (xs.take i))) (kI (rd .row xs i),(rd .row xs i).Diff):=by
 have:xs.take (i+1)=xs.take i++[rd .row xs i]:=by
  rw[abx hi]
  congr 2
  unfold rd;rw[aap,show(i:Int).toNat=i from rfl,aal hi];rfl
 rw[this];unfold bb chI;rw[abd,acy];rfl
theorem DE{xs:List Row}(hlim:lim (ba .row xs) 1){Q:Exit->Act->World->Prop}{B:Nat}{W0:World}{F0:Fz}{r:Nat}{a:Act}{w:World}(hs:MS (N1 r) B [] W0 F0 [(r,ya [])] (EL xs 0) a w)
  (hQ:∀a w,MS (N1 r) B [] W0 F0 [(r,ya (bb (chI xs)))] [] a w->Q .normal a w):(nav C0 [1,1,0,1]).wp aaq Q a w:=by
 have hlen:(xs.length:Int)<=1099511627775:=by have:ba .row xs+1<=1099511627776:=hlim;unfold ba at this;omega
 refine Vf (c1:=nav C0 [1,1,0,1,0]) (id:=0) (by kernel_rfl) ?_;rw[show nav C0 [1,1,0,1,0]=.loop (nav C0 [1,1,0,1,0,0]) by kernel_rfl];refine Ef (σ:=Nat) (λi a w=>i<=xs.length/\MS (N1 r) B [] W0 F0 [(r,ya (bb (chI (xs.take i))))] (EL xs i) a w) (λi=>xs.length - i) ?_ 0 ⟨abf _,hs⟩;rintro i a w ⟨hi,hs⟩;refine wpS ?_;refine aaG gg (keep:=[10,11,12,13]) (e':=[(10,.v .sh (.lst .row xs)),(11,.v .fr (.int .i64 (ba .row xs))),(12,.v .fr (.int .i64 i)),(13,.v .fr (.bool (cmp .lss i (ba .row xs))))]) (ps:=[]) (by kernel_rfl) trivial hs (λa w hs=>?_);refine wpS ?_;refine wpC (o:=.tmp 13) (hs.bool (k:=.fr) rfl) (λht=>Ed (by kernel_rfl) ?_) (λhf=>Wf (i:=0) (by kernel_rfl) ?_)
 .have hj:i<xs.length:=by
   have:decide ((i:Int)<ba .row xs)=true:=ht;have:=of_decide_eq_true this;unfold ba at this;omega
  show(nav C0 [1,1,0,1,0,0,1,1]).wp _ _ a w;refine wpS ?_;refine wpB (id:=1) ?_;refine wpS ?_
  refine aaG gg (keep:=[5,10,11,12]) (e':=[(5,.box [(.fr,.int .i64 (rd .row xs i).Key),(.fr,.int .i64 (rd .row xs i).Val),(.fr,.int .i64 (rd .row xs i).At.A),(.fr,.int .i64 (rd .row xs i).At.B),(.fr,.int .i64 (rd .row xs i).Diff)]),(10,.v .sh (.lst .row xs)),(11,.v .fr (.int .i64 (ba .row xs))),(12,.v .fr (.int .i64 i))])
   (ps:=[inb i (ba .row xs)]) (by kernel_rfl) ⟨⟨by omega,by unfold ba;omega⟩,trivial⟩ hs (λa w hs=>?_)
  refine BE hs (by kernel_rfl) ⟨rfl,rfl,rfl⟩ rfl (λd h1 h2=>?_) (Vj _).1 (λa w hs=>?_)
  .rcases (show d=16\/d=17\/d=18\/d=19\/d=20\/d=21\/d=22\/d=23\/d=24\/d=25\/d=26\/d=27\/d=28\/d=29 by omega) with rfl|rfl|rfl|rfl|rfl|rfl|rfl|rfl|rfl|rfl|rfl|rfl|rfl|rfl<;>rfl
  .show(nav C0 [1,1,0,1,0,0,1,1,1]).wp _ _ a w;refine aaG gg (keep:=[10,11,12]) (e':=EL xs (ar .add .i64 i 1)) (ps:=[]) (by kernel_rfl) trivial hs (λa w hs=>?_);refine⟨i+1,by omega,by omega,?_⟩;rw[CE hj];rw[Ji (by omega) (by omega)]at hs;exact hs
 .have hh:xs.length<=i:=by
   have:decide ((i:Int)<ba .row xs)=false:=hf;have:=of_decide_eq_false this;unfold ba at this;omega
  show aaC 0 Q (.exit 0) a w;simp only[aaC,if_true];refine hQ a w ?_;rw[aci hh]at hs;exact hs.weak (wa.cast (pat:=[]))
end Rw
namespace Rw
open Go
abbrev N2(it:Nat):NP:=⟨52,none,[(33,.pointer (some ⟨it,0,none⟩))]⟩
def E2(out:List Row):Env:=[(6,.box [(.acc true,.lst .row out)])]
theorem EE(m:MP)(S:List Nat){i:Nat}{p:List Int×Int}(hp:m[i]? = some p):Db m (S++[i])=Db m S++(if p.2=0 then [] else [mkI p]):=by
 unfold Db;rw[abd,acw,abd]
 congr 1
 have:m.getD i ([0,0,0,0,0],0)=p:=by rw[aap,hp];rfl
 simp only[abR,abU,this];by_cases h:p.2=0<;>simp[h]
theorem Zn(m:MP)(S:List Nat):(Db m S).length<=S.length:=by
 unfold Db;rw[abC];exact aaL (acl _ _) (by simp)
theorem op9:(o9 0).op=.next (.tmp 33) false/\(o9 0).dst=some 34/\(o9 0).guard=none/\(o9 1).op=.extract (.tmp 34) 0/\(o9 1).dst=some 35/\(o9 1).guard=none /\
  (o10 0).op=.entry (.tmp 33)/\(o10 0).dst=some 36/\(o10 0).guard=none/\(o10 1).op=.extract (.tmp 36) 0/\(o10 1).dst=some 37/\(o10 1).guard=none/\(o10 2).op=.extract (.tmp 36) 1/\(o10 2).dst=some 38/\(o10 2).guard=none:=by
 refine(by and_intros<;>kernel_rfl)
theorem at9:(opsOf (nav C0 [1,1,1,1,0,1,0,0,0]))[0]? = some (o9 0)/\(opsOf (nav C0 [1,1,1,1,0,1,0,0,0]))[1]? = some (o9 1)/\aaH (opsOf (nav C0 [1,1,1,1,0,1,0,0,0])).size=[0,1]:=⟨by kernel_rfl,by kernel_rfl,by kernel_rfl⟩
theorem Le:(opsOf (nav C0 [1,1,1,1,0,1,0,0,1,1,0,0]))[0]? = some (o10 0)/\(opsOf (nav C0 [1,1,1,1,0,1,0,0,1,1,0,0]))[1]? = some (o10 1)/\(opsOf (nav C0 [1,1,1,1,0,1,0,0,1,1,0,0]))[2]? = some (o10 2) /\
 (opsOf (nav C0 [1,1,1,1,0,1,0,0,1,1,0,0]))[3]? = some (o10 3)/\(opsOf (nav C0 [1,1,1,1,0,1,0,0,1,1,0,0]))[4]? = some (o10 4)/\(opsOf (nav C0 [1,1,1,1,0,1,0,0,1,1,0,0]))[5]? = some (o10 5) /\
 aaH (opsOf (nav C0 [1,1,1,1,0,1,0,0,1,1,0,0])).size=[0,1,2,3,4,5]:=(by and_intros<;>kernel_rfl)
set_option maxHeartbeats 1600000 in
theorem FE{m:MP}(hm:∀p∈m,∃k v t u,p.1=[k,v,t,u,0])(hlen:m.length<=1099511627775){Q:Exit->Act->World->Prop}{B:Nat}{W0:World}{F0:Fz}{r it:Nat}(hne:r≠it){a:Act}{w:World}
  (hs:MS (N2 it) B [] W0 F0 [(it,Qb r m []),(r,ya m)] (E2 []) a w)
  (hQ:∀S a w,S.Nodup->(∀i∈S,i<m.length)->(∀i,i<m.length->i∈S)->MS (N2 it) B [] W0 F0 [] (E2 (Db m S)) a w->Q .normal a w):(nav C0 [1,1,1,1,0,1]).wp aaq Q a w:=by
 refine Vf (c1:=nav C0 [1,1,1,1,0,1,0]) (id:=2) (by kernel_rfl) ?_;rw[show nav C0 [1,1,1,1,0,1,0]=.loop (nav C0 [1,1,1,1,0,1,0,0]) by kernel_rfl];refine Ef (σ:=List Nat) (λS a w=>S.Nodup/\(∀i∈S,i<m.length)/\MS (N2 it) B [] W0 F0 [(it,Qb r m S),(r,ya m)] (E2 (Db m S)) a w) (λS=>m.length - S.length) ?_ [] ⟨by simp,by simp,hs⟩;rintro S a w ⟨kj,ju,hs⟩;obtain⟨kx,hl,hw,ky,hn,ha,kq,hh,ho,kr,hi,hu,ks,hk,hv⟩:=op9;have hit:=hs.o (r:=it) (o:=Qb r m S) (by simp);have hr:=hs.o (r:=r) (o:=ya m) (by simp);have hc:a.tmps.getD 33 undef=.pointer (some ⟨it,0,none⟩):=hs.k (by simp);refine wpS ?_;refine Kc (by kernel_rfl) at9.2.2 ?_;rw[aav];refine va at9.1 hw ?_;rcases OP (P:=aaq) hr hit (o9 0).type with⟨hg,kp⟩|⟨i,p,n,ih,hp,kp⟩
 .refine Xa (kt kx (by rw[hc];exact kp)) ?_;rw[hl,aav];have h1:=hs.val (d:=34) (by kernel_rfl) (v:=.tuple #[.bool false]) (av:=.dead) rfl (λ_ _=>trivial);refine va at9.2.1 ha ?_;refine Xa (bh (vs:=#[.bool false]) ky (h1.k (by simp)) (v:=.bool false) (by simp)) ?_;rw[hn];have h2:=h1.val (d:=35) (by kernel_rfl) (v:=.bool false) (av:=.v .fr (.bool false)) rfl (λ_ _=>RC.bool _);refine xc _ ?_;show(nav C0 [1,1,1,1,0,1,0,0,1]).wp _ _ _ _;refine wpS ?_;refine wpC (o:=.tmp 35) (h2.bool (k:=.fr) (b:=false) rfl) (λht=>by cases ht) (λhf=>Wf (i:=2) (by kernel_rfl) ?_);show aaC 2 Q (.exit 2) _ _;simp only[aaC,if_true];refine hQ S _ _ kj ju hg ?_;exact(h2.weak (e':=E2 (Db m S)) (wa.cast (pat:=[(6,.same)]))).forget rfl rfl (λp hp=>by simp at hp⊢;simp[hp]) (λp hp=>by simp at hp)
 .obtain⟨k,v,t,u,ie⟩:=hm p (aco hp);obtain⟨pk,pv⟩:=p;simp only at ie kp;subst ie;have io:i<m.length:=(aax.1 hp).1;refine Xa (kt kx (by rw[hc];exact kp)) ?_;rw[hl,aav]
  have h0:=(hs.drew n).set (r:=it) (o0:=Qb r m S) (by simp) (w':=Dd { w with drawn:=n } it (Qb r m (S++[i]))) (Di _ _ _) (obs':=[(it,Qb r m (S++[i])),(r,ya m)]) (λq hq=>by
   simp only[List.mem_cons,List.not_mem_nil,or_false]at hq;rcases hq with rfl|rfl
   .exact .inr ⟨rfl,Ei hit,rfl⟩
   .exact .inl ⟨by simp,hne⟩)
  have h1:=h0.val (d:=34) (by kernel_rfl) (v:=.tuple #[.bool true,Na [k,v,t,u,0],.int .i64 pv]) (av:=.dead) rfl (λ_ _=>trivial);refine va at9.2.1 ha ?_;refine Xa (bh (vs:=#[.bool true,Na [k,v,t,u,0],.int .i64 pv]) ky (h1.k (by simp)) (v:=.bool true) (by simp)) ?_;rw[hn];have h2:=h1.val (d:=35) (by kernel_rfl) (v:=.bool true) (av:=.v .fr (.bool true)) rfl (λ_ _=>RC.bool _);refine xc _ ?_;show(nav C0 [1,1,1,1,0,1,0,0,1]).wp _ _ _ _;refine wpS ?_;refine wpC (o:=.tmp 35) (h2.bool (k:=.fr) (b:=true) rfl) (λht=>Ed (by kernel_rfl) ?_) (λhf=>by cases hf);show(nav C0 [1,1,1,1,0,1,0,0,1,1]).wp _ _ _ _;have h3:MS (N2 it) B [] W0 F0 [(it,Qb r m (S++[i])),(r,ya m)] (E2 (Db m S)) _ _:=(h2.weak (e':=E2 (Db m S)) (wa.cast (pat:=[(6,.same)]))).forget rfl rfl (λp hp=>by simp at hp⊢;simp[hp]) (λp hp=>hp);clear h0 h1 h2;generalize (a.put (some 34) _).put (some 35) _=a3 at h3⊢;generalize Dd { w with drawn:=n } it (Qb r m (S++[i]))=w3 at h3⊢;refine wpB (id:=3) ?_;refine wpS ?_;refine Kc (by kernel_rfl) Le.2.2.2.2.2.2 ?_;rw[aav];refine va Le.1 ho ?_;have ix:=h3.o (r:=it) (o:=Qb r m (S++[i])) (by simp);have kn:=h3.o (r:=r) (o:=ya m) (by simp);have he:a3.tmps.getD 33 undef=.pointer (some ⟨it,0,none⟩):=h3.k (by simp);refine Xa (iQ kq (by rw[he];exact PP kn ix hp ⟨S,rfl⟩)) ?_;rw[hh,aav];have h4:=h3.val (d:=36) (by kernel_rfl) (v:=.tuple #[Na [k,v,t,u,0],.int .i64 pv]) (av:=.dead) rfl (λ_ _=>trivial);refine va Le.2.1 hu ?_;refine Xa (bh (vs:=#[Na [k,v,t,u,0],.int .i64 pv]) kr (h4.k (by simp)) (v:=Na [k,v,t,u,0]) (by simp)) ?_;rw[hi,aav];have h5:=h4.val (d:=37) (by kernel_rfl) (v:=Na [k,v,t,u,0]) (av:=.agg true [.int .i64 k,.int .i64 v,.int .i64 t,.int .i64 u,.int .i64 0]) rfl (λ_ _=>⟨[.int .i64 k,.int .i64 v,.int .i64 t,.int .i64 u,.int .i64 0],rfl,.cons (.int _ _) (.cons (.int _ _) (.cons (.int _ _) (.cons (.int _ _) (.cons (.int _ _) .nil))))⟩);refine va Le.2.2.1 hv ?_;refine Xa (bh (vs:=#[Na [k,v,t,u,0],.int .i64 pv]) ks (h5.k (by simp)) (v:=.int .i64 pv) (by simp)) ?_;rw[hk];have h6:=h5.val (d:=38) (by kernel_rfl) (v:=.int .i64 pv) (av:=.v .fr (.int .i64 pv)) rfl (λ_ _=>RC.int _ _)
  have h7:MS (N2 it) B [] W0 F0 [(it,Qb r m (S++[i])),(r,ya m)] [(6,.box [(.acc true,.lst .row (Db m S))]),(37,.agg true [.int .i64 k,.int .i64 v,.int .i64 t,.int .i64 u,.int .i64 0]),(38,.v .fr (.int .i64 pv))] _ _:=(h6.weak (wa.cast (pat:=[(6,.same),(37,.same),(38,.same)]))).forget rfl rfl (λp hp=>by simp at hp⊢;simp[hp]) (λp hp=>hp)
  clear h4 h5 h6;generalize ((a3.put (some 36) _).put (some 37) _).put (some 38) _=a7 at h7⊢
  refine MS.suf (l:=[o10 3,o10 4,o10 5]) (i:=3) gg (keep:=[6,7,8]) (e':=[(6,.box [(.acc true,.lst .row (Db m S))]),(7,.box [(.fr,.int .i64 k),(.fr,.int .i64 v),(.fr,.int .i64 t),(.fr,.int .i64 u),(.fr,.int .i64 0)]),(8,.v .fr (.int .i64 pv))]) (ps:=[])
   (λj o hj=>by
     match j,hj with
     |0,hj=>simp at hj;subst hj;exact Le.2.2.2.1
     |1,hj=>simp at hj;subst hj;exact Le.2.2.2.2.1
     |2,hj=>simp at hj;subst hj;exact Le.2.2.2.2.2.1
     |j+3,hj=>simp at hj) (by kernel_rfl) (by kernel_rfl) trivial h7 (λa w hs=>?_)
  show(nav C0 [1,1,1,1,0,1,0,0,1,1,0,1]).wp _ _ _ _;refine wpS ?_;refine aaG gg (keep:=[6,7,8,40]) (e':=[(6,.box [(.acc true,.lst .row (Db m S))]),(7,.box [(.fr,.int .i64 k),(.fr,.int .i64 v),(.fr,.int .i64 t),(.fr,.int .i64 u),(.fr,.int .i64 0)]),(8,.v .fr (.int .i64 pv)),(40,.v .fr (.bool (cmp .neq pv 0)))]) (ps:=[]) (by kernel_rfl) trivial hs (λa w hs=>?_);have kk:(S++[i]).Nodup:=acz.2 ⟨kj,by simp,λx hx y hy e=>by simp at hy;subst hy;subst e;exact ih hx⟩
  have jb:∀j∈S++[i],j<m.length:=λj hj=>by
   rcases abn.1 hj with hj|hj
   .exact ju j hj
   .simp at hj;subst hj;exact io
  have ki:m.length - (S++[i]).length<m.length - S.length:=by
   have:=Wj kk jb;simp at this⊢;omega
  have km:=EE m S hp;refine wpC (o:=.tmp 40) (hs.bool (k:=.fr) rfl) (λht=>?_) (λhf=>Ed (by kernel_rfl) ?_)
  .have hz:pv≠0:=by
    have:(pv != 0)=true:=ht;simpa using this
   refine wpS ?_;refine aaG gg (keep:=[6,7]) (e':=[(6,.box [(.acc true,.lst .row (Db m S))]),(7,.box [(.fr,.int .i64 k),(.fr,.int .i64 v),(.fr,.int .i64 t),(.fr,.int .i64 u),(.fr,.int .i64 pv)])]) (ps:=[]) (by kernel_rfl) trivial hs (λa w hs=>?_);refine aaG gg (keep:=[6]) (e':=E2 (Db m S++[⟨k,v,⟨t,u⟩,pv⟩])) (ps:=[lim (ba .row (Db m S)) (ba .row [⟨k,v,⟨t,u⟩,pv⟩])]) (by kernel_rfl) ⟨?_,trivial⟩ hs (λa w hs=>?_)
   .have h1:=Zn m S;have h2:=Wj kj ju;show((Db m S).length:Int)+1<=1099511627776;omega
   .refine⟨S++[i],ki,kk,jb,?_⟩;rw[km,if_neg hz];exact hs
  .have hz:pv=0:=by
    have:(pv != 0)=false:=hf;simpa using this
   refine⟨S++[i],ki,kk,jb,?_⟩;rw[km,if_pos hz,List.append_nil];exact hs.weak (wa.cast (pat:=[(6,.same)]))
end Rw
namespace Rw
open Go Go.Sort Go.RowKit Go.Lib
theorem GE{N:NP}{B:Nat}{W0:World}{F0:Fz}{obs:List (Nat×Obj)}{e:Env}{a:Act}{w:World}{s:Nat}{out:List Row}(hs:MS N B [] W0 F0 obs e a w)(hg:da e s=.box [(.acc true,.lst .row out)]) :
  ∃ Bs sl,a.tmps.getD s undef=.pointer (some ⟨Bs,0,none⟩)/\Blk w Bs [sl]/\B<=Bs/\((out=[]/\sl=.slice none 0 0)\/∃blk cap cs,sl=.slice (some ⟨blk,0,none⟩) out.length cap/\Blk w blk cs/\cs.length=cap*5/\out.length<=cap/\B<=blk/\blk≠Bs /\
    ∀i x,out[i]? = some x->∀j,j<5->cs[i*5+j]? = (encI x)[j]?):=by
 obtain⟨F,ow,hx⟩:=hs.sim.rep;obtain⟨Bs,us,hu,how,hm,_,hlen,hn⟩:=hx.box hg
 match us,hlen with
 |[sl],_=>
  have hh:B<=Bs:=(hx.bd _ _ _ how).2.elim id (λh=>by simp at h);have hk:Ca F (lof B true) w (ow s (some 0)) (.lst .row out) sl:=hn 0 _ sl rfl rfl;obtain⟨ht,hd⟩:=hk;refine⟨Bs,sl,hu,hm,hh,?_⟩;rcases hd with⟨t,e1,e2⟩|⟨t,xs,blk,cap,cs,e1,e2,e3,e4,e5,e6⟩
  .left;have e1:C.lst .row out=.lst t []:=e1;cases e1;exact⟨rfl,e2⟩
  .right;have e1:C.lst .row out=.lst t xs:=e1;cases e1;have hl:B<=blk:=(hx.bd _ _ _ e3).2.elim id (λh=>by simp at h)
   have hq:blk≠Bs:=λe=>by
    subst e;have:=(hx.inj _ _ _ _ _ how e3).2;cases this
   subst e2;cases ht with
   |lst _ _ b o cap vs hb hcap hf hc hr=>
    refine⟨blk,cap,cs,rfl,e4,e5,hcap,hl,hq,λi x hi j hj=>?_⟩;have hp:=(aax.1 hi).1;have h1:=hc i j hp hj;rw[aaM,e4.cell]at h1;have h1:cs[i*5+j]? = some (vs i j):=h1;rw[h1];have ho:(cells .row x)[j]? = some ((cells .row x)[j]'(by simp[cells];exact hj)):=aal _;have h2:=hr i j x _ hi ho;rcases (show j=0\/j=1\/j=2\/j=3\/j=4 by omega) with rfl|rfl|rfl|rfl|rfl
    .have h2:RC F (lof B true) w (.int .i64 x.Key) (vs i 0):=h2;rw[RC.int_inv h2];rfl
    .have h2:RC F (lof B true) w (.int .i64 x.Val) (vs i 1):=h2;rw[RC.int_inv h2];rfl
    .have h2:RC F (lof B true) w (.int .i64 x.At.A) (vs i 2):=h2;rw[RC.int_inv h2];rfl
    .have h2:RC F (lof B true) w (.int .i64 x.At.B) (vs i 3):=h2;rw[RC.int_inv h2];rfl
    .have h2:RC F (lof B true) w (.int .i64 x.Diff) (vs i 4):=h2;rw[RC.int_inv h2];rfl
theorem holds_of{w:World}{blk cap:Nat}{cs:List Value}{out:List Row}(hb:Blk w blk cs)(hlen:cs.length=cap*5)(hcs:∀i x,out[i]? = some x->∀j,j<5->cs[i*5+j]? = (encI x)[j]?):HoldsK encI 5 w blk 0 out.toArray:=by
 have _:=hlen;intro t ht;rw[size_flatK]at ht
 have hi:t / 5<out.length:=by
  have:out.toArray.size=out.length:=by simp
  omega
 have hj:t % 5<5:=acp _ (by omega);refine⟨?_,hb.frozen _⟩;rw[aaM,hb.cell,get_flatK _ _ _ _ ht];have h1:=hcs (t / 5) out[t / 5] (aal hi) (t % 5) hj;rw[show t / 5*5+t % 5=t by omega]at h1;rw[h1];have h2:out.toArray[t / 5]! = out[t / 5]:=by simp[hi]
 rw[h2];have hl:(encI out[t / 5]).length=5:=rfl;rw[aal (by omega),getElem!_pos (encI out[t / 5]) (t % 5) (by omega)];rfl
theorem IE{w:World}{n blk:Nat}{d:Array Row}{k:Nat}(h:k≠blk):(aan encI 5 (aar w n) blk 0 d).heap[k]? = w.heap[k]?:=by
 show(w.heap.modify blk _)[k]? = _;rw[abj,if_neg (λe=>h e.symm)]
theorem JE{w:World}{n blk:Nat}{d:Array Row}:(aan encI 5 (aar w n) blk 0 d).heap.size=w.heap.size:=by
 show(w.heap.modify blk _).size=_;simp
theorem LE{N:NP}{B:Nat}{W0:World}{F0:Fz}{obs:List (Nat×Obj)}{e:Env}{a a':Act}{w:World}{s:Nat}{out ys:List Row}(hs:MS N B [] W0 F0 obs e a w)(hL:Live F0 W0){Bs blk cap:Nat}{cs:List Value}
  (hB:Blk w Bs [.slice (some ⟨blk,0,none⟩) out.length cap]) (hBs:B<=Bs) (hb:Blk w blk cs) (hlen:cs.length=cap*5) (hcap:out.length<=cap) (hbl:B<=blk) (hne:blk≠Bs) (hH:HoldsK encI 5 w blk 0 out.toArray)
  (hy:ys.length=out.length) {n:Nat}{os:Array Obj} (hdf:a'.defers=[]) (hsz:a'.tmps.size=N.n) (htm:a'.tmps.getD s undef=.pointer (some ⟨Bs,0,none⟩)) :
  MS ⟨N.n,none,[]⟩ B [] W0 F0 [] [(s,.box [(.acc true,.lst .row ys)])] a' (grow (aan encI 5 (aar w n) blk 0 ys.toArray) os):=by
 generalize hw:grow (aan encI 5 (aar w n) blk 0 ys.toArray) os=w';have ih:(aan encI 5 (aar w n) blk 0 ys.toArray).heap.size=w.heap.size:=JE;have hold:∀k,k<w.heap.size->k≠blk->w'.heap[k]? = w.heap[k]?:=λk hk h=>by rw[<-hw,ff (by rw[ih];exact hk),IE h]
 have io:w.heap.size<=w'.heap.size:=by rw[<-hw];show w.heap.size<=(_++os).size;rw[acA,ih];omega
 have ix:ys.toArray.size=out.toArray.size:=by simp[hy]
 have hq:HoldsK encI 5 (aan encI 5 (aar w n) blk 0 ys.toArray) blk 0 ys.toArray:=abL _ _ _ blk 0 out.toArray ys.toArray (abX _ _ _ _ _ _ _ hH) ix
 have hz:∀i x,ys[i]? = some x->∀j,j<5->w'.cell? ⟨blk,i*5+j,none⟩=(encI x)[j]?:=by
  intro i x hi j hj;have he:=(aax.1 hi).1;have h1:=(hq.cell (i:=i) (c:=j) (by simpa using he) hj).1;rw[aaM]at h1
  have h2:w'.cell? ⟨blk,i*5+j,none⟩=(aan encI 5 (aar w n) blk 0 ys.toArray).cell? ⟨blk,i*5+j,none⟩:=by
   rw[<-hw];exact cell_of_heap (ff (by rw[ih];exact hb.lt))
  rw[h2,h1]
  have h3:ys.toArray[i]! = x:=by
   rw[aal he]at hi;simp only[abw]at hi;simp[he,hi]
  rw[h3];have hl:(encI x).length=5:=rfl;rw[aal (by omega),getElem!_pos (encI x) j (by omega)]
 have hr:∃hh,Blk w' blk hh/\hh.length=cap*5:=by
  obtain⟨t,ht⟩:=hb;refine⟨(putCells id 0 (flatK encI 5 ys.toArray) cs.toArray).toList,⟨t,?_⟩,by simp[putCells,hlen]⟩;rw[<-hw,ff (by rw[ih];exact(aaw.1 ht).1)];show(w.heap.modify blk _)[blk]? = _;rw[abj,if_pos rfl,ht];simp[onCells]
 obtain⟨hh,hr,ha⟩:=hr;have hm:Blk w' Bs [.slice (some ⟨blk,0,none⟩) out.length cap]:=hB.same (hold Bs hB.lt (Ne.symm hne))
 have hg:∀k,k<B->w'.heap[k]? = W0.heap[k]?:=λk hk=>by
  rw[hold k (aaU hk hs.sim.base) (by omega)];exact hs.kept.block k hk (by simp)
 have hf:Kept B [] W0 w':=by
  refine⟨?_,?_,?_,aaL hs.kept.size io,λk hk _=>hg k hk,λk o hk hc=>?_⟩
  .rw[<-hw];exact hs.kept.os
  .rw[<-hw];exact hs.kept.tape
  .rw[<-hw];exact hs.kept.output
  .rw[hg k (by rw[hs.hB];exact(aaw.1 hk).1)];exact hk
 have hp:∀b o,F0 b o->b<B:=λb o h=>by rw[hs.hB];exact hL.lt h
 let F':Fz:=λb o=>F0 b o\/(b=blk/\o<out.length*5)
 refine⟨⟨hdf,⟨hsz,(λs h=>by cases h),(λp h=>by cases h)⟩,aaL hs.sim.base io,λb o h=>⟨hp b o h,by simp⟩,Kept.refl _ _ _,F',
  λn i=>if n=s then(match i with|none=>some Bs|some 0=>some blk|some _=>none) else none,?_⟩,hf,(λp h=>by cases h),hs.hB⟩
 obtain⟨F1,ow1,hx1⟩:=hs.sim.rep;have it:Xe B [] F0 F':=hx1.sub.to λb o h=>.inl h;refine⟨it,λb o h=>h.imp_right (λh=>by omega),it.live hL (λk hk _=>hg k (Nat.lt_of_not_le λh=>hk (.inl h))) λb o h=>?_,λs1 i1 s2 i2 b h1 h2=>?_,λs1 i1 b h1=>?_,λn=>?_⟩
 .rcases h with h|⟨rfl,h⟩
  .rw[cell_of_heap (hg b (hp b o h))];exact hL b o h
  .have hi:o / 5<ys.length:=by omega
   have:=hz (o / 5) ys[o / 5] (aal hi) (o % 5) (acp _ (by omega));rw[show o / 5*5+o % 5=o by omega]at this;rw[this,aal (by show _<5;omega)];rfl
 .by_cases e1:s1=s<;>by_cases e2:s2=s<;>simp only[e1,e2,if_true,if_false]at h1 h2
  .refine⟨by rw[e1,e2],?_⟩
   match i1,i2,h1,h2 with
   |none,none,_,_=>rfl
   |none,some 0,h1,h2=>simp at h1 h2;omega
   |some 0,none,h1,h2=>simp at h1 h2;omega
   |some 0,some 0,_,_=>rfl
   |some (_+1),_,h1,_=>simp at h1
   |none,some (_+1),_,h2=>simp at h2
   |some 0,some (_+1),_,h2=>simp at h2
  .simp at h2
  .simp at h1
  .simp at h1
 .by_cases e1:s1=s
  .simp only[e1,if_true]at h1
   match i1,h1 with
   |none,h1=>simp at h1;subst h1;exact⟨hm.lt,.inl hBs⟩
   |some 0,h1=>simp at h1;subst h1;exact⟨hr.lt,.inl hbl⟩
   |some (_+1),h1=>simp at h1
  .simp[e1]at h1
 .simp only[da];cases hn:Nat.beq s n with
  |false=>trivial
  |true=>
   have:=abA hn;subst this;refine⟨Bs,[.slice (some ⟨blk,0,none⟩) out.length cap],htm,by simp,hm,λo h=>?_,rfl,λj kc u hk hu=>?_⟩
   .rcases h with h|⟨h,_⟩
    .have:=hp _ _ h;omega
    .exact hne h.symm
   .match j,hk,hu with
    |0,hk,hu=>
     simp only[acd,abw]at hk hu;subst hk;subst hu;simp only[if_true];rw[<-hy]
     refine⟨.lst .row ys blk 0 cap (λi j=>(encI (ys.getD i ⟨0,0,⟨0,0⟩,0⟩)).getD j undef) hbl (by omega) (λi j hi hj=>.inr ⟨rfl,by rw[aaM,<-hy];exact Vg hi hj⟩) (λi j hi hj=>?_) (λi j x c hx hc=>?_),
      .inr ⟨.row,ys,blk,cap,hh,rfl,rfl,rfl,hr,ha,λo ho h=>?_⟩⟩
     .have hj:j<5:=hj;have h1:=hz i ys[i] (aal hi) j hj;show w'.cell? ⟨blk,0+(i*5+j),none⟩=_;rw[aaM,h1];have hl:(encI ys[i]).length=5:=rfl;rw[aal (by omega)];simp[aap,aal hi,aal (show j<(encI ys[i]).length by omega)]
     .have hv:ys.getD i ⟨0,0,⟨0,0⟩,0⟩=x:=by rw[aap,hx];rfl
      rw[hv]
      have hj:j<5:=by
       have:=(aax.1 hc).1;simpa [cells] using this
      rcases (show j=0\/j=1\/j=2\/j=3\/j=4 by omega) with rfl|rfl|rfl|rfl|rfl<;>(simp[cells]at hc;subst hc;exact RC.int _ _)
     .rcases h with h|⟨_,h⟩
      .have:=hp _ _ h;omega
      .have ho:ys.length*5<=o:=ho;omega
    |j+1,hk,hu=>simp at hk
theorem ME{xs:List Row}{S:List Nat}(hnd:S.Nodup)(hlt:∀i∈S,i<(bb (chI xs)).length)(hall:∀i,i<(bb (chI xs)).length->i∈S){ys:List Row}(hp:ys.Perm (Db (bb (chI xs)) S))
  (hso:∀i j,i<j->j<ys.length->ltI (ys.getD j ⟨0,0,⟨0,0⟩,0⟩) (ys.getD i ⟨0,0,⟨0,0⟩,0⟩)=false):ys=gathI xs:=by
 have hm:=Vj xs;generalize hM:bb (chI xs)=m at hlt hall hp hm;have hs:(oa m).Nodup:=by rw[<-hM];exact En _
 have hS:S.Perm (aaH m.length):=(abS hnd List.nodup_range).2 λi=>⟨λh=>abK.2 (hlt i h),λh=>hall i (abK.1 h)⟩
 have hn:(aaH m.length).map (λi=>m.getD i (([0,0,0,0,0]:List Int),(0:Int)))=m:=by
  apply acB;intro i;rw[acC];by_cases h:i<m.length
  .rw[acv h];simp[aap,aal h]
  .rw[abk (by simpa using h),abk (by omega)];rfl
 have ht:ys.Perm ((m.filter λp=>p.2 != 0).map mkI):=by
  refine hp.trans ?_;unfold Db;have:=((hS.map λi=>m.getD i (([0,0,0,0,0]:List Int),(0:Int))).filter λp=>p.2 != 0).map mkI;rw[hn]at this;exact this
 have hk:∀p∈m,(kI (mkI p),(mkI p).Diff)=p:=λp hp=>by
  obtain⟨k,v,t,u,h⟩:=hm.2 p hp;obtain⟨ks,c⟩:=p;simp only at h;subst h;rfl
 have hu:(ys.map λx=>(kI x,x.Diff)).Perm (m.filter λp=>p.2 != 0):=by
  have h1:=ht.map λx=>(kI x,x.Diff)
  have h2:((m.filter λp=>p.2 != 0).map mkI).map (λx=>(kI x,x.Diff))=m.filter λp=>p.2 != 0:=by
   rw[abW]
   conv=>rhs;rw[<-acj (m.filter λp=>p.2 != 0)]
   exact abm (λp hp=>hk p (abp.1 hp).1)
  rw[h2]at h1;exact h1
 have ho:(oa (ys.map λx=>(kI x,x.Diff))).Nodup:=by
  have h1:(oa (m.filter λp=>p.2 != 0)).Nodup:=hs.sublist (aby _ abb);exact(hu.map (λp:List Int×Int=>p.1)).nodup_iff.2 h1
 have hh:Asc (ys.map λx=>(kI x,x.Diff)):=by
  refine aaX.2 ?_;intro i j hi hj hl;simp only[abC]at hi hj;simp only[List.getElem_map];have h1:=hso i j hl hj;rw[aap,aap,aal hi,aal hj]at h1;simp only[acE]at h1
  have hq:kI ys[i]≠kI ys[j]:=by
   intro e;have h2:(oa (ys.map λx=>(kI x,x.Diff)))[i]'(by simp[oa];exact hi)=(oa (ys.map λx=>(kI x,x.Diff)))[j]'(by simp[oa];exact hj):=by simpa [oa] using e
   exact absurd h2 (aaX.1 ho i j (by simp[oa];exact hi) (by simp[oa];exact hj) hl)
  simp only[ltI,ltT,abD,abB,decide_eq_false_iff_not]at h1;have hr:¬ (ys[i].Key=ys[j].Key/\ys[i].Val=ys[j].Val/\ys[i].At.A=ys[j].At.A/\ys[i].At.B=ys[j].At.B):=λ⟨a,b,c,d⟩=>hq (by simp[kI,a,b,c,d]);simp only[kI,ltK,acf,abl,decide_eq_true_eq];omega
 have hg:(ys.map λx=>(kI x,x.Diff))=Xc (chI xs):=by
  unfold Xc;rw[hM];have hv:=hu.trans (Gn (m.filter λp=>p.2 != 0)).symm;refine XD hv hh (et (n:=5) (hs.sublist (aby _ abb)) (λp hp=>hm.1 p (abp.1 hp).1))
 unfold gathI;rw[<-hg,abW]
 conv=>lhs;rw[<-acj ys]
 exact abm (λx _=>by cases x;rfl)
end Rw
namespace Rw
open Go Go.Proofs Go.Shelf Go.RowKit Go.Lib Go.Sort
theorem UY{P:aaK}{a:Act}{w:World}{o:Oper}{t x y:Nat}(hop:o.op=.indexAddr t (.tmp x) (.tmp y)){b f len cap n:Nat}(hx:a.tmps.getD x undef=.slice (some ⟨b,f,none⟩) len cap)(hy:a.tmps.getD y undef=.int .i64 n)(hn:n<len)
  {e sz:Nat} (he:P.underlying t=some (.slice e)) (hz:∀w,(sizeOf e).run P w=.ok sz w):(execOp a.eval o).run P w=.ok (.value (.pointer (some ⟨b,f+n*sz,none⟩))) w:=by
 obtain⟨hh,op,ty,pos,aft,gd⟩:=o;simp only[]at hop;subst hop;refine ze (s:=Instr.indexAt t (a.tmps.getD x undef) (a.tmps.getD y undef)) rfl ?_;rw[hx,hy];have:=nn he hz (w:=w) (b:=b) (o:=f) (len:=len) (cap:=cap) (k:=.i64) (i:=(n:Int)) (by omega) (by omega);simpa using this
theorem Jaj{P:aaK}{a:Act}{w:World}{o:Oper}{v:Value}(hop:o.op=.assign (.const v)):(execOp a.eval o).run P w=.ok (.value v) w:=by
 obtain⟨hh,op,ty,pos,aft,gd⟩:=o;simp only[]at hop;subst hop;rfl
theorem Kaj{P:aaK}{a:Act}{w:World}{o:Oper}{f x y t u:Nat}{fn:Func}(hop:o.op=.call ⟨.value (.func f),#[.tmp x,.tmp y],#[t,u]⟩)(hfn:P.funcs[f]? = some fn)(hname:(fn.name == "runtime.NumGoroutine")=false)(hbody:fn.body.isNone=false) :
  (execOp a.eval o).run P w=.ok (.enter f #[a.tmps.getD x undef,a.tmps.getD y undef]) w:=by
 obtain⟨hh,op,ty,pos,aft,gd⟩:=o;simp only[]at hop;subst hop;have hj:¬ fn.name="runtime.NumGoroutine":=by simpa using hname
 have hi:¬ fn.body=none:=by intro e;rw[e]at hbody;simp at hbody
 simp[execOp,resolve,Act.eval,acF,invoke,aat,hfn,hj,hi]
noncomputable def cL:Code:=pg Tryz.f130
noncomputable def oL(i:Nat):Oper:=opN (opsOf (nav cL [1,0])) i
theorem opL:(∀i,i<9->(oL i).dst=some (6+i)/\(oL i).guard=none)/\(oL 9).dst=some 5/\(oL 9).guard=none /\
  (oL 0).op=.load 43 (.tmp 2)/\(oL 1).op=.move (.tmp 0)/\(oL 2).op=.indexAddr 43 (.tmp 6) (.tmp 7)/\(oL 3).op=.load 79 (.tmp 8)/\(oL 4).op=.load 43 (.tmp 2)/\(oL 5).op=.move (.tmp 1) /\
  (oL 6).op=.indexAddr 43 (.tmp 10) (.tmp 11)/\(oL 7).op=.load 79 (.tmp 12)/\(oL 8).op=.call ⟨.value (.func 114),#[.tmp 9,.tmp 13],#[79, 79]⟩/\(oL 9).op=.assign (.tmp 14):=by
 refine⟨λi hi=>?_,by kernel_rfl,by kernel_rfl,by kernel_rfl,by kernel_rfl,by kernel_rfl,by kernel_rfl,by kernel_rfl,by kernel_rfl,by kernel_rfl,by kernel_rfl,by kernel_rfl,by kernel_rfl⟩;rcases (show i=0\/i=1\/i=2\/i=3\/i=4\/i=5\/i=6\/i=7\/i=8 by omega) with rfl|rfl|rfl|rfl|rfl|rfl|rfl|rfl|rfl<;>exact⟨by kernel_rfl,by kernel_rfl⟩
theorem tdT:Sb aaq 43 ⟨.slice 79,1,[.nl .row],some .lrow,false⟩:=ef.td _ _ (by kernel_rfl)
def cC(x:Row):Value:=.agg (encI x).toArray
structure JL(a0:Act)(w1:World)(V:Nat->Value)(L:Nat->Bool)(a:Act)(w:World):Prop where
 df:a.defers=[]
 sz:a.tmps.size=a0.tmps.size
 vs:∀i,i<9->L i=true->a.tmps.getD (6+i) undef=V i
 r5:L 9=true->a.tmps.getD 5 undef=V 8
 ot:∀n,n<5->a.tmps.getD n undef=a0.tmps.getD n undef
 wd:∃q,w=later w1 q
theorem JL.put{a0:Act}{w1:World}{V:Nat->Value}{L:Nat->Bool}{a:Act}{w w':World}(h:JL a0 w1 V L a w)(h15:a0.tmps.size=15){i:Nat}(hi:i<9)(hL9:L 9=false)(hw:∃q,w'=later w1 q):JL a0 w1 V (λj=>if j=i then true else L j) (a.put (some (6+i)) (V i)) w':=by
 have hs:6+i<a.tmps.size:=by rw[h.sz];omega
 refine⟨h.df,by rw[Ye];exact h.sz,λj hj hL=>?_,λh9=>?_,λn hn=>?_,hw⟩
 .rw[Ja a _ _ hs];by_cases e:j=i
  .rw[if_pos (by omega),e]
  .rw[if_neg (by omega)];exact h.vs j hj (by simpa [e] using hL)
 .have e:¬ (9=i):=by omega
  simp[e,hL9]at h9
 .rw[Ja a _ _ hs,if_neg (by omega)];exact h.ot n hn
set_option maxHeartbeats 1600000 in
theorem uE(blk off c Bs size:Nat)(W:World)(G:Nat->Row)(hs:W.cell? ⟨Bs,0,none⟩=some (.slice (some ⟨blk,off,none⟩) size c))(hb1:blk<W.heap.size)(hb2:Bs<W.heap.size)
  (hk:∀t,t<size->∀j u,(encI (G t))[j]? = some u->W.cell? ⟨blk,off+t*5+j,none⟩=some u) (i j:Nat) (hi:i<size) (hj:j<size) :
  Calls aaq 130 #[.int .i64 i,.int .i64 j,.pointer (some ⟨Bs,0,none⟩)] W λe w'=>e=.returned (.bool (ltI (G i) (G j)))/\∃q,w'=later W q:=by
 obtain⟨ha,hz,hc,p0,p1,p2,p3,p4,p5,p6,p7,p8,p9⟩:=opL;refine calls_of_wp (fn:=Tryz.f130) (c:=cL) (by kernel_rfl) (by kernel_rfl) ?_;refine dh (c1:=nav cL [0]) (c2:=nav cL [1]) (by kernel_rfl) ?_;refine Kc (l:=[0]) (by kernel_rfl) (by kernel_rfl) ?_;rw[aav];refine va (o:=opN (opsOf (nav cL [0])) 0) (by kernel_rfl) (by kernel_rfl) ?_;refine Xa (Jaj (v:=.bool false) (by kernel_rfl)) ?_;rw[show(opN (opsOf (nav cL [0])) 0).dst=some 5 by kernel_rfl];refine xc _ ?_;show(nav cL [1]).wp _ _ _ _;refine wpS ?_;generalize hA0:({ tmps:=#[.int .i64 i,.int .i64 j,.pointer (some ⟨Bs,0,none⟩)]++Array.replicate ((Tryz.f130).ntmps - (#[.int .i64 i,.int .i64 j,.pointer (some ⟨Bs,0,none⟩)]:Array Value).size) undef,defers:=[] }:Act)=A0;have hh:A0.tmps.size=15:=by rw[<-hA0];kernel_rfl
 have z0:A0.tmps.getD 0 undef=.int .i64 i:=by rw[<-hA0];kernel_rfl
 have z1:A0.tmps.getD 1 undef=.int .i64 j:=by rw[<-hA0];kernel_rfl
 have z2:A0.tmps.getD 2 undef=.pointer (some ⟨Bs,0,none⟩):=by rw[<-hA0];kernel_rfl
 have zd:A0.defers=[]:=by rw[<-hA0]
 clear hA0;have hy:nav cL [1,0]=.region (ah (nav cL [1,0])) (opsOf (nav cL [1,0])) true:=by kernel_rfl
 have hsz:(opsOf (nav cL [1,0])).size=10:=by kernel_rfl
 generalize hA1:A0.put (some 5) (.bool false)=A1;have ie:A1.tmps.size=15:=by rw[<-hA1,Ye];exact hh
 have y0:A1.tmps.getD 0 undef=.int .i64 i:=by rw[<-hA1,Ja A0 _ _ (by omega),if_neg (by omega)];exact z0
 have y1:A1.tmps.getD 1 undef=.int .i64 j:=by rw[<-hA1,Ja A0 _ _ (by omega),if_neg (by omega)];exact z1
 have y2:A1.tmps.getD 2 undef=.pointer (some ⟨Bs,0,none⟩):=by rw[<-hA1,Ja A0 _ _ (by omega),if_neg (by omega)];exact z2
 have yd:A1.defers=[]:=by rw[<-hA1];exact zd
 clear hA1 z0 z1 z2 zd;let V:Nat->Value:=fun|0=>.slice (some ⟨blk,off,none⟩) size c|1=>.int .i64 i|2=>.pointer (some ⟨blk,off+i*5,none⟩)|3=>cC (G i)|4=>.slice (some ⟨blk,off,none⟩) size c|5=>.int .i64 j|6=>.pointer (some ⟨blk,off+j*5,none⟩)|7=>cC (G j)|_=>.bool (ltI (G i) (G j));have ix:∀w,(sizeOf 79).run aaq w=.ok 5 w:=λw=>by kernel_rfl
 have hv:∀(q:Ln) {b:Nat} (n:Nat),b<W.heap.size->(later { W with drawn:=W.drawn+1 } q).cell? ⟨b,n,none⟩=W.cell? ⟨b,n,none⟩:=λq b n hb=>by
  rw[sX (w:={ W with drawn:=W.drawn+1 }) (by exact hb)];rfl
 suffices H:∀QQ:Exit->Act->World->Prop,(∀L a w,(∀i,i<10->L i=true)->JL A1 { W with drawn:=W.drawn+1 } V L a w->QQ .normal a w)->(nav cL [1,0]).wp aaq QQ A1 W by
  refine H _ λL a' w' ht hJ=>?_;show(nav cL [1,1]).wp _ _ _ _;refine Ih (by kernel_rfl) ?_;obtain⟨q,rfl⟩:=hJ.wd;refine⟨hJ.df,a'.tmps.getD 5 undef,by kernel_rfl,?_,⟨1,#[]⟩+q,?_⟩
  .exact congrArg acH (hJ.r5 (ht 9 (by omega)))
  .rw[<-Gb];rfl
 intro QQ hr;rw[hy];refine acu gg.hm ?_;refine ED (J:=JL A1 { W with drawn:=W.drawn+1 } V) (by kernel_rfl) ?_ ?_ (opsOf (nav cL [1,0])).size _ A1 _ (by simp) (by simp) ?_ ?_
 .intro L a' w' k o hf hq hE hw hJ next hn;have hg:k<10:=by have:=(aaw.1 hf).1;omega
  have ho:o=oL k:=(tl hf).symm;have hl:∀m,Hh (oL k) m=true->L m=true:=λm hm=>rl (by rw[<-ho];exact hE) hm
  have hC:∀k m,k<10->L k=true->Hh (oL k) m=true->L m=true:=λk m hk hL hm=>by
   have ih:k<(opsOf (nav cL [1,0])).size:=by omega
   exact rl (λe he hb=>hw k (oL k) (by have:=abo ih;rw[this];exact congrArg some (tl this).symm) hL e he hb) hm
  obtain⟨q,rfl⟩:=hJ.wd;have t0:a'.tmps.getD 0 undef=.int .i64 i:=by rw[hJ.ot 0 (by omega)];exact y0
  have t1:a'.tmps.getD 1 undef=.int .i64 j:=by rw[hJ.ot 1 (by omega)];exact y1
  have t2:a'.tmps.getD 2 undef=.pointer (some ⟨Bs,0,none⟩):=by rw[hJ.ot 2 (by omega)];exact y2
  have hp:k<9->L 9=false:=λhk9=>by
   cases h:L 9 with
   |false=>rfl
   |true=>
    have h9:∀m,m<9->Hh (oL 9) m=true:=λm hm=>by
     rcases (show m=0\/m=1\/m=2\/m=3\/m=4\/m=5\/m=6\/m=7\/m=8 by omega) with rfl|rfl|rfl|rfl|rfl|rfl|rfl|rfl|rfl<;>kernel_rfl
    rw[hC 9 k (by omega) h (h9 k hk9)]at hq;cases hq
  have ju:∀(hi:k<9),(execOp a'.eval (oL k)).run aaq (later { W with drawn:=W.drawn+1 } q)=.ok (.value (V k)) (later { W with drawn:=W.drawn+1 } q)->wpOp aaq (opsOf (nav cL [1,0])) QQ k next a' (later { W with drawn:=W.drawn+1 } q):=by
   intro hi io;refine va hf (by rw[ho];exact(ha k hi).2) ?_;rw[ho];refine Xa io ?_;rw[(ha k hi).1];exact hn _ _ (hJ.put ie hi (hp hi) ⟨q,rfl⟩)
  rcases (show k=0\/k=1\/k=2\/k=3\/k=4\/k=5\/k=6\/k=7\/k=8\/k=9 by omega) with rfl|rfl|rfl|rfl|rfl|rfl|rfl|rfl|rfl|rfl
  .exact ju (by omega) (sg p0 t2 tdT rfl (by rw[hv q 0 hb2];exact hs))
  .exact ju (by omega) (by rw[cf p1,t0];rfl)
  .exact ju (by omega) (UY p2 (hJ.vs 0 (by omega) (hl 0 (by kernel_rfl))) (hJ.vs 1 (by omega) (hl 1 (by kernel_rfl))) hi (e:=79) (by kernel_rfl) ix)
  .exact ju (by omega) (pO p3 (hJ.vs 2 (by omega) (hl 2 (by kernel_rfl))) tdE rfl rfl (λm u hu=>by rw[hv q _ hb1];exact hk i hi m u hu))
  .exact ju (by omega) (sg p4 t2 tdT rfl (by rw[hv q 0 hb2];exact hs))
  .exact ju (by omega) (by rw[cf p5,t1];rfl)
  .exact ju (by omega) (UY p6 (hJ.vs 4 (by omega) (hl 4 (by kernel_rfl))) (hJ.vs 5 (by omega) (hl 5 (by kernel_rfl))) hj (e:=79) (by kernel_rfl) ix)
  .exact ju (by omega) (pO p7 (hJ.vs 6 (by omega) (hl 6 (by kernel_rfl))) tdE rfl rfl (λm u hu=>by rw[hv q _ hb1];exact hk j hj m u hu))
  .refine va hf (by rw[ho];exact(ha 8 (by omega)).2) ?_;rw[ho];unfold Oper.wp;rw[Kaj p8 (fn:=Tryz.f114) (by kernel_rfl) (by kernel_rfl) (by kernel_rfl),acg,show a'.tmps.getD 9 undef=cC (G i) from hJ.vs 3 (by omega) (hl 3 (by kernel_rfl)),show a'.tmps.getD 13 undef=cC (G j) from hJ.vs 7 (by omega) (hl 7 (by kernel_rfl))];refine(Iaj (G i) (G j) _).mono ?_;rintro e w' ⟨rfl,q',rfl⟩;show next _ _;rw[(ha 8 (by omega)).1];exact hn _ _ (hJ.put ie (by omega) (hp (by omega)) ⟨_,Gb _ _ _⟩)
  .refine va hf (by rw[ho];exact hc) ?_;rw[ho];refine Xa (ft p9) ?_;have h8:a'.tmps.getD 14 undef=V 8:=hJ.vs 8 (by omega) (hl 8 (by kernel_rfl));rw[hz,h8];have it:5<a'.tmps.size:=by rw[hJ.sz];omega
   refine hn _ _ ⟨hJ.df,by rw[Ye];exact hJ.sz,λm hm hL=>?_,λ_=>?_,λn hn=>?_,q,rfl⟩
   .rw[Ja a' _ _ it,if_neg (by omega)];exact hJ.vs m hm (by simpa [show m≠9 by omega] using hL)
   .rw[Ja a' _ _ it,if_pos rfl]
   .rw[Ja a' _ _ it,if_neg (by omega)];exact hJ.ot n hn
 .intro L a' w' ht hJ;exact hr L a' w' (λi hi=>ht i (by omega)) hJ
 .intro k o ho hL;simp only[aaA]at hL;by_cases hi:k<(opsOf (nav cL [1,0])).size
  .simp[hi]at hL
  .simp[hi]at hL
 .refine⟨yd,rfl,λk hk hL=>?_,λhL=>?_,λn _=>rfl,⟨0,(Pe _).symm⟩⟩
  .simp only[aaA]at hL;simp[hsz,show k<10 by omega]at hL
  .simp[aaA,hsz]at hL
theorem xE(blk off c Bs:Nat)(d:Array Row)(hsz:d.size<4611686018427387904)(w:World)(hH:HoldsK encI 5 w blk off d)(hblk:blk<w.heap.size)
  (hBs:w.cell? ⟨Bs,0,none⟩=some (.slice (some ⟨blk,off,none⟩) d.size c)) (hB1:Bs<w.heap.size) (hB2:Bs≠blk) :
  Calls aaq 129 #[.iface 43 (.slice (some ⟨blk,off,none⟩) d.size c),.func (.func 130) #[] #[.pointer (some ⟨Bs,0,none⟩)]] w λe w'=>
   e=.returned (.tuple #[])/\∃(d':Array Row) (n:Nat) (os:Array Obj),d'.toList.Perm d.toList/\(∀i j,i<j->j<d'.size->ltI d'[j]! d'[i]! = false)/\w'=grow (aan encI 5 (aar w n) blk off d') os:=by
 by_cases h2:2<=d.size
 .have hm:LessReadsK aaq 130 #[.pointer (some ⟨Bs,0,none⟩)] encI 5 ltI blk off d.size w:=by
   intro m os dk hs i j hi hj
   have e:aaB encI 5 w blk off m dk os=aan encI 5 (grow (aar w m) os) blk off dk:=by
    unfold aaB;rw[abF _ _ (aar w m) _ blk off _ hblk]
   have hh:HoldsK encI 5 (grow (aar w m) os) blk off d:=abh _ _ _ _ blk off d hblk (abX _ _ _ _ _ _ _ hH)
   have hn:w.heap.size<=(aaB encI 5 w blk off m dk os).heap.size:=by
    rw[e,abY,aaR];exact Nat.le_add_right _ _
   refine uE blk off c Bs d.size _ (λt=>dk[t]!) ?_ (by omega) (by omega) (λt ht k u hu=>?_) i j hi hj
   .rw[e,cell?_putRowK_other _ _ _ blk off dk _ (by exact hB2),acs _ _ _ (by exact hB1)];exact hBs
   .have hl:k<5:=by
     have:=(aax.1 hu).1;simpa [encI] using this
    rw[e];have:=((abL _ _ _ blk off d dk hh hs).cell (i:=t) (c:=k) (by omega) hl).1;rw[this];rcases (show k=0\/k=1\/k=2\/k=3\/k=4 by omega) with rfl|rfl|rfl|rfl|rfl<;>simpa [encI] using hu
  refine(Any.sort_Slice_cells_sorted sl6 43 79 svT svE (by kernel_rfl) (by kernel_rfl) (by kernel_rfl) (by kernel_rfl) 25 (λ_=>by kernel_rfl) encI 5 (λ_=>rfl) (by kernel_rfl) (λ_=>by kernel_rfl)
   (λx v hv=>by simp[encI]at hv;rcases hv with rfl|rfl|rfl|rfl|rfl<;>rfl) ltI tE 130 _
   (aaJ Tryz.func130 (by kernel_rfl) rfl) blk off c d h2 hsz 169 (by rw[vE _ h2];kernel_rfl) false
   (λargs W=>run_callFunc_extern Tryz.func169 (by kernel_rfl) (by kernel_rfl) (by kernel_rfl) (e:=abe false) (by kernel_rfl) args W) w hm hH hblk).mono ?_
  rintro e w' ⟨rfl,d',n,os,hp,hs,rfl⟩;refine⟨rfl,d',n,os,?_,λi j hij hj=>hs i j (abf _) hij (by rw[<-hp.1];exact hj),rfl⟩;have h3:=hp.2.2;have h4:d'.extract 0 d.size=d':=by rw[<-hp.1];simp
  rw[h4]at h3;simpa using h3
 .have hK:∃k,aaq.funcs.findIdx? (·.name == "internal/reflectlite"++".Swapper$"++toString (aaV d.size svE 25))=some k:=by
   rcases Nat.lt_or_ge d.size 1 with h|h
   .have hd:d.size=0:=by omega
    exact⟨161,by rw[hd,show aaV 0 svE 25=1 by kernel_rfl];kernel_rfl⟩
   .have hd:d.size=1:=by omega
    exact⟨162,by rw[hd,show aaV 1 svE 25=2 by kernel_rfl];kernel_rfl⟩
  obtain⟨k,hk⟩:=hK;refine(Any.sort_Slice_tiny sl6 43 79 svT svE (by kernel_rfl) (by kernel_rfl) (by kernel_rfl) (by kernel_rfl) 25 (λ_=>by kernel_rfl) (some ⟨blk,off,none⟩) d.size c (by omega) k hk (.func 130) #[] _ w).mono ?_;rintro e w' ⟨rfl,os,rfl⟩;refine⟨rfl,d,0,os,.refl _,λi j hij hj=>by omega,?_⟩;rw[show aar w 0=w from rfl,abZ encI 5 w blk off d hH]
end Rw
namespace Rw
open Go Go.Sort Go.RowKit Go.Lib
theorem PE:(o14 0).op=.load 43 (.tmp 6)/\(o14 0).dst=some 47/\(o14 0).guard=none/\(o14 1).op=.makeInterface 43 (.tmp 47)/\(o14 1).dst=some 48/\(o14 1).guard=none /\
  (o14 2).op=.makeFunc (.func 130) #[] #[.tmp 6]/\(o14 2).dst=some 49/\(o14 2).guard=none/\(o14 3).op=.call ⟨.value (.func 129),#[.tmp 48,.tmp 49],#[20, 141]⟩/\(o14 3).dst=some 50/\(o14 3).guard=none:=by
 refine(by and_intros<;>kernel_rfl)
theorem ug:(opsOf (nav C0 [1,1,1,1,1,0]))[0]? = some (o14 0)/\(opsOf (nav C0 [1,1,1,1,1,0]))[1]? = some (o14 1)/\(opsOf (nav C0 [1,1,1,1,1,0]))[2]? = some (o14 2)/\(opsOf (nav C0 [1,1,1,1,1,0]))[3]? = some (o14 3) /\
 aaH (opsOf (nav C0 [1,1,1,1,1,0])).size=[0,1,2,3]:=(by and_intros<;>kernel_rfl)
theorem QE{a:Act}{w:World}{o:Oper}(hop:o.op=.load 43 (.tmp 6)){Bs:Nat}{sl:Value}(hx:a.tmps.getD 6 undef=.pointer (some ⟨Bs,0,none⟩))(hb:Blk w Bs [sl]):(execOp a.eval o).run aaq w=.ok (.value sl) w:=sg hop hx tdT rfl (by rw[hb.cell];rfl)
theorem RE{out:List Row}(hlen:out.length<=1099511627776){Q:Exit->Act->World->Prop}{B:Nat}{W0:World}{F0:Fz}(hL:Live F0 W0){a:Act}{w:World}(hs:MS ⟨52,none,[]⟩ B [] W0 F0 [] (E2 out) a w)
  (hQ:∀ys a w,ys.Perm out->(∀i j,i<j->j<ys.length->ltI (ys.getD j ⟨0,0,⟨0,0⟩,0⟩) (ys.getD i ⟨0,0,⟨0,0⟩,0⟩)=false)->MS ⟨52,none,[]⟩ B [] W0 F0 [] (E2 ys) a w->Q .normal a w):(nav C0 [1,1,1,1,1,0]).wp aaq Q a w:=by
 obtain⟨p0,d0,g0,p1,d1,g1,p2,d2,g2,p3,d3,g3⟩:=PE;obtain⟨Bs,sl,h6,hB,ho,hu⟩:=GE (s:=6) hs rfl;have hsz:a.tmps.size=52:=hs.sim.tmps.size;refine Kc (by kernel_rfl) ug.2.2.2.2 ?_;rw[aav];refine va ug.1 g0 ?_;refine Xa (QE p0 h6 hB) ?_;rw[d0,aav];refine va ug.2.1 g1 ?_;refine Xa (kQ p1 (e:=79) (by kernel_rfl)) ?_;rw[d1,aav];refine va ug.2.2.1 g2 ?_;refine Xa (lQ p2) ?_;rw[d2,aav];refine va ug.2.2.2.1 g3 ?_;have hm:(a.put (some 47) sl).tmps.getD 47 undef=sl:=by rw[Ja a 47 sl (by omega),if_pos rfl]
 rw[hm];generalize ha1:a.put (some 47) sl=a1;have s1:a1.tmps.size=52:=by rw[<-ha1,Ye,hsz]
 have t1:a1.tmps.getD 6 undef=.pointer (some ⟨Bs,0,none⟩):=by rw[<-ha1,Ja a 47 sl (by omega),if_neg (by omega)];exact h6
 have hh:a1.defers=[]:=by rw[<-ha1];exact hs.sim.defers
 generalize ha2:a1.put (some 48) (.iface 43 sl)=a2;have s2:a2.tmps.size=52:=by rw[<-ha2,Ye,s1]
 have t2:a2.tmps.getD 6 undef=.pointer (some ⟨Bs,0,none⟩):=by rw[<-ha2,Ja a1 48 _ (by omega),if_neg (by omega)];exact t1
 have v2:a2.tmps.getD 48 undef=.iface 43 sl:=by rw[<-ha2,Ja a1 48 _ (by omega),if_pos rfl]
 have hi:a2.defers=[]:=by rw[<-ha2];exact hh
 rw[t2];generalize ha3:a2.put (some 49) (.func (.func 130) #[] #[.pointer (some ⟨Bs,0,none⟩)])=a3;have s3:a3.tmps.size=52:=by rw[<-ha3,Ye,s2]
 have t3:a3.tmps.getD 6 undef=.pointer (some ⟨Bs,0,none⟩):=by rw[<-ha3,Ja a2 49 _ (by omega),if_neg (by omega)];exact t2
 have v3:a3.tmps.getD 48 undef=.iface 43 sl:=by rw[<-ha3,Ja a2 49 _ (by omega),if_neg (by omega)];exact v2
 have u3:a3.tmps.getD 49 undef=.func (.func 130) #[] #[.pointer (some ⟨Bs,0,none⟩)]:=by rw[<-ha3,Ja a2 49 _ (by omega),if_pos rfl]
 have hl:a3.defers=[]:=by rw[<-ha3];exact hi
 unfold Oper.wp;rw[qR p3 Dl.1 Dl.2.1 Dl.2.2,acg,v3,u3];have s4:∀v,(a3.put (some 50) v).tmps.size=52:=λv=>by rw[Ye,s3]
 have t4:∀v,(a3.put (some 50) v).tmps.getD 6 undef=.pointer (some ⟨Bs,0,none⟩):=λv=>by rw[Ja a3 50 _ (by omega),if_neg (by omega)];exact t3
 rcases hu with⟨rfl,rfl⟩|⟨blk,cap,cs,rfl,hb,hv,ht,hr,ha,hw⟩
 .have hK : aaq.funcs.findIdx? (·.name == "internal/reflectlite"++".Swapper$"++toString (aaV 0 svE 25))=some 161:=by
   rw[show aaV 0 svE 25=1 by kernel_rfl];kernel_rfl
  refine(Any.sort_Slice_tiny sl6 43 79 svT svE (by kernel_rfl) (by kernel_rfl) (by kernel_rfl) (by kernel_rfl) 25 (λ_=>by kernel_rfl) none 0 0 (by omega) 161 hK (.func 130) #[] _ w).mono ?_;rintro e w' ⟨rfl,os,rfl⟩;show wpOps _ _ _ _ _ _;rw[d3];refine xc _ (hQ [] _ _ (.refl _) (λi j _ h=>by simp at h) ?_);have hg:Ua (λ_ _=>False) w (λ_ _=>False) (grow w os):=⟨rfl,rfl,rfl,by show w.heap.size<=(w.heap++os).size;simp,λk hk=>ff hk,λ_ _ h=>h,λ_ _ h=>.inl h⟩;obtain⟨F,ow,hx⟩:=hs.sim.rep
  have ih:ja B [] F0 (E2 []) (λn=>a.tmps.getD n undef) (grow w os) F ow:=hx.grow hs.sim.base ⟨hg.os,hg.tape,hg.output,hg.size,hg.block,λ_ _ h=>h,λ_ _ h=>.inl h⟩ (hx.live.next ⟨hg.os,hg.tape,hg.output,hg.size,hg.block,λ_ _ h=>h,λ_ _ h=>.inl h⟩ λb o h=>by
   rw[cell_of_heap (ff ((show Live F w from hx.live).lt h))];exact hx.live b o h)
  have hc:Sim ⟨52,none,[]⟩ B [] w F0 (E2 []) a (grow w os):=⟨hs.sim.defers,hs.sim.tmps,hs.sim.base,hs.sim.f0,⟨rfl,rfl,rfl,hg.size,λk hk _=>ff (aaU hk hs.sim.base),λk o hk _=>by
   rw[ff (aaw.1 hk).1];exact hk⟩,F,ow,ih⟩
  have hz:=hs.of_sim hc;refine hz.tmps (D:=[47,48,49,50]) (by kernel_rfl) (λd hd=>?_) rfl (by rw[show(a3.put (some 50) _).defers=a3.defers from rfl];exact hl) (by rw[s4,hsz]) (λn hn=>?_)
  .simp at hd;rcases hd with rfl|rfl|rfl|rfl<;>exact⟨rfl,rfl⟩
  .simp at hn;rw[Ja a3 50 _ (by omega),if_neg (by omega),<-ha3,Ja a2 49 _ (by omega),if_neg (by omega),<-ha2,Ja a1 48 _ (by omega),if_neg (by omega),<-ha1,Ja a 47 _ (by omega),if_neg (by omega)]
 .have hH:=holds_of hb hv hw;have hd:out.toArray.size=out.length:=by simp
  have hf:=xE blk 0 cap Bs out.toArray (by rw[hd];omega) w hH hb.lt (by rw[hd,hB.cell];rfl) hB.lt (Ne.symm ha);rw[hd]at hf;refine hf.mono ?_;rintro e w' ⟨rfl,d',n,os,hp,he,rfl⟩;show wpOps _ _ _ _ _ _;rw[d3];have hp:d'.toList.Perm out:=by simpa using hp
  have hq:=LE (a':=a3.put (some 50) (.tuple #[])) (s:=6) (ys:=d'.toList) (n:=n) (os:=os) hs hL hB ho hb hv ht hr ha hH hp.length_eq hl (s4 _) (t4 _);rw[acq]at hq;refine xc _ (hQ d'.toList _ _ hp (λi j hij hj=>?_) hq);have hy:j<d'.size:=by simpa using hj
  have:=he i j hij hy;rw[getElem!_pos d' j hy,getElem!_pos d' i (by omega)]at this;rw[aap,aap,aal hj,aal (show i<d'.toList.length by simp;omega)];simpa using this
end Rw
namespace Rw
open Go
theorem op1:(o1 0).op=.makeMap 139 none/\(o1 0).dst=some 9/\(o1 0).guard=none/\(o1 1).op=.assign (.tmp 9)/\(o1 1).dst=some 3/\(o1 1).guard=none /\
  (o8 0).op=.move (.tmp 3)/\(o8 0).dst=some 32/\(o8 0).guard=none/\(o8 1).op=.range 139 (.tmp 32)/\(o8 1).dst=some 33/\(o8 1).guard=none:=by
 refine(by and_intros<;>kernel_rfl)
theorem at1:(opsOf (nav C0 [1,0]))[0]? = some (o1 0)/\(opsOf (nav C0 [1,0]))[1]? = some (o1 1)/\aaH (opsOf (nav C0 [1,0])).size=[0,1] /\
 (opsOf (nav C0 [1,1,1,1,0,0]))[0]? = some (o8 0)/\(opsOf (nav C0 [1,1,1,1,0,0]))[1]? = some (o8 1)/\aaH (opsOf (nav C0 [1,1,1,1,0,0])).size=[0,1]:=(by and_intros<;>kernel_rfl)
set_option maxHeartbeats 800000 in
theorem con_impl_consolidated:Con aaq 118 sO:=by
 refine ol ef (fn:=Tryz.f118) (c:=C0) (by kernel_rfl) (by kernel_rfl) (by kernel_rfl) (rs:=[.tmp 2]) (by kernel_rfl) (by kernel_rfl) (λ_=>rfl) ?_;intro x hx fr hm hn hl a w hs;obtain⟨B,IoB,W0,F0⟩:=fr;have hl:IoB=[]:=hl rfl;subst hl;obtain⟨xs,u⟩:=x;have ho:lim (ba .row xs) 1:=hx;obtain⟨p0,d0,g0,p1,d1,g1,hv,hh,hj,hw,hi,hk⟩:=op1;have ht:MS ⟨52,none,[]⟩ B [] W0 F0 [] [(0,.v .sh (.lst .row xs))] a w:=(MS.of hs hm).forget (by kernel_rfl) rfl (λp h=>by cases h) (λp h=>by cases h);refine dh (c1:=nav C0 [0]) (c2:=nav C0 [1]) (by kernel_rfl) ?_;refine aaG gg (keep:=[0]) (e':=[(0,.v .sh (.lst .row xs))]) (ps:=[]) (by kernel_rfl) trivial ht (λa w hs=>?_);refine wpS ?_;refine Kc (by kernel_rfl) at1.2.2.1 ?_;rw[aav];refine va at1.1 g0 ?_;refine Xa (YD p0) ?_;rw[d0,aav];have h1:=hs.alloc (d:=9) (by kernel_rfl) (v:=.map (some w.heap.size)) (o:=.map #[] 0) rfl;refine va at1.2.1 g1 ?_;refine Xa (ft p1) ?_;rw[d1,h1.k (s:=9) (v:=.map (some w.heap.size)) (by simp)];have h2:=h1.val (d:=3) (by kernel_rfl) (v:=.map (some w.heap.size)) (av:=.dead) rfl (λ_ _=>trivial);have h3:MS (N1 w.heap.size) B [] W0 F0 [(w.heap.size,ya [])] [(0,.v .sh (.lst .row xs))] _ _:=(h2.weak (wa.cast (pat:=[(0,.same)]))).forget rfl rfl (λp hp=>by simp at hp⊢;simp[hp]) (λp hp=>hp);generalize w.heap.size=r at h3;clear h1 h2;refine xc _ ?_;show(nav C0 [1,1]).wp _ _ _ _;generalize w.alloc (.map #[] 0)=w1 at h3⊢;generalize (a.put (some 9) _).put (some 3) _=a1 at h3⊢;refine wpS ?_;refine wpS ?_;refine aaG gg (keep:=[10,11,12]) (e':=EL xs 0) (ps:=[]) (by kernel_rfl) trivial h3 (λa w hs=>?_);refine DE ho hs (λa w hs=>?_);show(nav C0 [1,1,1]).wp _ _ a w;refine wpS ?_;refine aaG gg (keep:=[6]) (e':=E2 []) (ps:=[]) (by kernel_rfl) trivial hs (λa w hs=>?_);refine wpS ?_;refine wpS ?_;refine Kc (by kernel_rfl) at1.2.2.2.2.2 ?_;rw[aav];refine va at1.2.2.2.1 hj ?_;refine Xa (cf hv) ?_;rw[hh,aav,hs.k (s:=3) (v:=.map (some r)) (by simp)];have h4:=hs.val (d:=32) (by kernel_rfl) (v:=.map (some r)) (av:=.dead) rfl (λ_ _=>trivial);refine va at1.2.2.2.2.1 hk ?_;refine Xa (gQ hw (by rw[h4.k (s:=32) (v:=.map (some r)) (by simp)];exact nQ (K:=79) (E:=3) (by kernel_rfl) (h4.o (r:=r) (o:=ya (bb (chI xs))) (by simp)))) ?_;rw[hi];have hq:r<w.heap.size:=(aaw.1 (h4.o (r:=r) (o:=ya (bb (chI xs))) (by simp))).1;have h5:=h4.alloc (d:=33) (by kernel_rfl) (v:=.pointer (some ⟨w.heap.size,0,none⟩)) (o:=Qb r (bb (chI xs)) []) rfl;have h6:MS (N2 w.heap.size) B [] W0 F0 [(w.heap.size,Qb r (bb (chI xs)) []),(r,ya (bb (chI xs)))] (E2 []) _ _:=(h5.weak (wa.cast (pat:=[(6,.same)]))).forget rfl rfl (λp hp=>by simp at hp⊢;simp[hp]) (λp hp=>hp);refine xc _ ?_;show(nav C0 [1,1,1,1,0,1]).wp _ _ _ _
 have hr:(bb (chI xs)).length<=1099511627775:=by
  have h1:=pR (chI xs);have h2:(chI xs).length=xs.length:=by simp[chI]
  have h3:(xs.length:Int)+1<=1099511627776:=ho;omega
 refine FE (Vj xs).2 hr (by omega) h6 (λS a w hnd hq hall hs=>?_);show(nav C0 [1,1,1,1,1]).wp _ _ a w;refine wpS ?_
 have hu:(Db (bb (chI xs)) S).length<=1099511627776:=by
  have h1:=Zn (bb (chI xs)) S;have h2:=Wj hnd hq;omega
 refine RE hu hn (hs.forget rfl rfl (λp h=>by cases h) (λp h=>by cases h)) (λys a w hp hso hs=>?_);have hy:=ME hnd hq hall hp hso;subst hy;show(nav C0 [1,1,1,1,1,1]).wp _ _ a w;refine wpS ?_;refine aaG gg (keep:=[2]) (e':=[(2,.v .fr (.lst .row (gathI xs)))]) (ps:=[]) (by kernel_rfl) trivial hs (λa w hs=>?_);refine Ih (by kernel_rfl) ?_;refine⟨[(2,.v .fr (.lst .row (gathI xs)))],?_,?_⟩
 .exact (hs.forget (N':=⟨(Tryz.f118).ntmps,none,[]⟩) (obs':=[]) (by kernel_rfl) rfl (λp h=>by cases h) (λp h=>by cases h)).to
 .exact⟨rfl,trivial⟩
end Rw
theorem con_impl_consolidated:Con aaq 118 sO:=Rw.con_impl_consolidated
end
section
open Go Go.ChangeShapes Go.WideShapes Go.ChangeAt Go.RowKit
theorem Good.nil{P:aaK}{tt:TT}(h:dc P tt)(hm:P.follows .mixedOrders=true):Good P tt []:=⟨h,(λf s h=>by cases h),hm⟩
theorem Good.cons{P:aaK}{tt:TT}{n:Nat}{d:Spec}{r:SP}(h:Con P n d)(G:Good P tt r):Good P tt ((n,d)::r):=⟨G.htt,λf s hs=>by
   simp only[spk]at hs;cases hb:Nat.beq n f with
   |true=>
    rw[hb]at hs;cases hs;rw[<-abA hb];exact h
   |false=>rw[hb]at hs;exact G.hsp f s hs,G.hm⟩
theorem rah{P:aaK}{W:World}{r:Reach}{base:Nat}{t e:TypeId}{a:Addr}{len cap:Nat}(ht:P.underlying t=some (.slice e))(h:acx P W r base t (.slice (some a) len cap)):a.spot=none:=by
 simp only[acx,ht,Cell.okWide,Cell.ok]at h;exact h.2.2.2.1
theorem Paj{P:aaK}{H:Type}{enc:TypeId×Value->H}{W:World}{base:Nat}{r:Reach}{t e:TypeId}(ht:P.underlying t=some (.slice e))(he:P.underlying e=some (.int .u8))(hce:P.cellsOf e=1)
  {v0:Value}{d0:DataW H}{q1:List MemPlace} (h0:DataW.Trod enc P W 0 (λ_=>true) true t v0 d0 q1) (hok:acx P W r base t v0) :
  ∃(c:List Int) (F:Fz),(∀x∈c,0<=x/\x<=255)/\(∀b o,F b o->(W.cell? ⟨b,o,none⟩).isSome)/\RC F 0 W (.lst .byte c) v0/\∀W':World,Below W.heap.size W W'->DataW.Trod enc P W' 0 (λx=>decide (x<W.heap.size)) true t v0 d0 q1:=by
 obtain⟨a0,len,cap,rfl⟩:=okWide_slice ht hok;obtain⟨fuel,hf⟩:=h0;rcases open_ints ht he hce hf with⟨hp,hx⟩|⟨a,hw,hh,zs,hp,_,hl,hm,hz,hx,hn,hv⟩
 .simp[Value.cells]at hp;obtain⟨rfl,rfl,rfl⟩:=hp;simp only[Prod.mk.injEq]at hx;obtain⟨rfl,rfl⟩:=hx;exact⟨[],λ_ _=>False,λx hx=>by simp at hx,λ_ _ h=>h.elim,.nil _,λW' _=>shut_slice_nil ht⟩
 simp[Value.cells]at hp;obtain⟨rfl,rfl,rfl⟩:=hp;simp only[Prod.mk.injEq]at hx;obtain⟨rfl,rfl⟩:=hx;simp only[if_true]at hz;have hr:=rah ht hok;obtain⟨b,off,hy⟩:=a;have hr:hy=none:=hr;subst hr;have ho:∀j,j<zs.length->W.cell? ⟨b,off+j,none⟩=some (.int .u8 (zs.getD j 0)):=λj hj=>by rw[<-add_plain];exact hn j hj
 have hu:∀x∈zs,0<=x/\x<=255:=λx hx=>by
  have:=hv x hx;simpa [Lit.wf,IntKind.min,IntKind.max,IntKind.signed,IntKind.bits] using this
 have hs:(zs.take len).length=len:=by rw[List.length_take];omega
 refine⟨zs.take len,λb' o=>b'=b/\off<=o/\o<off+len,λx hx=>hu x (List.mem_of_mem_take hx),?_,?_,?_⟩
 .rintro b' o ⟨rfl,h1,h2⟩;have:=ho (o - off) (by omega);rw[show off+(o - off)=o by omega]at this;rw[this];rfl
 .have hq:=RC.lst (F:=λb' o=>b'=b/\off<=o/\o<off+len) (lo:=0) (w:=W) .byte (zs.take len) b off cap (λi _=>.int .u8 (zs.getD i 0)) (abf _) (by rw[hs];exact hl)
   (λi j hi hj=>?_) (λi j hi hj=>?_) (λi j x c hx hc=>?_)
  .rw[hs]at hq;exact hq
  .have hi:i<(zs.take len).length:=hi;rw[hs]at hi;have hj:j<1:=hj;exact⟨rfl,by omega,by show off+(i*1+j)<off+len;omega⟩
  .have hi:i<(zs.take len).length:=hi;rw[hs]at hi;have hj:j<1:=hj;have:j=0:=by omega
   subst this;show W.cell? ⟨b,off+(i*1+0),none⟩=_;rw[show off+(i*1+0)=off+i by omega];exact ho i (by omega)
  .match j,hc with
   |0,hc=>
    simp[cells]at hc;subst hc;have hx:(zs.take len)[i]? = some x:=hx
    have hi:i<len:=by
     have:=(aax.1 hx).1;omega
    rw[List.getElem?_take,if_pos hi]at hx;show RC _ _ _ (.int .u8 x) (.int .u8 (zs.getD i 0));rw[aap,hx];exact .int _ _
   |j+1,hc=>simp[cells]at hc
 .intro W' hk
  have ha:=shut_ints' (enc:=enc) (P:=P) (w:=W') (base:=0) (spare:=λx=>decide (x<W.heap.size)) (held:=true) (b:=b) (off:=off) (len:=len) (cap:=cap) (zs:=zs) 0
   ht he hce (abf _) hl hm ?_ (λi hi=>?_) hv
  .exact⟨2,ha⟩
  .by_cases h0:zs.length=0
   .have h1:len=0:=by omega
    have h2:cap=0:=by omega
    rw[h0,h1,h2];simp
   .have hb:b<W.heap.size:=ace _ _ (ho 0 (by omega));simp[hb,hz]
  .have hb:b<W.heap.size:=ace _ _ (ho i hi);rw[World.cell?_of_block (w:=W) (hk.block b hb)];exact ho i hi
theorem Qaj{W:World}(F:Fz)(hF:∀b o,F b o->(W.cell? ⟨b,o,none⟩).isSome)(hT:∀g cs,TabAt g cs->∃t z,W.heap[g]? = some (.cells cs t z)):∃F':Fz,(∀b o,F b o->F' b o)/\Live F' W:=by
 refine⟨λb o=>F b o\/∃cs,TabAt b cs/\o<cs.size,λ_ _ h=>.inl h,?_,λg cs hg=>⟨λo ho=>.inr ⟨cs,hg,ho⟩,hT g cs hg⟩⟩;rintro b o (h|⟨cs,hg,ho⟩)
 .exact hF b o h
 .obtain⟨t,z,h2⟩:=hT b cs hg;simp[World.cell?,h2,ho]
theorem Raj{P:aaK}{f:FuncId}{fn:Func}{s:ChangeSpec}{c:OpenClaim}
  (h1:(c.wf (OpenSpec.ofChange s))=true)
  (h2:(laidOutB P)=true)
  (h3:(mapsRowed P)=true)
  (h4:(fn.params.all (P.readableRec ·))=true)
  (h5:(namedTie P c.named s.vars)=true)
  (h6:((c.stops == []))=true)
  (h7:((P.stops == []))=true)
  (h8:((c.knobs == []))=true)
  (h9:((P.stopKnobs == []))=true)
  (h10:((c.inPlace == P.inPlace f))=true)
  (h11:((c.unfollowed == P.unfollowed f))=true)
  (h12:((c.recurses == P.recurses f))=true)
  (h13:((c.named == P.varsNamed f))=true)
  (h14:((c.maps == (fn.params.toList++s.plain.varTypes P).any (P.mapsRec ·)))=true)
  (h15:((c.ifaces == (fn.params.toList++s.plain.varTypes P).any (P.ifacesRec ·)))=true)
  (h16:((c.mapsOut == P.mapsAmong fn.resultTypes.toList))=true)
  (h17:((c.loops == (fn.params.toList++s.plain.varTypes P).any (P.loopsFrom ·)))=true)
  (h18:((c.wideKeys == (fn.params.toList++s.plain.varTypes P++fn.resultTypes.toList).any (P.wideKeysFrom ·)))=true)
  (h19:(s.vars.all (P.varReadable ·))=true)
  (h20:(fn.resultTypes.all (λt=>P.readableRec t&&decide (t<P.types.size)))=true)
  (h21:((c.ifacesOut == fn.resultTypes.toList.any (P.ifacesRec ·)))=true)
  (h22:((c.loopsOut == fn.resultTypes.toList.any (P.loopsFrom ·)))=true)
  (h23:((c.plainKeys == P.plainKeys))=true)
  (h24:(c.shortTexts.isNone)=true)
  (h25:(P.stopsHeard)=true)
  (h26:(P.mayEnter)=true)
  (h27:((c.lifted == P.liftsFinal))=true)
  (h28:((P.make == some c.make))=true)
  (h29:((c.kinds == (if c.domain.isEmpty then [] else fn.params.toList.map λt=>match P.underlying t with|some (.int k)=>some k|_=>none)))=true)
  (h30:((c.pinned == c.pinnedBy))=true)
  (h31:((c.veiled == (fn.params.toList++s.plain.varTypes P++fn.resultTypes.toList).any (P.veiledRec ·)))=true)
  (h32:(c.veiledFits P fn.params.toList (fn.params.toList++s.plain.varTypes P++fn.resultTypes.toList))=true):joinedFacts P f fn s c=true:=by
 unfold joinedFacts;simp only[abl];exact⟨⟨⟨⟨⟨⟨⟨⟨⟨⟨⟨⟨⟨⟨⟨⟨⟨⟨⟨⟨⟨⟨⟨⟨⟨⟨⟨⟨⟨⟨⟨h1,h2⟩,h3⟩,h4⟩,h5⟩,h6⟩,h7⟩,h8⟩,h9⟩,h10⟩,h11⟩,h12⟩,h13⟩,h14⟩,h15⟩,h16⟩,h17⟩,h18⟩,h19⟩,h20⟩,h21⟩,h22⟩,h23⟩,h24⟩,h25⟩,h26⟩,h27⟩,h28⟩,h29⟩,h30⟩,h31⟩,h32⟩
end
end Go.Proofs.YteogppapbognjaaGreatDoor
