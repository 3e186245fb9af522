/-
  What 'gathered' computes: the items with equal ones added, in order. No statement is proved here. 'gathered': the walk over the items that adds them into the map. No statement is proved here. 'gathered': the first loop. No statement is proved here. 'gathered': the second loop, over the map. No statement is proved here. 'gathered': the sort, and the contract. No statement is proved here. 'gathered': the contract. No statement is proved here. 'gathered': its contract. No statement is proved here.
-/
import Derived.Test.YtopcofkpggefkaaC2

namespace Go.Proofs.Ytopcofkpggefkaa
open Go

def kI (x : Item) : List Int := [x.Key, x.Val, 0]
def mkI (p : List Int × Int) : Item := match p.1 with
  | [k, v, _] => ⟨k, v, p.2⟩
  | _ => ⟨0, 0, p.2⟩
def chI (xs : List Item) : List (List Int × Int) := xs.map fun x => (kI x, x.Count)
def gathI (xs : List Item) : List Item := (gathM (chI xs)).map mkI
/-- What a walk over some of a map's entries has gathered. -/
def outI (m : MP) (S : List Nat) : List Item := ((S.map fun i => m.getD i ([0, 0, 0], 0)).filter fun p => p.2 != 0).map mkI

noncomputable def v_impl_gathered (a0 : List Item) : List Item := gathI a0
def p_impl_gathered (a0 : List Item) : Prop := lim (lenI .item a0) 1
noncomputable def s_impl_gathered : Spec := ⟨[.lst .item], .one .fr (.lst .item), false, fun x => (v_impl_gathered x.1, 0), fun x => p_impl_gathered x.1⟩

def ttg : TT := [(3, ⟨.scalar, 1, [.int .i64 0], some .int, false⟩), (4, ⟨.scalar, 1, [.bool false], some .bool, false⟩), (44, ⟨.slice 64, 1, [.nl .item], none, false⟩),
  (64, ⟨.struct [(0, 1), (1, 1), (2, 1)], 3, [.int .i64 0, .int .i64 0, .int .i64 0], some .item, true⟩)]
theorem ttg_ok : TTok Try.prog ttg := ttChk_ok (by kernel_rfl)
theorem gg : Good Try.prog ttg [] := ⟨ttg_ok, (fun _ _ h => by cases h), by kernel_rfl⟩
theorem tdE : TDok Try.prog 64 ⟨.struct [(0, 1), (1, 1), (2, 1)], 3, [.int .i64 0, .int .i64 0, .int .i64 0], some .item, true⟩ := ttg_ok.td _ _ (by kernel_rfl)
theorem td3 : TDok Try.prog 3 ⟨.scalar, 1, [.int .i64 0], some .int, false⟩ := ttg_ok.td _ _ (by kernel_rfl)
noncomputable def fsG : Array Field := match Try.prog.underlying 64 with
  | some (.struct fs) => fs
  | _ => #[]
noncomputable def sv3 : TypeInfo := (Try.prog.info? 3).get (by kernel_rfl)
theorem mapTy : MapTy Try.prog 134 64 3 3 := by
  refine ⟨by kernel_rfl, ⟨fsG, by kernel_rfl⟩, ttg_ok.eq _ ⟨.struct [(0, 1), (1, 1), (2, 1)], 3, [.int .i64 0, .int .i64 0, .int .i64 0], some .item, true⟩ (by kernel_rfl) rfl,
    ckOk (fs := fsG) (i := svE) (by kernel_rfl) (by kernel_rfl) (by kernel_rfl) (by kernel_rfl), fun w => ?_⟩
  have hi : Try.prog.info? 3 = some sv3 := by kernel_rfl
  have hz : sv3.zero = some (.int .i64 0) := by kernel_rfl
  simp [zeroValue, typeInfo, hi, hz]

noncomputable def C0 : Code := bodyOf Try.f107

noncomputable def o1 (i : Nat) : Oper := opN (opsOf (nav C0 [1, 0])) i
noncomputable def o5 (i : Nat) : Oper := opN (opsOf (nav C0 [1, 1, 0, 1, 0, 0, 1, 1, 0, 0, 1])) i
noncomputable def o8 (i : Nat) : Oper := opN (opsOf (nav C0 [1, 1, 1, 1, 0, 0])) i
noncomputable def o9 (i : Nat) : Oper := opN (opsOf (nav C0 [1, 1, 1, 1, 0, 1, 0, 0, 0])) i
noncomputable def o10 (i : Nat) : Oper := opN (opsOf (nav C0 [1, 1, 1, 1, 0, 1, 0, 0, 1, 1, 0, 0])) i
noncomputable def o14 (i : Nat) : Oper := opN (opsOf (nav C0 [1, 1, 1, 1, 1, 0])) i

theorem chk : (opsOf (nav C0 [1, 0])).size = 2 ∧ (opsOf (nav C0 [1, 1, 0, 1, 0, 0, 1, 1, 0, 0, 1])).size = 13 ∧ (opsOf (nav C0 [1, 1, 1, 1, 0, 0])).size = 2 ∧ (opsOf (nav C0 [1, 1, 1, 1, 0, 1, 0, 0, 0])).size = 2 ∧
    (opsOf (nav C0 [1, 1, 1, 1, 0, 1, 0, 0, 1, 1, 0, 0])).size = 6 ∧ (opsOf (nav C0 [1, 1, 1, 1, 1, 0])).size = 4 := ⟨by kernel_rfl, by kernel_rfl, by kernel_rfl, by kernel_rfl, by kernel_rfl, by kernel_rfl⟩
end Go.Proofs.Ytopcofkpggefkaa

namespace Go.Proofs.Ytopcofkpggefkaa
open Go

theorem build3 (w : World) (k v : Int) : (Instr.build 64 #[(0, .int .i64 k), (1, .int .i64 v)]).run Try.prog w = .ok (kvOf [k, v, 0]) w := by
  obtain ⟨us, h1, h2⟩ := build_ok (F := fun _ _ => False) (B := 0) (w := w) tdE rfl (ps := [(0, ⟨true, false, [.int .i64 k]⟩), (1, ⟨true, false, [.int .i64 v]⟩)]) (vs := #[(0, .int .i64 k), (1, .int .i64 v)])
    (f := true) (cs := [.int .i64 k, .int .i64 v, .int .i64 0]) rfl (fun j i p u hp hu => by
      match j, hp, hu with
      | 0, hp, hu => simp at hp hu; obtain ⟨rfl, rfl⟩ := hp; subst hu; exact RC.int _ _
      | 1, hp, hu => simp at hp hu; obtain ⟨rfl, rfl⟩ := hp; subst hu; exact RC.int _ _
      | j + 2, hp, hu => simp at hp) rfl
  rw [h1]
  cases h2 with
  | cons h2 h3 => cases h2; cases h3 with
    | cons h2 h3 => cases h2; cases h3 with
      | cons h2 h3 => cases h2; cases h3; rfl

def V5 (r b5 : Nat) (k v c : Int) (m : MP) : Nat → Value
  | 0 => .map (some r)
  | 1 => .pointer (some ⟨b5, 0, none⟩)
  | 2 => .int .i64 k
  | 3 => .pointer (some ⟨b5, 1, none⟩)
  | 4 => .int .i64 v
  | 5 => kvOf [k, v, 0]
  | 6 => .int .i64 (valM m [k, v, 0])
  | 7 => .pointer (some ⟨b5, 2, none⟩)
  | 8 => .int .i64 c
  | 9 => .int .i64 (ar .add .i64 (valM m [k, v, 0]) c)
  | 10 => .tuple #[.int .i64 (valM m [k, v, 0]), goInt (stp m [k, v, 0])]
  | _ => goInt (stp m [k, v, 0])
def mL (m : MP) (q : List Int × Int) (L : Nat → Bool) : MP := if L 12 then stepM m q else if L 10 then insM m q.1 else m
structure J5 (a0 : Act) (w1 : World) (r b5 : Nat) (k v c : Int) (m : MP) (L : Nat → Bool) (a : Act) (w : World) : Prop where
  df : a.defers = []
  sz : a.tmps.size = a0.tmps.size
  vs : ∀ i, i < 12 → L i = true → a.tmps.getD (16 + i) undef = V5 r b5 k v c m i
  ot : ∀ n, n < 16 ∨ 27 < n → a.tmps.getD n undef = a0.tmps.getD n undef
  pk : Pk w1 r w
  ob : w.heap[r]? = some (mapObj (mL m ([k, v, 0], c) L))

theorem Keyd.ins {n : Nat} {m : MP} (h : Keyd n m) {ks : List Int} (hk : ks.length = n) : Keyd n (insM m ks) := by
  unfold insM
  split
  · exact h
  · intro p hp
    rcases List.mem_append.1 hp with hp | hp
    · exact h p hp
    · simp at hp; subst hp; exact hk
theorem insM_valM (m : MP) (ks : List Int) : valM (insM m ks) ks = valM m ks := valM_insM m ks ks
theorem stp_lt (m : MP) (ks : List Int) : stp m ks < (insM m ks).length := by
  obtain ⟨v0, h⟩ := stp_get m ks
  exact (List.getElem?_eq_some_iff.1 h).1
theorem setO_same (w : World) (r : Nat) (o : Obj) : (setO w r o).os = w.os := rfl
theorem Pk.trans {w w' w'' : World} {r : Nat} (h : Pk w r w') (k : Pk w' r w'') : Pk w r w'' :=
  ⟨k.os.trans h.os, k.tape.trans h.tape, k.output.trans h.output, k.size.trans h.size, fun i hi => (k.block i hi).trans (h.block i hi)⟩

theorem J5.put {a0 : Act} {w1 : World} {r b5 : Nat} {k v c : Int} {m : MP} {L : Nat → Bool} {a : Act} {w w' : World} (h : J5 a0 w1 r b5 k v c m L a w) (h28 : 28 ≤ a0.tmps.size) {i : Nat} (hi : i < 12) (hp : Pk w r w')
    (ho : w'.heap[r]? = some (mapObj (mL m ([k, v, 0], c) fun j => if j = i then true else L j))) : J5 a0 w1 r b5 k v c m (fun j => if j = i then true else L j) (a.put (some (16 + i)) (V5 r b5 k v c m i)) w' := by
  have hs : 16 + i < a.tmps.size := by rw [h.sz]; omega
  refine ⟨h.df, by rw [put_size]; exact h.sz, fun j hj hL => ?_, fun n hn => ?_, h.pk.trans hp, ho⟩
  · rw [getD_set a _ _ hs]
    by_cases e : j = i
    · rw [if_pos (by omega), e]
    · rw [if_neg (by omega)]
      exact h.vs j hj (by simpa [e] using hL)
  · rw [getD_set a _ _ hs, if_neg (by omega)]
    exact h.ot n hn

theorem mL_other {m : MP} {q : List Int × Int} {L : Nat → Bool} {i : Nat} (h1 : i ≠ 10) (h2 : i ≠ 12) : mL m q (fun j => if j = i then true else L j) = mL m q L := by
  unfold mL
  have e1 : ¬ (12 = i) := fun e => h2 e.symm
  have e2 : ¬ (10 = i) := fun e => h1 e.symm
  simp [e1, e2]

theorem op5 : (∀ i, i < 12 → (o5 i).dst = some (16 + i) ∧ (o5 i).guard = none) ∧ (o5 12).dst = none ∧ (o5 12).guard = none ∧
    (o5 0).op = .move (.tmp 3) ∧ (o5 1).op = .fieldAddr 64 (.tmp 5) 0 ∧ (o5 2).op = .load 3 (.tmp 17) ∧ (o5 3).op = .fieldAddr 64 (.tmp 5) 1 ∧ (o5 4).op = .load 3 (.tmp 19) ∧ (o5 5).op = .build 64 #[(0, .tmp 18), (1, .tmp 20)] ∧
    (o5 6).op = .lookup 134 (.tmp 16) (.tmp 21) false ∧ (o5 7).op = .fieldAddr 64 (.tmp 5) 2 ∧ (o5 8).op = .load 3 (.tmp 23) ∧ (o5 9).op = .binOp .add 3 (.tmp 22) (.tmp 24) 3 ∧ (o5 10).op = .mapEntry 134 (.tmp 16) (.tmp 21) ∧
    (o5 11).op = .extract (.tmp 26) 1 ∧ (o5 12).op = .entryStore 134 (.tmp 16) (.tmp 27) (.tmp 25) := by
  refine ⟨fun i hi => ?_, by kernel_rfl, by kernel_rfl, by kernel_rfl, by kernel_rfl, by kernel_rfl, by kernel_rfl, by kernel_rfl, by kernel_rfl, by kernel_rfl, by kernel_rfl, by kernel_rfl, by kernel_rfl, by kernel_rfl, by kernel_rfl, by kernel_rfl⟩
  rcases (show i = 0 ∨ i = 1 ∨ i = 2 ∨ i = 3 ∨ i = 4 ∨ i = 5 ∨ i = 6 ∨ i = 7 ∨ i = 8 ∨ i = 9 ∨ i = 10 ∨ i = 11 by omega) with rfl | rfl | rfl | rfl | rfl | rfl | rfl | rfl | rfl | rfl | rfl | rfl <;> exact ⟨by kernel_rfl, by kernel_rfl⟩

set_option maxHeartbeats 1600000 in
set_option maxRecDepth 20000 in
theorem reg5 {Q : Exit → Act → World → Prop} {B : Nat} {W0 : World} {F0 : Fz} {r : Nat} {m : MP} {e : Env} {k v c : Int} {a : Act} {w : World} {N : NP} (hs : MS N B [] W0 F0 [(r, mapObj m)] e a w) (hfl : flatE e = true)
    (hN : N.n = 50 ∧ N.r = none ∧ N.k = [(3, .map (some r))]) (hg : getE e 5 = .box [(.fr, .int .i64 k), (.fr, .int .i64 v), (.fr, .int .i64 c)]) (hd : ∀ d, 16 ≤ d → d ≤ 27 → isDead (getE e d) = true) (hm : Keyd 3 m)
    (hQ : ∀ a w, MS N B [] W0 F0 [(r, mapObj (stepM m ([k, v, 0], c)))] e a w → Q .normal a w) : (nav C0 [1, 1, 0, 1, 0, 0, 1, 1, 0, 0, 1]).wp Try.prog Q a w := by
  obtain ⟨hN1, hN2, hN3⟩ := hN
  have hcode : nav C0 [1, 1, 0, 1, 0, 0, 1, 1, 0, 0, 1] = .region (idOf (nav C0 [1, 1, 0, 1, 0, 0, 1, 1, 0, 0, 1])) (opsOf (nav C0 [1, 1, 0, 1, 0, 0, 1, 1, 0, 0, 1])) true := by kernel_rfl
  have hsz : (opsOf (nav C0 [1, 1, 0, 1, 0, 0, 1, 1, 0, 0, 1])).size = 13 := chk.2.1
  obtain ⟨F, ow, hx⟩ := hs.sim.rep
  obtain ⟨b5, us, hp5, _, hblk, _, hlen, hbx⟩ := hx.box hg
  have hp5 : a.tmps.getD 5 undef = .pointer (some ⟨b5, 0, none⟩) := hp5
  have hr := hs.o (List.mem_singleton.2 rfl)
  have hbr : b5 ≠ r := hblk.ne hr rfl
  have h3 : a.tmps.getD 3 undef = .map (some r) := hs.k (by rw [hN3]; simp)
  have h28 : 28 ≤ a.tmps.size := by rw [hs.sim.tmps.size, hN1]; omega
  have hus : us = [.int .i64 k, .int .i64 v, .int .i64 c] := by
    match us, hlen with
    | [u0, u1, u2], _ =>
      have q0 : RC F B w (.int .i64 k) u0 := hbx 0 _ u0 rfl rfl
      have q1 : RC F B w (.int .i64 v) u1 := hbx 1 _ u1 rfl rfl
      have q2 : RC F B w (.int .i64 c) u2 := hbx 2 _ u2 rfl rfl
      cases q0; cases q1; cases q2; rfl
  subst hus
  obtain ⟨hdg, hd12, hg12, p0, p1, p2, p3, p4, p5, p6, p7, p8, p9, p10, p11, p12⟩ := op5
  have hks : ([k, v, 0] : List Int).length = 3 := rfl
  rw [hcode]
  refine wp_region_any gg.hm ?_
  refine wpAny_inv (J := J5 a { w with drawn := w.drawn + 1 } r b5 k v c m) (by kernel_rfl) ?_ ?_ (opsOf (nav C0 [1, 1, 0, 1, 0, 0, 1, 1, 0, 0, 1])).size _ a _ (by simp) (by simp) ?_ ?_
  · intro L a' w' i o hio hLi hE hcl hJ next hn
    have hi13 : i < 13 := by have := (Array.getElem?_eq_some_iff.1 hio).1; omega
    have ho : o = o5 i := (opN_eq hio).symm
    have hE' : ∀ j, edgeB (o5 i) j = true → L j = true := fun j hj => edgeB_ok (by rw [← ho]; exact hE) hj
    have hC : ∀ i j, i < 13 → L i = true → edgeB (o5 i) j = true → L j = true := fun i j hi hL hj => by
      have hlt : i < (opsOf (nav C0 [1, 1, 0, 1, 0, 0, 1, 1, 0, 0, 1])).size := by omega
      exact edgeB_ok (fun e he hb => hcl i (o5 i) (by have := Array.getElem?_eq_getElem hlt; rw [this]; exact congrArg some (opN_eq this).symm) hL e he hb) hj
    have hblk' : Blk w' b5 [.int .i64 k, .int .i64 v, .int .i64 c] := by
      refine Blk.same (w := w) hblk ?_
      rw [hJ.pk.block b5 hbr]
    have t3 : a'.tmps.getD 3 undef = .map (some r) := by rw [hJ.ot 3 (.inl (by omega))]; exact h3
    have t5 : a'.tmps.getD 5 undef = .pointer (some ⟨b5, 0, none⟩) := by rw [hJ.ot 5 (.inl (by omega))]; exact hp5
    -- a value, the memory as it was
    have pure : ∀ (hi : i < 12), i ≠ 10 → (execOp a'.eval (o5 i)).run Try.prog w' = .ok (.value (V5 r b5 k v c m i)) w' → wpOp Try.prog (opsOf (nav C0 [1, 1, 0, 1, 0, 0, 1, 1, 0, 0, 1])) Q i next a' w' := by
      intro hi h10 hrun
      refine wpOp_of hio (by rw [ho]; exact (hdg i hi).2) ?_
      rw [ho]
      refine wp_value hrun ?_
      rw [(hdg i hi).1]
      exact hn _ _ (hJ.put h28 hi ⟨rfl, rfl, rfl, rfl, fun _ _ => rfl⟩ (by rw [mL_other h10 (by omega)]; exact hJ.ob))
    have hm12 : L 12 = false → w'.heap[r]? = some (mapObj (if L 10 then insM m [k, v, 0] else m)) := fun h => by
      have := hJ.ob
      unfold mL at this
      rw [h] at this
      simpa using this
    rcases (show i = 0 ∨ i = 1 ∨ i = 2 ∨ i = 3 ∨ i = 4 ∨ i = 5 ∨ i = 6 ∨ i = 7 ∨ i = 8 ∨ i = 9 ∨ i = 10 ∨ i = 11 ∨ i = 12 by omega) with rfl | rfl | rfl | rfl | rfl | rfl | rfl | rfl | rfl | rfl | rfl | rfl | rfl
    · exact pure (by omega) (by omega) (by rw [exec_move p0, t3]; rfl)
    · exact pure (by omega) (by omega) (exec_fieldAddr p1 t5 tdE rfl rfl)
    · exact pure (by omega) (by omega) (exec_load p2 (hJ.vs 1 (by omega) (hE' 1 (by kernel_rfl))) td3 rfl (by rw [hblk'.cell]; rfl))
    · exact pure (by omega) (by omega) (exec_fieldAddr p3 t5 tdE rfl rfl)
    · exact pure (by omega) (by omega) (exec_load p4 (hJ.vs 3 (by omega) (hE' 3 (by kernel_rfl))) td3 rfl (by rw [hblk'.cell]; rfl))
    · refine pure (by omega) (by omega) (exec_build p5 ?_)
      have e1 : a'.tmps.getD 18 undef = .int .i64 k := hJ.vs 2 (by omega) (hE' 2 (by kernel_rfl))
      have e2 : a'.tmps.getD 20 undef = .int .i64 v := hJ.vs 4 (by omega) (hE' 4 (by kernel_rfl))
      have : (#[(0, Operand.tmp 18), (1, Operand.tmp 20)].map fun p => (p.1, a'.eval p.2)) = #[(0, Value.int .i64 k), (1, Value.int .i64 v)] := by
        simp only [List.map_toArray, List.map_cons, List.map_nil]
        rw [show a'.eval (.tmp 18) = .int .i64 k from e1, show a'.eval (.tmp 20) = .int .i64 v from e2]
      rw [this]
      exact build3 w' k v
    · refine pure (by omega) (by omega) (exec_lookup p6 ?_)
      rw [hJ.vs 0 (by omega) (hE' 0 (by kernel_rfl)), hJ.vs 5 (by omega) (hE' 5 (by kernel_rfl))]
      have h12 : L 12 = false := by
        cases h : L 12 with
        | false => rfl
        | true =>
          have h9 := hC 12 9 (by omega) h (by kernel_rfl)
          have h6 := hC 9 6 (by omega) h9 (by kernel_rfl)
          rw [h6] at hLi
          cases hLi
      have hob := hm12 h12
      cases h10 : L 10 with
      | false =>
        rw [h10] at hob
        exact lookup_run mapTy hob hm hks
      | true =>
        rw [h10] at hob
        have hob : w'.heap[r]? = some (mapObj (insM m [k, v, 0])) := hob
        have := lookup_run mapTy hob (hm.ins hks) hks
        rw [insM_valM] at this
        exact this
    · exact pure (by omega) (by omega) (exec_fieldAddr p7 t5 tdE rfl rfl)
    · exact pure (by omega) (by omega) (exec_load p8 (hJ.vs 7 (by omega) (hE' 7 (by kernel_rfl))) td3 rfl (by rw [hblk'.cell]; rfl))
    · exact pure (by omega) (by omega) (exec_add p9 (hJ.vs 6 (by omega) (hE' 6 (by kernel_rfl))) (hJ.vs 8 (by omega) (hE' 8 (by kernel_rfl))))
    · have h12 : L 12 = false := by
        cases h : L 12 with
        | false => rfl
        | true =>
          have h11 := hC 12 11 (by omega) h (by kernel_rfl)
          have h10 := hC 11 10 (by omega) h11 (by kernel_rfl)
          rw [h10] at hLi
          cases hLi
      have hob := hm12 h12
      rw [hLi] at hob
      have hob : w'.heap[r]? = some (mapObj m) := hob
      have hrun := mapEntry_run mapTy hob hm hks
      refine wpOp_of hio (by rw [ho]; exact (hdg 10 (by omega)).2) ?_
      rw [ho]
      refine wp_value (exec_mapEntry p10 (by rw [hJ.vs 0 (by omega) (hE' 0 (by kernel_rfl)), hJ.vs 5 (by omega) (hE' 5 (by kernel_rfl))]; exact hrun)) ?_
      rw [(hdg 10 (by omega)).1]
      refine hn _ _ (hJ.put h28 (by omega) (setO_pk _ _ _) ?_)
      rw [setO_get hob]
      unfold mL
      simp [h12]
    · have e10 : a'.tmps.getD 26 undef = .tuple #[.int .i64 (valM m [k, v, 0]), goInt (stp m [k, v, 0])] := hJ.vs 10 (by omega) (hE' 10 (by kernel_rfl))
      have hrun : (execOp a'.eval (o5 11)).run Try.prog w' = .ok (.value (goInt (stp m [k, v, 0]))) w' := exec_extract (vs := #[.int .i64 (valM m [k, v, 0]), goInt (stp m [k, v, 0])]) p11 e10 (by simp)
      exact pure (by omega) (by omega) hrun
    · have h10 : L 10 = true := hC 11 10 (by omega) (hE' 11 (by kernel_rfl)) (by kernel_rfl)
      have hob := hm12 hLi
      rw [h10] at hob
      have hob : w'.heap[r]? = some (mapObj (insM m [k, v, 0])) := hob
      have hrun := entryStore_run mapTy hob (stp_lt m [k, v, 0]) (ar .add .i64 (valM m [k, v, 0]) c)
      refine wpOp_of hio (by rw [ho]; exact hg12) ?_
      rw [ho]
      refine wp_skip' (exec_entryStore p12 (by rw [hJ.vs 0 (by omega) (hE' 0 (by kernel_rfl)), hJ.vs 11 (by omega) (hE' 11 (by kernel_rfl)), hJ.vs 9 (by omega) (hE' 9 (by kernel_rfl))]; exact hrun)) ?_
      rw [hd12]
      refine hn _ _ ⟨hJ.df, hJ.sz, fun j hj hL => hJ.vs j hj (by simpa [show j ≠ 12 by omega] using hL), hJ.ot, hJ.pk.trans (setO_pk _ _ _), ?_⟩
      rw [setO_get hob]
      rfl
  · intro L a' w' hall hJ
    refine hQ a' w' ?_
    have hob : w'.heap[r]? = some (mapObj (stepM m ([k, v, 0], c))) := by
      have := hJ.ob
      unfold mL at this
      rw [hall 12 (by omega)] at this
      simpa using this
    have h1 := (hs.drew (w.drawn + 1)).set (obs' := [(r, mapObj (stepM m ([k, v, 0], c)))]) (List.mem_singleton.2 rfl) hJ.pk (fun p hp => by
      rw [List.mem_singleton.1 hp]; exact .inr ⟨rfl, hob, rfl⟩)
    refine h1.tmps (D := [16, 17, 18, 19, 20, 21, 22, 23, 24, 25, 26, 27]) hfl (fun d hdm => ⟨hd d ?_ ?_, ?_⟩) hN2 hJ.df hJ.sz (fun n hn => hJ.ot n ?_)
    · simp at hdm; omega
    · simp at hdm; omega
    · rw [hN3]
      have h3d : 3 ≠ d := by simp at hdm; omega
      simp [notIn, beq_ne h3d]
    · simp at hn; omega
  · intro i o ho hL
    simp only [Array.getD_eq_getD_getElem?] at hL
    by_cases hi : i < (opsOf (nav C0 [1, 1, 0, 1, 0, 0, 1, 1, 0, 0, 1])).size
    · simp [hi] at hL
    · simp [hi] at hL
  · refine ⟨hs.sim.defers, rfl, fun i hi hL => ?_, fun n _ => rfl, ⟨rfl, rfl, rfl, rfl, fun _ _ => rfl⟩, ?_⟩
    · simp only [Array.getD_eq_getD_getElem?] at hL
      simp [hsz, show i < 13 by omega] at hL
    · show w.heap[r]? = _
      rw [hr]
      unfold mL
      simp [Array.getD_eq_getD_getElem?, hsz]
end Go.Proofs.Ytopcofkpggefkaa

namespace Go.Proofs.Ytopcofkpggefkaa
open Go

abbrev N1 (r : Nat) : NP := ⟨50, none, [(3, .map (some r))]⟩
def EL (xs : List Item) (i : Int) : Env := [(10, .v .sh (.lst .item xs)), (11, .v .fr (.int .i64 (lenI .item xs))), (12, .v .fr (.int .i64 i))]

theorem wrap_small {x : Int} (h0 : 0 ≤ x) (h1 : x < 9223372036854775808) : IntKind.i64.wrap x = x := by
  have hm : x % (2 ^ 64 : Int) = x := Int.emod_eq_of_lt h0 (by omega)
  have h2 : ¬ x ≥ (2 ^ (64 - 1) : Int) := by
    have : (2 ^ (64 - 1) : Int) = 9223372036854775808 := by decide
    omega
  show (if (true && decide (x % (2 ^ 64 : Int) ≥ (2 ^ (64 - 1) : Int))) = true then _ else x % (2 ^ 64 : Int)) = x
  rw [hm, if_neg (by simpa using h2)]
theorem add_small {x : Int} (h0 : 0 ≤ x) (h1 : x ≤ 1099511627776) : ar .add .i64 x 1 = x + 1 := wrap_small (by omega) (by omega)

theorem keyd_acc (xs : List Item) : Keyd 3 (accM (chI xs)) ∧ ∀ p ∈ accM (chI xs), ∃ k v, p.1 = [k, v, 0] := by
  have key : ∀ (l : List (List Int × Int)) (m : MP), (∀ p ∈ l, ∃ k v, p.1 = [k, v, 0]) → (∀ ks ∈ keysM m, ∃ k v, ks = [k, v, (0 : Int)]) → ∀ ks ∈ keysM (l.foldl stepM m), ∃ k v, ks = [k, v, (0 : Int)] := by
    intro l
    induction l with
    | nil => exact fun m _ h => h
    | cons q r ih =>
      intro m hl hm
      refine ih _ (fun p hp => hl p (by simp [hp])) (fun ks hk => ?_)
      rw [keys_stepM] at hk
      split at hk
      · exact hm ks hk
      · rcases List.mem_append.1 hk with hk | hk
        · exact hm ks hk
        · simp at hk; subst hk; exact hl q (by simp)
  have h2 : ∀ p ∈ accM (chI xs), ∃ k v, p.1 = [k, v, 0] := fun p hp => key (chI xs) [] (fun q hq => by
    obtain ⟨x, _, rfl⟩ := List.mem_map.1 hq
    exact ⟨x.Key, x.Val, rfl⟩) (by simp [keysM]) p.1 (List.mem_map.2 ⟨p, hp, rfl⟩)
  exact ⟨fun p hp => by obtain ⟨k, v, h⟩ := h2 p hp; rw [h]; rfl, h2⟩

theorem acc_take {xs : List Item} {i : Nat} (hi : i < xs.length) : accM (chI (xs.take (i + 1))) = stepM (accM (chI (xs.take i))) (kI (rd .item xs i), (rd .item xs i).Count) := by
  have : xs.take (i + 1) = xs.take i ++ [rd .item xs i] := by
    rw [List.take_succ_eq_append_getElem hi]
    congr 2
    unfold rd
    rw [List.getD_eq_getElem?_getD, show (i : Int).toNat = i from rfl, List.getElem?_eq_getElem hi]
    rfl
  rw [this]
  unfold accM chI
  rw [List.map_append, List.foldl_append]
  rfl

theorem length_putV : ∀ (m : MP) (i : Nat) (v : Int), (putV m i v).length = m.length
  | [], _, _ => rfl
  | _ :: _, 0, _ => rfl
  | p :: r, i + 1, v => by simp [putV, length_putV r i v]
theorem length_stepM (m : MP) (q : List Int × Int) : (stepM m q).length ≤ m.length + 1 := by
  unfold stepM insM
  rw [length_putV]
  split <;> simp
theorem length_accM (l : List (List Int × Int)) : (accM l).length ≤ l.length := by
  unfold accM
  suffices ∀ (l : List (List Int × Int)) (m : MP), (l.foldl stepM m).length ≤ m.length + l.length by simpa using this l []
  intro l
  induction l with
  | nil => exact fun m => Nat.le_refl _
  | cons q r ih =>
    intro m
    have h1 := ih (stepM m q)
    have h2 := length_stepM m q
    simp only [List.foldl_cons, List.length_cons]
    omega

set_option maxRecDepth 20000 in
theorem loop1 {xs : List Item} (hlim : lim (lenI .item xs) 1) {Q : Exit → Act → World → Prop} {B : Nat} {W0 : World} {F0 : Fz} {r : Nat} {a : Act} {w : World} (hs : MS (N1 r) B [] W0 F0 [(r, mapObj [])] (EL xs 0) a w)
    (hQ : ∀ a w, MS (N1 r) B [] W0 F0 [(r, mapObj (accM (chI xs)))] [] a w → Q .normal a w) : (nav C0 [1, 1, 0, 1]).wp Try.prog Q a w := by
  have hlen : (xs.length : Int) ≤ 1099511627775 := by have : lenI .item xs + 1 ≤ 1099511627776 := hlim; unfold lenI at this; omega
  refine wpBlock (c1 := nav C0 [1, 1, 0, 1, 0]) (id := 0) (by kernel_rfl) ?_
  rw [show nav C0 [1, 1, 0, 1, 0] = .loop (nav C0 [1, 1, 0, 1, 0, 0]) by kernel_rfl]
  refine loop_wp (σ := Nat) (fun i a w => i ≤ xs.length ∧ MS (N1 r) B [] W0 F0 [(r, mapObj (accM (chI (xs.take i))))] (EL xs i) a w) (fun i => xs.length - i) ?_ 0 ⟨Nat.zero_le _, hs⟩
  rintro i a w ⟨hi, hs⟩
  refine wpSeq (c1 := nav C0 [1, 1, 0, 1, 0, 0, 0]) (c2 := nav C0 [1, 1, 0, 1, 0, 0, 1]) (by kernel_rfl) ?_
  refine MS.regC gg (keep := [10, 11, 12, 13]) (e' := [(10, .v .sh (.lst .item xs)), (11, .v .fr (.int .i64 (lenI .item xs))), (12, .v .fr (.int .i64 i)), (13, .v .fr (.bool (cmp .lss i (lenI .item xs))))]) (ps := []) (by kernel_rfl) trivial hs (fun a w hs => ?_)
  refine wpSeq (c1 := nav C0 [1, 1, 0, 1, 0, 0, 1, 0]) (c2 := nav C0 [1, 1, 0, 1, 0, 0, 1, 1]) (by kernel_rfl) ?_
  refine wpCondB (o := .tmp 13) (c1 := nav C0 [1, 1, 0, 1, 0, 0, 1, 0, 0]) (c2 := nav C0 [1, 1, 0, 1, 0, 0, 1, 0, 1]) (by kernel_rfl) (hs.bool (k := .fr) rfl) (fun ht => wpSkip (by kernel_rfl) ?_) (fun hf => wpExit (i := 0) (by kernel_rfl) ?_)
  · have hlt : i < xs.length := by
      have : decide ((i : Int) < lenI .item xs) = true := ht
      have := of_decide_eq_true this
      unfold lenI at this
      omega
    show (nav C0 [1, 1, 0, 1, 0, 0, 1, 1]).wp _ _ a w
    refine wpSeq (c1 := nav C0 [1, 1, 0, 1, 0, 0, 1, 1, 0]) (c2 := nav C0 [1, 1, 0, 1, 0, 0, 1, 1, 1]) (by kernel_rfl) ?_
    refine wpBlock (c1 := nav C0 [1, 1, 0, 1, 0, 0, 1, 1, 0, 0]) (id := 1) (by kernel_rfl) ?_
    refine wpSeq (c1 := nav C0 [1, 1, 0, 1, 0, 0, 1, 1, 0, 0, 0]) (c2 := nav C0 [1, 1, 0, 1, 0, 0, 1, 1, 0, 0, 1]) (by kernel_rfl) ?_
    refine MS.regC gg (keep := [5, 10, 11, 12]) (e' := [(5, .box [(.fr, .int .i64 (rd .item xs i).Key), (.fr, .int .i64 (rd .item xs i).Val), (.fr, .int .i64 (rd .item xs i).Count)]), (10, .v .sh (.lst .item xs)), (11, .v .fr (.int .i64 (lenI .item xs))), (12, .v .fr (.int .i64 i))])
      (ps := [inb i (lenI .item xs)]) (by kernel_rfl) ⟨⟨by omega, by unfold lenI; omega⟩, trivial⟩ hs (fun a w hs => ?_)
    refine reg5 hs (by kernel_rfl) ⟨rfl, rfl, rfl⟩ rfl (fun d h1 h2 => ?_) (keyd_acc _).1 (fun a w hs => ?_)
    · rcases (show d = 16 ∨ d = 17 ∨ d = 18 ∨ d = 19 ∨ d = 20 ∨ d = 21 ∨ d = 22 ∨ d = 23 ∨ d = 24 ∨ d = 25 ∨ d = 26 ∨ d = 27 by omega) with rfl | rfl | rfl | rfl | rfl | rfl | rfl | rfl | rfl | rfl | rfl | rfl <;> rfl
    · show (nav C0 [1, 1, 0, 1, 0, 0, 1, 1, 1]).wp _ _ a w
      refine MS.regC gg (keep := [10, 11, 12]) (e' := EL xs (ar .add .i64 i 1)) (ps := []) (by kernel_rfl) trivial hs (fun a w hs => ?_)
      refine ⟨i + 1, by omega, by omega, ?_⟩
      rw [acc_take hlt]
      rw [add_small (by omega) (by omega)] at hs
      exact hs
  · have hge : xs.length ≤ i := by
      have : decide ((i : Int) < lenI .item xs) = false := hf
      have := of_decide_eq_false this
      unfold lenI at this
      omega
    show Exit.inBlock 0 Q (.exit 0) a w
    simp only [Exit.inBlock, if_true]
    refine hQ a w ?_
    rw [List.take_of_length_le hge] at hs
    exact hs.weak (Weak.cast (pat := []) (by kernel_rfl) (by kernel_rfl))
end Go.Proofs.Ytopcofkpggefkaa

namespace Go.Proofs.Ytopcofkpggefkaa
open Go

abbrev N2 (it : Nat) : NP := ⟨50, none, [(31, .pointer (some ⟨it, 0, none⟩))]⟩
def E2 (out : List Item) : Env := [(6, .box [(.acc true, .lst .item out)])]

theorem nodup_le : ∀ {n : Nat} {S : List Nat}, S.Nodup → (∀ i ∈ S, i < n) → S.length ≤ n
  | 0, [], _, _ => Nat.le_refl _
  | 0, i :: r, _, h => absurd (h i (by simp)) (by omega)
  | n + 1, S, hn, h => by
    have h1 : (S.filter fun i => i != n).length ≤ n := nodup_le (hn.sublist List.filter_sublist) (fun i hi => by
      have h2 := List.mem_filter.1 hi
      have h3 := h i h2.1
      have h4 : i ≠ n := by simpa using h2.2
      omega)
    have h2 : ∀ {S : List Nat}, S.Nodup → S.length ≤ (S.filter fun i => i != n).length + 1 := by
      intro S
      induction S with
      | nil => intro _; simp
      | cons i r ih =>
        intro hn
        have hn' := List.nodup_cons.1 hn
        by_cases e : i = n
        · subst e
          have : (r.filter fun j => j != i) = r := List.filter_eq_self.2 (fun j hj => by
            have : j ≠ i := fun e => hn'.1 (e ▸ hj)
            simpa using this)
          simp [this]
        · have := ih hn'.2
          simp [e]
          omega
    have := h2 hn
    omega

theorem outI_snoc (m : MP) (S : List Nat) {i : Nat} {p : List Int × Int} (hp : m[i]? = some p) : outI m (S ++ [i]) = outI m S ++ (if p.2 = 0 then [] else [mkI p]) := by
  unfold outI
  rw [List.map_append, List.filter_append, List.map_append]
  congr 1
  have : m.getD i ([0, 0, 0], 0) = p := by rw [List.getD_eq_getElem?_getD, hp]; rfl
  simp only [List.map_cons, List.map_nil, this]
  by_cases h : p.2 = 0 <;> simp [h]
theorem outI_le (m : MP) (S : List Nat) : (outI m S).length ≤ S.length := by
  unfold outI
  rw [List.length_map]
  exact Nat.le_trans (List.length_filter_le _ _) (by simp)

theorem op9 : (o9 0).op = .next (.tmp 31) false ∧ (o9 0).dst = some 32 ∧ (o9 0).guard = none ∧ (o9 1).op = .extract (.tmp 32) 0 ∧ (o9 1).dst = some 33 ∧ (o9 1).guard = none ∧
    (o10 0).op = .entry (.tmp 31) ∧ (o10 0).dst = some 34 ∧ (o10 0).guard = none ∧ (o10 1).op = .extract (.tmp 34) 0 ∧ (o10 1).dst = some 35 ∧ (o10 1).guard = none ∧ (o10 2).op = .extract (.tmp 34) 1 ∧ (o10 2).dst = some 36 ∧ (o10 2).guard = none := by
  refine ⟨by kernel_rfl, by kernel_rfl, by kernel_rfl, by kernel_rfl, by kernel_rfl, by kernel_rfl, by kernel_rfl, by kernel_rfl, by kernel_rfl, by kernel_rfl, by kernel_rfl, by kernel_rfl, by kernel_rfl, by kernel_rfl, by kernel_rfl⟩
theorem at9 : (opsOf (nav C0 [1, 1, 1, 1, 0, 1, 0, 0, 0]))[0]? = some (o9 0) ∧ (opsOf (nav C0 [1, 1, 1, 1, 0, 1, 0, 0, 0]))[1]? = some (o9 1) ∧ List.range (opsOf (nav C0 [1, 1, 1, 1, 0, 1, 0, 0, 0])).size = [0, 1] := ⟨by kernel_rfl, by kernel_rfl, by kernel_rfl⟩
theorem at10 : (opsOf (nav C0 [1, 1, 1, 1, 0, 1, 0, 0, 1, 1, 0, 0]))[0]? = some (o10 0) ∧ (opsOf (nav C0 [1, 1, 1, 1, 0, 1, 0, 0, 1, 1, 0, 0]))[1]? = some (o10 1) ∧ (opsOf (nav C0 [1, 1, 1, 1, 0, 1, 0, 0, 1, 1, 0, 0]))[2]? = some (o10 2) ∧
    (opsOf (nav C0 [1, 1, 1, 1, 0, 1, 0, 0, 1, 1, 0, 0]))[3]? = some (o10 3) ∧ (opsOf (nav C0 [1, 1, 1, 1, 0, 1, 0, 0, 1, 1, 0, 0]))[4]? = some (o10 4) ∧ (opsOf (nav C0 [1, 1, 1, 1, 0, 1, 0, 0, 1, 1, 0, 0]))[5]? = some (o10 5) ∧
    List.range (opsOf (nav C0 [1, 1, 1, 1, 0, 1, 0, 0, 1, 1, 0, 0])).size = [0, 1, 2, 3, 4, 5] := ⟨by kernel_rfl, by kernel_rfl, by kernel_rfl, by kernel_rfl, by kernel_rfl, by kernel_rfl, by kernel_rfl⟩

set_option maxRecDepth 20000 in
set_option maxHeartbeats 1600000 in
theorem loop2 {m : MP} (hm : ∀ p ∈ m, ∃ k v, p.1 = [k, v, 0]) (hlen : m.length ≤ 1099511627775) {Q : Exit → Act → World → Prop} {B : Nat} {W0 : World} {F0 : Fz} {r it : Nat} (hne : r ≠ it) {a : Act} {w : World}
    (hs : MS (N2 it) B [] W0 F0 [(it, itObj r m []), (r, mapObj m)] (E2 []) a w)
    (hQ : ∀ S a w, S.Nodup → (∀ i ∈ S, i < m.length) → (∀ i, i < m.length → i ∈ S) → MS (N2 it) B [] W0 F0 [] (E2 (outI m S)) a w → Q .normal a w) : (nav C0 [1, 1, 1, 1, 0, 1]).wp Try.prog Q a w := by
  refine wpBlock (c1 := nav C0 [1, 1, 1, 1, 0, 1, 0]) (id := 2) (by kernel_rfl) ?_
  rw [show nav C0 [1, 1, 1, 1, 0, 1, 0] = .loop (nav C0 [1, 1, 1, 1, 0, 1, 0, 0]) by kernel_rfl]
  refine loop_wp (σ := List Nat) (fun S a w => S.Nodup ∧ (∀ i ∈ S, i < m.length) ∧ MS (N2 it) B [] W0 F0 [(it, itObj r m S), (r, mapObj m)] (E2 (outI m S)) a w) (fun S => m.length - S.length) ?_ [] ⟨by simp, by simp, hs⟩
  rintro S a w ⟨hnd, hlt, hs⟩
  obtain ⟨p90, d90, g90, p91, d91, g91, p100, d100, g100, p101, d101, g101, p102, d102, g102⟩ := op9
  have hit := hs.o (r := it) (o := itObj r m S) (by simp)
  have hr := hs.o (r := r) (o := mapObj m) (by simp)
  have h31 : a.tmps.getD 31 undef = .pointer (some ⟨it, 0, none⟩) := hs.k (by simp)
  refine wpSeq (c1 := nav C0 [1, 1, 1, 1, 0, 1, 0, 0, 0]) (c2 := nav C0 [1, 1, 1, 1, 0, 1, 0, 0, 1]) (by kernel_rfl) ?_
  refine wpHand (by kernel_rfl) at9.2.2 ?_
  rw [wpOps_cons]
  refine wpOp_of at9.1 g90 ?_
  rcases next_run (P := Try.prog) hr hit (o9 0).type with ⟨hall, hrun⟩ | ⟨i, p, n, hiS, hp, hrun⟩
  · refine wp_value (exec_next p90 (by rw [h31]; exact hrun)) ?_
    rw [d90, wpOps_cons]
    have h1 := hs.val (d := 32) (by kernel_rfl) (v := .tuple #[.bool false]) (av := .dead) rfl (fun _ _ => trivial)
    refine wpOp_of at9.2.1 g91 ?_
    refine wp_value (exec_extract (vs := #[.bool false]) p91 (h1.k (by simp)) (v := .bool false) (by simp)) ?_
    rw [d91]
    have h2 := h1.val (d := 33) (by kernel_rfl) (v := .bool false) (av := .v .fr (.bool false)) rfl (fun _ _ => RC.bool _)
    refine wpOps_nil _ ?_
    show (nav C0 [1, 1, 1, 1, 0, 1, 0, 0, 1]).wp _ _ _ _
    refine wpSeq (c1 := nav C0 [1, 1, 1, 1, 0, 1, 0, 0, 1, 0]) (c2 := nav C0 [1, 1, 1, 1, 0, 1, 0, 0, 1, 1]) (by kernel_rfl) ?_
    refine wpCondB (o := .tmp 33) (c1 := nav C0 [1, 1, 1, 1, 0, 1, 0, 0, 1, 0, 0]) (c2 := nav C0 [1, 1, 1, 1, 0, 1, 0, 0, 1, 0, 1]) (by kernel_rfl) (h2.bool (k := .fr) (b := false) rfl) (fun ht => by cases ht) (fun hf => wpExit (i := 2) (by kernel_rfl) ?_)
    show Exit.inBlock 2 Q (.exit 2) _ _
    simp only [Exit.inBlock, if_true]
    refine hQ S _ _ hnd hlt hall ?_
    exact (h2.weak (e' := E2 (outI m S)) (Weak.cast (pat := [(6, .same)]) (by kernel_rfl) (by kernel_rfl))).forget rfl rfl (fun p hp => by simp at hp ⊢; simp [hp]) (fun p hp => by simp at hp)
  · obtain ⟨k, v, hkv⟩ := hm p (List.mem_of_getElem? hp)
    obtain ⟨pk, pv⟩ := p
    simp only at hkv hrun
    subst hkv
    have hil : i < m.length := (List.getElem?_eq_some_iff.1 hp).1
    refine wp_value (exec_next p90 (by rw [h31]; exact hrun)) ?_
    rw [d90, wpOps_cons]
    have h0 := (hs.drew n).set (r := it) (o0 := itObj r m S) (by simp) (w' := setO { w with drawn := n } it (itObj r m (S ++ [i]))) (setO_pk _ _ _) (obs' := [(it, itObj r m (S ++ [i])), (r, mapObj m)]) (fun q hq => by
      simp only [List.mem_cons, List.not_mem_nil, or_false] at hq
      rcases hq with rfl | rfl
      · exact .inr ⟨rfl, setO_get hit, rfl⟩
      · exact .inl ⟨by simp, hne⟩)
    have h1 := h0.val (d := 32) (by kernel_rfl) (v := .tuple #[.bool true, kvOf [k, v, 0], .int .i64 pv]) (av := .dead) rfl (fun _ _ => trivial)
    refine wpOp_of at9.2.1 g91 ?_
    refine wp_value (exec_extract (vs := #[.bool true, kvOf [k, v, 0], .int .i64 pv]) p91 (h1.k (by simp)) (v := .bool true) (by simp)) ?_
    rw [d91]
    have h2 := h1.val (d := 33) (by kernel_rfl) (v := .bool true) (av := .v .fr (.bool true)) rfl (fun _ _ => RC.bool _)
    refine wpOps_nil _ ?_
    show (nav C0 [1, 1, 1, 1, 0, 1, 0, 0, 1]).wp _ _ _ _
    refine wpSeq (c1 := nav C0 [1, 1, 1, 1, 0, 1, 0, 0, 1, 0]) (c2 := nav C0 [1, 1, 1, 1, 0, 1, 0, 0, 1, 1]) (by kernel_rfl) ?_
    refine wpCondB (o := .tmp 33) (c1 := nav C0 [1, 1, 1, 1, 0, 1, 0, 0, 1, 0, 0]) (c2 := nav C0 [1, 1, 1, 1, 0, 1, 0, 0, 1, 0, 1]) (by kernel_rfl) (h2.bool (k := .fr) (b := true) rfl) (fun ht => wpSkip (by kernel_rfl) ?_) (fun hf => by cases hf)
    show (nav C0 [1, 1, 1, 1, 0, 1, 0, 0, 1, 1]).wp _ _ _ _
    have h3 : MS (N2 it) B [] W0 F0 [(it, itObj r m (S ++ [i])), (r, mapObj m)] (E2 (outI m S)) _ _ := (h2.weak (e' := E2 (outI m S)) (Weak.cast (pat := [(6, .same)]) (by kernel_rfl) (by kernel_rfl))).forget rfl rfl (fun p hp => by simp at hp ⊢; simp [hp]) (fun p hp => hp)
    clear h0 h1 h2
    generalize (a.put (some 32) _).put (some 33) _ = a3 at h3 ⊢
    generalize setO { w with drawn := n } it (itObj r m (S ++ [i])) = w3 at h3 ⊢
    refine wpBlock (c1 := nav C0 [1, 1, 1, 1, 0, 1, 0, 0, 1, 1, 0]) (id := 3) (by kernel_rfl) ?_
    refine wpSeq (c1 := nav C0 [1, 1, 1, 1, 0, 1, 0, 0, 1, 1, 0, 0]) (c2 := nav C0 [1, 1, 1, 1, 0, 1, 0, 0, 1, 1, 0, 1]) (by kernel_rfl) ?_
    refine wpHand (by kernel_rfl) at10.2.2.2.2.2.2 ?_
    rw [wpOps_cons]
    refine wpOp_of at10.1 g100 ?_
    have hit3 := h3.o (r := it) (o := itObj r m (S ++ [i])) (by simp)
    have hr3 := h3.o (r := r) (o := mapObj m) (by simp)
    have h313 : a3.tmps.getD 31 undef = .pointer (some ⟨it, 0, none⟩) := h3.k (by simp)
    refine wp_value (exec_entry p100 (by rw [h313]; exact entry_run hr3 hit3 hp ⟨S, rfl⟩)) ?_
    rw [d100, wpOps_cons]
    have h4 := h3.val (d := 34) (by kernel_rfl) (v := .tuple #[kvOf [k, v, 0], .int .i64 pv]) (av := .dead) rfl (fun _ _ => trivial)
    refine wpOp_of at10.2.1 g101 ?_
    refine wp_value (exec_extract (vs := #[kvOf [k, v, 0], .int .i64 pv]) p101 (h4.k (by simp)) (v := kvOf [k, v, 0]) (by simp)) ?_
    rw [d101, wpOps_cons]
    have h5 := h4.val (d := 35) (by kernel_rfl) (v := kvOf [k, v, 0]) (av := .agg true [.int .i64 k, .int .i64 v, .int .i64 0]) rfl (fun _ _ => ⟨[.int .i64 k, .int .i64 v, .int .i64 0], rfl, .cons (.int _ _) (.cons (.int _ _) (.cons (.int _ _) .nil))⟩)
    refine wpOp_of at10.2.2.1 g102 ?_
    refine wp_value (exec_extract (vs := #[kvOf [k, v, 0], .int .i64 pv]) p102 (h5.k (by simp)) (v := .int .i64 pv) (by simp)) ?_
    rw [d102]
    have h6 := h5.val (d := 36) (by kernel_rfl) (v := .int .i64 pv) (av := .v .fr (.int .i64 pv)) rfl (fun _ _ => RC.int _ _)
    have h7 : MS (N2 it) B [] W0 F0 [(it, itObj r m (S ++ [i])), (r, mapObj m)] [(6, .box [(.acc true, .lst .item (outI m S))]), (35, .agg true [.int .i64 k, .int .i64 v, .int .i64 0]), (36, .v .fr (.int .i64 pv))] _ _ :=
      (h6.weak (Weak.cast (pat := [(6, .same), (35, .same), (36, .same)]) (by kernel_rfl) (by kernel_rfl))).forget rfl rfl (fun p hp => by simp at hp ⊢; simp [hp]) (fun p hp => hp)
    clear h4 h5 h6
    generalize ((a3.put (some 34) _).put (some 35) _).put (some 36) _ = a7 at h7 ⊢
    refine MS.suf (l := [o10 3, o10 4, o10 5]) (i := 3) gg (keep := [6, 7, 8]) (e' := [(6, .box [(.acc true, .lst .item (outI m S))]), (7, .box [(.fr, .int .i64 k), (.fr, .int .i64 v), (.fr, .int .i64 0)]), (8, .v .fr (.int .i64 pv))]) (ps := [])
      (fun j o hj => by
        match j, hj with
        | 0, hj => simp at hj; subst hj; exact at10.2.2.2.1
        | 1, hj => simp at hj; subst hj; exact at10.2.2.2.2.1
        | 2, hj => simp at hj; subst hj; exact at10.2.2.2.2.2.1
        | j + 3, hj => simp at hj) (by kernel_rfl) (by kernel_rfl) trivial h7 (fun a w hs => ?_)
    show (nav C0 [1, 1, 1, 1, 0, 1, 0, 0, 1, 1, 0, 1]).wp _ _ _ _
    refine wpSeq (c1 := nav C0 [1, 1, 1, 1, 0, 1, 0, 0, 1, 1, 0, 1, 0]) (c2 := nav C0 [1, 1, 1, 1, 0, 1, 0, 0, 1, 1, 0, 1, 1]) (by kernel_rfl) ?_
    refine MS.regC gg (keep := [6, 7, 8, 38]) (e' := [(6, .box [(.acc true, .lst .item (outI m S))]), (7, .box [(.fr, .int .i64 k), (.fr, .int .i64 v), (.fr, .int .i64 0)]), (8, .v .fr (.int .i64 pv)), (38, .v .fr (.bool (cmp .neq pv 0)))]) (ps := []) (by kernel_rfl) trivial hs (fun a w hs => ?_)
    have hnd' : (S ++ [i]).Nodup := List.nodup_append.2 ⟨hnd, by simp, fun x hx y hy e => by simp at hy; subst hy; subst e; exact hiS hx⟩
    have hlt' : ∀ j ∈ S ++ [i], j < m.length := fun j hj => by
      rcases List.mem_append.1 hj with hj | hj
      · exact hlt j hj
      · simp at hj; subst hj; exact hil
    have hmes : m.length - (S ++ [i]).length < m.length - S.length := by
      have := nodup_le hnd' hlt'
      simp at this ⊢
      omega
    have hout := outI_snoc m S hp
    refine wpCondB (o := .tmp 38) (c1 := nav C0 [1, 1, 1, 1, 0, 1, 0, 0, 1, 1, 0, 1, 1, 0]) (c2 := nav C0 [1, 1, 1, 1, 0, 1, 0, 0, 1, 1, 0, 1, 1, 1]) (by kernel_rfl) (hs.bool (k := .fr) rfl) (fun ht => ?_) (fun hf => wpSkip (by kernel_rfl) ?_)
    · have hz : pv ≠ 0 := by
        have : (pv != 0) = true := ht
        simpa using this
      refine wpSeq (c1 := nav C0 [1, 1, 1, 1, 0, 1, 0, 0, 1, 1, 0, 1, 1, 0, 0]) (c2 := nav C0 [1, 1, 1, 1, 0, 1, 0, 0, 1, 1, 0, 1, 1, 0, 1]) (by kernel_rfl) ?_
      refine MS.regC gg (keep := [6, 7]) (e' := [(6, .box [(.acc true, .lst .item (outI m S))]), (7, .box [(.fr, .int .i64 k), (.fr, .int .i64 v), (.fr, .int .i64 pv)])]) (ps := []) (by kernel_rfl) trivial hs (fun a w hs => ?_)
      refine MS.regC gg (keep := [6]) (e' := E2 (outI m S ++ [⟨k, v, pv⟩])) (ps := [lim (lenI .item (outI m S)) (lenI .item [⟨k, v, pv⟩])]) (by kernel_rfl) ⟨?_, trivial⟩ hs (fun a w hs => ?_)
      · have h1 := outI_le m S
        have h2 := nodup_le hnd hlt
        show ((outI m S).length : Int) + 1 ≤ 1099511627776
        omega
      · refine ⟨S ++ [i], hmes, hnd', hlt', ?_⟩
        rw [hout, if_neg hz]
        exact hs
    · have hz : pv = 0 := by
        have : (pv != 0) = false := hf
        simpa using this
      refine ⟨S ++ [i], hmes, hnd', hlt', ?_⟩
      rw [hout, if_pos hz, List.append_nil]
      exact hs.weak (Weak.cast (pat := [(6, .same)]) (by kernel_rfl) (by kernel_rfl))
end Go.Proofs.Ytopcofkpggefkaa

namespace Go.Proofs.Ytopcofkpggefkaa
open Go Go.Sort Go.RowKit Go.Lib

theorem RC.int_inv {F : Fz} {lo : Nat} {w : World} {k : IntKind} {n : Int} {v : Value} (h : RC F lo w (.int k n) v) : v = .int k n := by cases h; rfl

theorem box_facts {N : NP} {B : Nat} {W0 : World} {F0 : Fz} {obs : List (Nat × Obj)} {e : Env} {a : Act} {w : World} {s : Nat} {out : List Item} (hs : MS N B [] W0 F0 obs e a w) (hg : getE e s = .box [(.acc true, .lst .item out)]) :
    ∃ Bs sl, a.tmps.getD s undef = .pointer (some ⟨Bs, 0, none⟩) ∧ Blk w Bs [sl] ∧ B ≤ Bs ∧ ((out = [] ∧ sl = .slice none 0 0) ∨ ∃ blk cap cs, sl = .slice (some ⟨blk, 0, none⟩) out.length cap ∧ Blk w blk cs ∧ cs.length = cap * 3 ∧ out.length ≤ cap ∧ B ≤ blk ∧ blk ≠ Bs ∧
      ∀ i x, out[i]? = some x → ∀ j, j < 3 → cs[i * 3 + j]? = (encI x)[j]?) := by
  obtain ⟨F, ow, hx⟩ := hs.sim.rep
  obtain ⟨Bs, us, htm, how, hblk, _, hlen, hbx⟩ := hx.box hg
  match us, hlen with
  | [sl], _ =>
    have hBs : B ≤ Bs := (hx.bd _ _ _ how).2.elim id (fun h => by simp at h)
    have hb0 : AccR F (lof B true) w (ow s (some 0)) (.lst .item out) sl := hbx 0 _ sl rfl rfl
    obtain ⟨hrc, hd⟩ := hb0
    refine ⟨Bs, sl, htm, hblk, hBs, ?_⟩
    rcases hd with ⟨t, e1, e2⟩ | ⟨t, xs, blk, cap, cs, e1, e2, e3, e4, e5, e6⟩
    · left
      have e1 : C.lst .item out = .lst t [] := e1
      cases e1
      exact ⟨rfl, e2⟩
    · right
      have e1 : C.lst .item out = .lst t xs := e1
      cases e1
      have hbl : B ≤ blk := (hx.bd _ _ _ e3).2.elim id (fun h => by simp at h)
      have hne : blk ≠ Bs := fun e => by
        subst e
        have := (hx.inj _ _ _ _ _ how e3).2
        cases this
      subst e2
      cases hrc with
      | lst _ _ b o cap vs hb hcap hf hc hr =>
        refine ⟨blk, cap, cs, rfl, e4, e5, hcap, hbl, hne, fun i x hi j hj => ?_⟩
        have hil := (List.getElem?_eq_some_iff.1 hi).1
        have h1 := hc i j hil hj
        rw [Nat.zero_add, e4.cell] at h1
        have h1 : cs[i * 3 + j]? = some (vs i j) := h1
        rw [h1]
        have hcl : (cells .item x)[j]? = some ((cells .item x)[j]'(by simp [cells]; exact hj)) := List.getElem?_eq_getElem _
        have h2 := hr i j x _ hi hcl
        rcases (show j = 0 ∨ j = 1 ∨ j = 2 by omega) with rfl | rfl | rfl
        · have h2 : RC F (lof B true) w (.int .i64 x.Key) (vs i 0) := h2
          rw [RC.int_inv h2]; rfl
        · have h2 : RC F (lof B true) w (.int .i64 x.Val) (vs i 1) := h2
          rw [RC.int_inv h2]; rfl
        · have h2 : RC F (lof B true) w (.int .i64 x.Count) (vs i 2) := h2
          rw [RC.int_inv h2]; rfl

theorem holds_of {w : World} {blk cap : Nat} {cs : List Value} {out : List Item} (hb : Blk w blk cs) (hlen : cs.length = cap * 3) (hcs : ∀ i x, out[i]? = some x → ∀ j, j < 3 → cs[i * 3 + j]? = (encI x)[j]?) : HoldsK encI 3 w blk 0 out.toArray := by
  have _ := hlen
  intro t ht
  rw [size_flatK] at ht
  have hi : t / 3 < out.length := by
    have : out.toArray.size = out.length := by simp
    omega
  have hj : t % 3 < 3 := Nat.mod_lt _ (by omega)
  refine ⟨?_, hb.frozen _⟩
  rw [Nat.zero_add, hb.cell, get_flatK _ _ _ _ ht]
  have h1 := hcs (t / 3) out[t / 3] (List.getElem?_eq_getElem hi) (t % 3) hj
  rw [show t / 3 * 3 + t % 3 = t by omega] at h1
  rw [h1]
  have h2 : out.toArray[t / 3]! = out[t / 3] := by simp [hi]
  rw [h2]
  have hl : (encI out[t / 3]).length = 3 := rfl
  rw [List.getElem?_eq_getElem (by omega), getElem!_pos (encI out[t / 3]) (t % 3) (by omega)]
  rfl

theorem grow_heap {w : World} {os : Array Obj} {k : Nat} (h : k < w.heap.size) : (grow w os).heap[k]? = w.heap[k]? := by
  show (w.heap ++ os)[k]? = _
  rw [Array.getElem?_append_left h]
theorem put_heap {w : World} {n blk : Nat} {d : Array Item} {k : Nat} (h : k ≠ blk) : (putRowK encI 3 (Sort.ahead w n) blk 0 d).heap[k]? = w.heap[k]? := by
  show (w.heap.modify blk _)[k]? = _
  rw [Array.getElem?_modify, if_neg (fun e => h e.symm)]
theorem put_size' {w : World} {n blk : Nat} {d : Array Item} : (putRowK encI 3 (Sort.ahead w n) blk 0 d).heap.size = w.heap.size := by
  show (w.heap.modify blk _).size = _
  simp

theorem sorted_back {N : NP} {B : Nat} {W0 : World} {F0 : Fz} {obs : List (Nat × Obj)} {e : Env} {a a' : Act} {w : World} {s : Nat} {out ys : List Item} (hs : MS N B [] W0 F0 obs e a w) (hL : Live F0 W0) {Bs blk cap : Nat} {cs : List Value}
    (hB : Blk w Bs [.slice (some ⟨blk, 0, none⟩) out.length cap]) (hBs : B ≤ Bs) (hb : Blk w blk cs) (hlen : cs.length = cap * 3) (hcap : out.length ≤ cap) (hbl : B ≤ blk) (hne : blk ≠ Bs) (hH : HoldsK encI 3 w blk 0 out.toArray)
    (hy : ys.length = out.length) {n : Nat} {os : Array Obj} (hdf : a'.defers = []) (hsz : a'.tmps.size = N.n) (htm : a'.tmps.getD s undef = .pointer (some ⟨Bs, 0, none⟩)) :
    MS ⟨N.n, none, []⟩ B [] W0 F0 [] [(s, .box [(.acc true, .lst .item ys)])] a' (grow (putRowK encI 3 (Sort.ahead w n) blk 0 ys.toArray) os) := by
  generalize hw : grow (putRowK encI 3 (Sort.ahead w n) blk 0 ys.toArray) os = w'
  have hpsz : (putRowK encI 3 (Sort.ahead w n) blk 0 ys.toArray).heap.size = w.heap.size := put_size'
  have hold : ∀ k, k < w.heap.size → k ≠ blk → w'.heap[k]? = w.heap[k]? := fun k hk h => by rw [← hw, grow_heap (by rw [hpsz]; exact hk), put_heap h]
  have hsize : w.heap.size ≤ w'.heap.size := by rw [← hw]; show w.heap.size ≤ (_ ++ os).size; rw [Array.size_append, hpsz]; omega
  have hy' : ys.toArray.size = out.toArray.size := by simp [hy]
  have hHy : HoldsK encI 3 (putRowK encI 3 (Sort.ahead w n) blk 0 ys.toArray) blk 0 ys.toArray := holdsK_putRowK _ _ _ blk 0 out.toArray ys.toArray (holdsK_ahead _ _ _ _ _ _ _ hH) hy'
  have hcell : ∀ i x, ys[i]? = some x → ∀ j, j < 3 → w'.cell? ⟨blk, i * 3 + j, none⟩ = (encI x)[j]? := by
    intro i x hi j hj
    have hil := (List.getElem?_eq_some_iff.1 hi).1
    have h1 := (hHy.cell (i := i) (c := j) (by simpa using hil) hj).1
    rw [Nat.zero_add] at h1
    have h2 : w'.cell? ⟨blk, i * 3 + j, none⟩ = (putRowK encI 3 (Sort.ahead w n) blk 0 ys.toArray).cell? ⟨blk, i * 3 + j, none⟩ := by
      rw [← hw]
      exact cell_of_heap (grow_heap (by rw [hpsz]; exact hb.lt))
    rw [h2, h1]
    have h3 : ys.toArray[i]! = x := by
      rw [List.getElem?_eq_getElem hil] at hi
      simp only [Option.some.injEq] at hi
      simp [hil, hi]
    rw [h3]
    have hl : (encI x).length = 3 := rfl
    rw [List.getElem?_eq_getElem (by omega), getElem!_pos (encI x) j (by omega)]
  have hblk' : ∃ cs', Blk w' blk cs' ∧ cs'.length = cap * 3 := by
    obtain ⟨t, ht⟩ := hb
    refine ⟨(putCells id 0 (flatK encI 3 ys.toArray) cs.toArray).toList, ⟨t, ?_⟩, by simp [putCells, hlen]⟩
    rw [← hw, grow_heap (by rw [hpsz]; exact (Array.getElem?_eq_some_iff.1 ht).1)]
    show (w.heap.modify blk _)[blk]? = _
    rw [Array.getElem?_modify, if_pos rfl, ht]
    simp [onCells]
  obtain ⟨cs', hblk', hcs'⟩ := hblk'
  have hBs' : Blk w' Bs [.slice (some ⟨blk, 0, none⟩) out.length cap] := hB.same (hold Bs hB.lt (Ne.symm hne))
  have hlow : ∀ k, k < B → w'.heap[k]? = W0.heap[k]? := fun k hk => by
    rw [hold k (Nat.lt_of_lt_of_le hk hs.sim.base) (by omega)]
    exact hs.kept.block k hk (by simp)
  have hkept : Kept B [] W0 w' := by
    refine ⟨?_, ?_, ?_, Nat.le_trans hs.kept.size hsize, fun k hk _ => hlow k hk, fun k o hk hc => ?_⟩
    · rw [← hw]; exact hs.kept.os
    · rw [← hw]; exact hs.kept.tape
    · rw [← hw]; exact hs.kept.output
    · rw [hlow k (by rw [hs.hB]; exact (Array.getElem?_eq_some_iff.1 hk).1)]; exact hk
  have hF0 : ∀ b o, F0 b o → b < B := fun b o h => by rw [hs.hB]; exact hL.lt h
  let F' : Fz := fun b o => F0 b o ∨ (b = blk ∧ o < out.length * 3)
  refine ⟨⟨hdf, ⟨hsz, (fun s h => by cases h), (fun p h => by cases h)⟩, Nat.le_trans hs.sim.base hsize, hF0, Kept.refl _ _ _, F',
    fun n i => if n = s then (match i with | none => some Bs | some 0 => some blk | some _ => none) else none, ?_⟩, hkept, (fun p h => by cases h), hs.hB⟩
  refine ⟨fun b o h => .inl h, fun b o h => h.imp_right (fun h => by omega), fun b o h => ?_, fun s1 i1 s2 i2 b h1 h2 => ?_, fun s1 i1 b h1 => ?_, fun n => ?_⟩
  · rcases h with h | ⟨rfl, h⟩
    · rw [cell_of_heap (hlow b (hF0 b o h))]; exact hL b o h
    · have hi : o / 3 < ys.length := by omega
      have := hcell (o / 3) ys[o / 3] (List.getElem?_eq_getElem hi) (o % 3) (Nat.mod_lt _ (by omega))
      rw [show o / 3 * 3 + o % 3 = o by omega] at this
      rw [this, List.getElem?_eq_getElem (by show _ < 3; omega)]
      rfl
  · by_cases e1 : s1 = s <;> by_cases e2 : s2 = s <;> simp only [e1, e2, if_true, if_false] at h1 h2
    · refine ⟨by rw [e1, e2], ?_⟩
      match i1, i2, h1, h2 with
      | none, none, _, _ => rfl
      | none, some 0, h1, h2 => simp at h1 h2; omega
      | some 0, none, h1, h2 => simp at h1 h2; omega
      | some 0, some 0, _, _ => rfl
      | some (_ + 1), _, h1, _ => simp at h1
      | none, some (_ + 1), _, h2 => simp at h2
      | some 0, some (_ + 1), _, h2 => simp at h2
    · simp at h2
    · simp at h1
    · simp at h1
  · by_cases e1 : s1 = s
    · simp only [e1, if_true] at h1
      match i1, h1 with
      | none, h1 => simp at h1; subst h1; exact ⟨hBs'.lt, .inl hBs⟩
      | some 0, h1 => simp at h1; subst h1; exact ⟨hblk'.lt, .inl hbl⟩
      | some (_ + 1), h1 => simp at h1
    · simp [e1] at h1
  · simp only [getE]
    cases hn : Nat.beq s n with
    | false => trivial
    | true =>
      have := Nat.eq_of_beq_eq_true hn
      subst this
      refine ⟨Bs, [.slice (some ⟨blk, 0, none⟩) out.length cap], htm, by simp, hBs', fun o h => ?_, rfl, fun j kc u hk hu => ?_⟩
      · rcases h with h | ⟨h, _⟩
        · have := hF0 _ _ h; omega
        · exact hne h.symm
      · match j, hk, hu with
        | 0, hk, hu =>
          simp only [List.getElem?_cons_zero, Option.some.injEq] at hk hu
          subst hk
          subst hu
          simp only [if_true]
          rw [← hy]
          refine ⟨.lst .item ys blk 0 cap (fun i j => (encI (ys.getD i ⟨0, 0, 0⟩)).getD j undef) hbl (by omega) (fun i j hi hj => .inr ⟨rfl, by rw [Nat.zero_add, ← hy]; exact idx_lt hi hj⟩) (fun i j hi hj => ?_) (fun i j x c hx hc => ?_),
            .inr ⟨.item, ys, blk, cap, cs', rfl, rfl, rfl, hblk', hcs', fun o ho h => ?_⟩⟩
          · have hj : j < 3 := hj
            have h1 := hcell i ys[i] (List.getElem?_eq_getElem hi) j hj
            show w'.cell? ⟨blk, 0 + (i * 3 + j), none⟩ = _
            rw [Nat.zero_add, h1]
            have hl : (encI ys[i]).length = 3 := rfl
            rw [List.getElem?_eq_getElem (by omega)]
            simp [List.getD_eq_getElem?_getD, List.getElem?_eq_getElem hi, List.getElem?_eq_getElem (show j < (encI ys[i]).length by omega)]
          · have hv : ys.getD i ⟨0, 0, 0⟩ = x := by rw [List.getD_eq_getElem?_getD, hx]; rfl
            rw [hv]
            have hj : j < 3 := by
              have := (List.getElem?_eq_some_iff.1 hc).1
              simpa [cells] using this
            rcases (show j = 0 ∨ j = 1 ∨ j = 2 by omega) with rfl | rfl | rfl <;> (simp [cells] at hc; subst hc; exact RC.int _ _)
          · rcases h with h | ⟨_, h⟩
            · have := hF0 _ _ h; omega
            · have ho : ys.length * 3 ≤ o := ho
              omega
        | j + 1, hk, hu => simp at hk

theorem out_eq {xs : List Item} {S : List Nat} (hnd : S.Nodup) (hlt : ∀ i ∈ S, i < (accM (chI xs)).length) (hall : ∀ i, i < (accM (chI xs)).length → i ∈ S) {ys : List Item} (hp : ys.Perm (outI (accM (chI xs)) S))
    (hso : ∀ i j, i < j → j < ys.length → ltI (ys.getD j ⟨0, 0, 0⟩) (ys.getD i ⟨0, 0, 0⟩) = false) : ys = gathI xs := by
  have hm := keyd_acc xs
  generalize hM : accM (chI xs) = m at hlt hall hp hm
  have hnm : (keysM m).Nodup := by rw [← hM]; exact nodup_accM _
  -- what was walked over is all
  have hS : S.Perm (List.range m.length) := (List.perm_ext_iff_of_nodup hnd List.nodup_range).2 fun i => ⟨fun h => List.mem_range.2 (hlt i h), fun h => hall i (List.mem_range.1 h)⟩
  have hmap : (List.range m.length).map (fun i => m.getD i (([0, 0, 0] : List Int), (0 : Int))) = m := by
    apply List.ext_getElem?
    intro i
    rw [List.getElem?_map]
    by_cases h : i < m.length
    · rw [List.getElem?_range h]
      simp [List.getD_eq_getElem?_getD, List.getElem?_eq_getElem h]
    · rw [List.getElem?_eq_none (by simpa using h), List.getElem?_eq_none (by omega)]
      rfl
  have hp2 : ys.Perm ((m.filter fun p => p.2 != 0).map mkI) := by
    refine hp.trans ?_
    unfold outI
    have := ((hS.map fun i => m.getD i (([0, 0, 0] : List Int), (0 : Int))).filter fun p => p.2 != 0).map mkI
    rw [hmap] at this
    exact this
  have hback : ∀ p ∈ m, (kI (mkI p), (mkI p).Count) = p := fun p hp => by
    obtain ⟨k, v, h⟩ := hm.2 p hp
    obtain ⟨ks, c⟩ := p
    simp only at h
    subst h
    rfl
  have hp3 : (ys.map fun x => (kI x, x.Count)).Perm (m.filter fun p => p.2 != 0) := by
    have h1 := hp2.map fun x => (kI x, x.Count)
    have h2 : ((m.filter fun p => p.2 != 0).map mkI).map (fun x => (kI x, x.Count)) = m.filter fun p => p.2 != 0 := by
      rw [List.map_map]
      conv => rhs; rw [← List.map_id (m.filter fun p => p.2 != 0)]
      exact List.map_congr_left (fun p hp => hback p (List.mem_filter.1 hp).1)
    rw [h2] at h1
    exact h1
  have hnd3 : (keysM (ys.map fun x => (kI x, x.Count))).Nodup := by
    have h1 : (keysM (m.filter fun p => p.2 != 0)).Nodup := hnm.sublist (List.Sublist.map _ List.filter_sublist)
    exact (hp3.map (fun p : List Int × Int => p.1)).nodup_iff.2 h1
  have hasc : Asc (ys.map fun x => (kI x, x.Count)) := by
    refine List.pairwise_iff_getElem.2 ?_
    intro i j hi hj hij
    simp only [List.length_map] at hi hj
    simp only [List.getElem_map]
    have h1 := hso i j hij hj
    rw [List.getD_eq_getElem?_getD, List.getD_eq_getElem?_getD, List.getElem?_eq_getElem hi, List.getElem?_eq_getElem hj] at h1
    simp only [Option.getD_some] at h1
    have hne : kI ys[i] ≠ kI ys[j] := by
      intro e
      have h2 : (keysM (ys.map fun x => (kI x, x.Count)))[i]'(by simp [keysM]; exact hi) = (keysM (ys.map fun x => (kI x, x.Count)))[j]'(by simp [keysM]; exact hj) := by simpa [keysM] using e
      exact absurd h2 (List.pairwise_iff_getElem.1 hnd3 i j (by simp [keysM]; exact hi) (by simp [keysM]; exact hj) hij)
    simp only [ltI, Bool.or_eq_false_iff, Bool.and_eq_false_iff, decide_eq_false_iff_not] at h1
    have hne' : ¬ (ys[i].Key = ys[j].Key ∧ ys[i].Val = ys[j].Val) := fun ⟨a, b⟩ => hne (by simp [kI, a, b])
    simp only [kI, ltK, Bool.or_eq_true, Bool.and_eq_true, decide_eq_true_eq]
    omega
  have hg : (ys.map fun x => (kI x, x.Count)) = gathM (chI xs) := by
    unfold gathM
    rw [hM]
    have hpp := hp3.trans (sortM_perm (m.filter fun p => p.2 != 0)).symm
    refine asc_eq hpp hasc (sortM_asc (n := 3) (hnm.sublist (List.Sublist.map _ List.filter_sublist)) (fun p hp => hm.1 p (List.mem_filter.1 hp).1))
  unfold gathI
  rw [← hg, List.map_map]
  conv => lhs; rw [← List.map_id ys]
  exact List.map_congr_left (fun x _ => by cases x; rfl)
end Go.Proofs.Ytopcofkpggefkaa

namespace Go.Proofs.Ytopcofkpggefkaa
open Go Go.Sort Go.RowKit Go.Lib

theorem op14 : (o14 0).op = .load 44 (.tmp 6) ∧ (o14 0).dst = some 45 ∧ (o14 0).guard = none ∧ (o14 1).op = .makeInterface 44 (.tmp 45) ∧ (o14 1).dst = some 46 ∧ (o14 1).guard = none ∧
    (o14 2).op = .makeFunc (.func 135) #[] #[.tmp 6] ∧ (o14 2).dst = some 47 ∧ (o14 2).guard = none ∧ (o14 3).op = .call ⟨.value (.func 134), #[.tmp 46, .tmp 47], #[20, 136]⟩ ∧ (o14 3).dst = some 48 ∧ (o14 3).guard = none := by
  refine ⟨by kernel_rfl, by kernel_rfl, by kernel_rfl, by kernel_rfl, by kernel_rfl, by kernel_rfl, by kernel_rfl, by kernel_rfl, by kernel_rfl, by kernel_rfl, by kernel_rfl, by kernel_rfl⟩
theorem at14 : (opsOf (nav C0 [1, 1, 1, 1, 1, 0]))[0]? = some (o14 0) ∧ (opsOf (nav C0 [1, 1, 1, 1, 1, 0]))[1]? = some (o14 1) ∧ (opsOf (nav C0 [1, 1, 1, 1, 1, 0]))[2]? = some (o14 2) ∧ (opsOf (nav C0 [1, 1, 1, 1, 1, 0]))[3]? = some (o14 3) ∧
    List.range (opsOf (nav C0 [1, 1, 1, 1, 1, 0])).size = [0, 1, 2, 3] := ⟨by kernel_rfl, by kernel_rfl, by kernel_rfl, by kernel_rfl, by kernel_rfl⟩
noncomputable def fnS : Func := (Try.prog.funcs[134]?).getD default
theorem fnS_ok : Try.prog.funcs[134]? = some fnS ∧ (fnS.name == "runtime.NumGoroutine") = false ∧ fnS.body.isNone = false := ⟨by kernel_rfl, by kernel_rfl, by kernel_rfl⟩
theorem tdT : TDok Try.prog 44 ⟨.slice 64, 1, [.nl .item], none, false⟩ := ttg_ok.td _ _ (by kernel_rfl)

theorem exec_call2 {P : Program} {a : Act} {w : World} {o : Oper} {f x y t u : Nat} {fn : Func} (hop : o.op = .call ⟨.value (.func f), #[.tmp x, .tmp y], #[t, u]⟩) (hfn : P.funcs[f]? = some fn) (hname : (fn.name == "runtime.NumGoroutine") = false) (hbody : fn.body.isNone = false) :
    (execOp a.eval o).run P w = .ok (.enter f #[a.tmps.getD x undef, a.tmps.getD y undef]) w := by
  obtain ⟨dst, op, ty, pos, aft, gd⟩ := o
  simp only [] at hop
  subst hop
  have hname' : ¬ fn.name = "runtime.NumGoroutine" := by simpa using hname
  have hbody' : ¬ fn.body = none := by intro e; rw [e] at hbody; simp at hbody
  simp [execOp, resolve, Act.eval, Deferred.ofValue, invoke, callFunc, hfn, hname', hbody']

theorem load_slice {a : Act} {w : World} {o : Oper} (hop : o.op = .load 44 (.tmp 6)) {Bs : Nat} {sl : Value} (hx : a.tmps.getD 6 undef = .pointer (some ⟨Bs, 0, none⟩)) (hb : Blk w Bs [sl]) : (execOp a.eval o).run Try.prog w = .ok (.value sl) w :=
  exec_load hop hx tdT rfl (by rw [hb.cell]; rfl)

set_option maxRecDepth 20000 in
theorem sorting {out : List Item} (hlen : out.length ≤ 1099511627776) {Q : Exit → Act → World → Prop} {B : Nat} {W0 : World} {F0 : Fz} (hL : Live F0 W0) {a : Act} {w : World} (hs : MS ⟨50, none, []⟩ B [] W0 F0 [] (E2 out) a w)
    (hQ : ∀ ys a w, ys.Perm out → (∀ i j, i < j → j < ys.length → ltI (ys.getD j ⟨0, 0, 0⟩) (ys.getD i ⟨0, 0, 0⟩) = false) → MS ⟨50, none, []⟩ B [] W0 F0 [] (E2 ys) a w → Q .normal a w) : (nav C0 [1, 1, 1, 1, 1, 0]).wp Try.prog Q a w := by
  obtain ⟨p0, d0, g0, p1, d1, g1, p2, d2, g2, p3, d3, g3⟩ := op14
  obtain ⟨Bs, sl, h6, hB, hBs, hcase⟩ := box_facts (s := 6) hs rfl
  have hsz : a.tmps.size = 50 := hs.sim.tmps.size
  refine wpHand (by kernel_rfl) at14.2.2.2.2 ?_
  rw [wpOps_cons]
  refine wpOp_of at14.1 g0 ?_
  refine wp_value (load_slice p0 h6 hB) ?_
  rw [d0, wpOps_cons]
  refine wpOp_of at14.2.1 g1 ?_
  refine wp_value (exec_makeInterface p1 (e := 64) (by kernel_rfl)) ?_
  rw [d1, wpOps_cons]
  refine wpOp_of at14.2.2.1 g2 ?_
  refine wp_value (exec_makeFunc p2) ?_
  rw [d2, wpOps_cons]
  refine wpOp_of at14.2.2.2.1 g3 ?_
  have e45 : (a.put (some 45) sl).tmps.getD 45 undef = sl := by rw [getD_set a 45 sl (by omega), if_pos rfl]
  rw [e45]
  generalize ha1 : a.put (some 45) sl = a1
  have s1 : a1.tmps.size = 50 := by rw [← ha1, put_size, hsz]
  have t1 : a1.tmps.getD 6 undef = .pointer (some ⟨Bs, 0, none⟩) := by rw [← ha1, getD_set a 45 sl (by omega), if_neg (by omega)]; exact h6
  have df1 : a1.defers = [] := by rw [← ha1]; exact hs.sim.defers
  generalize ha2 : a1.put (some 46) (.iface 44 sl) = a2
  have s2 : a2.tmps.size = 50 := by rw [← ha2, put_size, s1]
  have t2 : a2.tmps.getD 6 undef = .pointer (some ⟨Bs, 0, none⟩) := by rw [← ha2, getD_set a1 46 _ (by omega), if_neg (by omega)]; exact t1
  have v2 : a2.tmps.getD 46 undef = .iface 44 sl := by rw [← ha2, getD_set a1 46 _ (by omega), if_pos rfl]
  have df2 : a2.defers = [] := by rw [← ha2]; exact df1
  rw [t2]
  generalize ha3 : a2.put (some 47) (.func (.func 135) #[] #[.pointer (some ⟨Bs, 0, none⟩)]) = a3
  have s3 : a3.tmps.size = 50 := by rw [← ha3, put_size, s2]
  have t3 : a3.tmps.getD 6 undef = .pointer (some ⟨Bs, 0, none⟩) := by rw [← ha3, getD_set a2 47 _ (by omega), if_neg (by omega)]; exact t2
  have v3 : a3.tmps.getD 46 undef = .iface 44 sl := by rw [← ha3, getD_set a2 47 _ (by omega), if_neg (by omega)]; exact v2
  have u3 : a3.tmps.getD 47 undef = .func (.func 135) #[] #[.pointer (some ⟨Bs, 0, none⟩)] := by rw [← ha3, getD_set a2 47 _ (by omega), if_pos rfl]
  have df3 : a3.defers = [] := by rw [← ha3]; exact df2
  unfold Oper.wp
  rw [exec_call2 p3 fnS_ok.1 fnS_ok.2.1 fnS_ok.2.2, Oper.upon_enter, v3, u3]
  have s4 : ∀ v, (a3.put (some 48) v).tmps.size = 50 := fun v => by rw [put_size, s3]
  have t4 : ∀ v, (a3.put (some 48) v).tmps.getD 6 undef = .pointer (some ⟨Bs, 0, none⟩) := fun v => by rw [getD_set a3 48 _ (by omega), if_neg (by omega)]; exact t3
  rcases hcase with ⟨rfl, rfl⟩ | ⟨blk, cap, cs, rfl, hb, hcl, hcap, hbl, hne, hcs⟩
  · have hK : Try.prog.funcs.findIdx? (·.name == "internal/reflectlite" ++ ".Swapper$" ++ toString (Lib.swapperK 0 svE 25)) = some 158 := by
      rw [show Lib.swapperK 0 svE 25 = 1 by kernel_rfl]; kernel_rfl
    refine (Any.sort_Slice_tiny sl6 44 64 svT svE (by kernel_rfl) (by kernel_rfl) (by kernel_rfl) (by kernel_rfl) 25 (fun _ => by kernel_rfl) none 0 0 (by omega) 158 hK (.func 135) #[] _ w).mono ?_
    rintro e w' ⟨rfl, os, rfl⟩
    show wpOps _ _ _ _ _ _
    rw [d3]
    refine wpOps_nil _ (hQ [] _ _ (.refl _) (fun i j _ h => by simp at h) ?_)
    have hg : Grow (fun _ _ => False) w (fun _ _ => False) (grow w os) := ⟨rfl, rfl, rfl, by show w.heap.size ≤ (w.heap ++ os).size; simp, fun k hk => grow_heap hk, fun _ _ h => h, fun _ _ h => .inl h⟩
    obtain ⟨F, ow, hx⟩ := hs.sim.rep
    have hx' : SimX B [] F0 (E2 []) (fun n => a.tmps.getD n undef) (grow w os) F ow := hx.grow hs.sim.base ⟨hg.os, hg.tape, hg.output, hg.size, hg.block, fun _ _ h => h, fun _ _ h => .inl h⟩ (fun b o h => by
      rw [cell_of_heap (grow_heap ((show Live F w from hx.live).lt h))]; exact hx.live b o h)
    have hsim : Sim ⟨50, none, []⟩ B [] w F0 (E2 []) a (grow w os) := ⟨hs.sim.defers, hs.sim.tmps, hs.sim.base, hs.sim.f0, ⟨rfl, rfl, rfl, hg.size, fun k hk _ => grow_heap (Nat.lt_of_lt_of_le hk hs.sim.base), fun k o hk _ => by
      rw [grow_heap (Array.getElem?_eq_some_iff.1 hk).1]; exact hk⟩, F, ow, hx'⟩
    have hms := hs.of_sim hsim
    refine hms.tmps (D := [45, 46, 47, 48]) (by kernel_rfl) (fun d hd => ?_) rfl (by rw [show (a3.put (some 48) _).defers = a3.defers from rfl]; exact df3) (by rw [s4, hsz]) (fun n hn => ?_)
    · simp at hd
      rcases hd with rfl | rfl | rfl | rfl <;> exact ⟨rfl, rfl⟩
    · simp at hn
      rw [getD_set a3 48 _ (by omega), if_neg (by omega), ← ha3, getD_set a2 47 _ (by omega), if_neg (by omega), ← ha2, getD_set a1 46 _ (by omega), if_neg (by omega), ← ha1, getD_set a 45 _ (by omega), if_neg (by omega)]
  · have hH := holds_of hb hcl hcs
    have hd : out.toArray.size = out.length := by simp
    have hsort := sortI blk 0 cap Bs out.toArray (by rw [hd]; omega) w hH hb.lt (by rw [hd, hB.cell]; rfl) hB.lt (Ne.symm hne)
    rw [hd] at hsort
    refine hsort.mono ?_
    rintro e w' ⟨rfl, d', n, os, hp, hso, rfl⟩
    show wpOps _ _ _ _ _ _
    rw [d3]
    have hp : d'.toList.Perm out := by simpa using hp
    have hback := sorted_back (a' := a3.put (some 48) (.tuple #[])) (s := 6) (ys := d'.toList) (n := n) (os := os) hs hL hB hBs hb hcl hcap hbl hne hH hp.length_eq df3 (s4 _) (t4 _)
    rw [Array.toArray_toList] at hback
    refine wpOps_nil _ (hQ d'.toList _ _ hp (fun i j hij hj => ?_) hback)
    have hj' : j < d'.size := by simpa using hj
    have := hso i j hij hj'
    rw [getElem!_pos d' j hj', getElem!_pos d' i (by omega)] at this
    rw [List.getD_eq_getElem?_getD, List.getD_eq_getElem?_getD, List.getElem?_eq_getElem hj, List.getElem?_eq_getElem (show i < d'.toList.length by simp; omega)]
    simpa using this
end Go.Proofs.Ytopcofkpggefkaa

namespace Go.Proofs.Ytopcofkpggefkaa
open Go

theorem op1 : (o1 0).op = .makeMap 134 none ∧ (o1 0).dst = some 9 ∧ (o1 0).guard = none ∧ (o1 1).op = .assign (.tmp 9) ∧ (o1 1).dst = some 3 ∧ (o1 1).guard = none ∧
    (o8 0).op = .move (.tmp 3) ∧ (o8 0).dst = some 30 ∧ (o8 0).guard = none ∧ (o8 1).op = .range 134 (.tmp 30) ∧ (o8 1).dst = some 31 ∧ (o8 1).guard = none := by
  refine ⟨by kernel_rfl, by kernel_rfl, by kernel_rfl, by kernel_rfl, by kernel_rfl, by kernel_rfl, by kernel_rfl, by kernel_rfl, by kernel_rfl, by kernel_rfl, by kernel_rfl, by kernel_rfl⟩
theorem at1 : (opsOf (nav C0 [1, 0]))[0]? = some (o1 0) ∧ (opsOf (nav C0 [1, 0]))[1]? = some (o1 1) ∧ List.range (opsOf (nav C0 [1, 0])).size = [0, 1] ∧
    (opsOf (nav C0 [1, 1, 1, 1, 0, 0]))[0]? = some (o8 0) ∧ (opsOf (nav C0 [1, 1, 1, 1, 0, 0]))[1]? = some (o8 1) ∧ List.range (opsOf (nav C0 [1, 1, 1, 1, 0, 0])).size = [0, 1] := ⟨by kernel_rfl, by kernel_rfl, by kernel_rfl, by kernel_rfl, by kernel_rfl, by kernel_rfl⟩

set_option maxRecDepth 20000 in
set_option maxHeartbeats 800000 in
theorem con_impl_gathered : Con Try.prog 107 s_impl_gathered := by
  refine con_of ttg_ok (fn := Try.f107) (c := C0) (by kernel_rfl) (by kernel_rfl) (by kernel_rfl) (rs := [.tmp 2]) (by kernel_rfl) (by kernel_rfl) (fun _ => rfl) ?_
  intro x hx fr hfB hfL hIO a w hs
  obtain ⟨B, IoB, W0, F0⟩ := fr
  have hIO : IoB = [] := hIO rfl
  subst hIO
  obtain ⟨xs, u⟩ := x
  have hlim : lim (lenI .item xs) 1 := hx
  obtain ⟨p0, d0, g0, p1, d1, g1, p80, d80, g80, p81, d81, g81⟩ := op1
  have hms : MS ⟨50, none, []⟩ B [] W0 F0 [] [(0, .v .sh (.lst .item xs))] a w := (MS.of hs hfB).forget (by kernel_rfl) rfl (fun p h => by cases h) (fun p h => by cases h)
  refine wpSeq (c1 := nav C0 [0]) (c2 := nav C0 [1]) (by kernel_rfl) ?_
  refine MS.regC gg (keep := [0]) (e' := [(0, .v .sh (.lst .item xs))]) (ps := []) (by kernel_rfl) trivial hms (fun a w hs => ?_)
  refine wpSeq (c1 := nav C0 [1, 0]) (c2 := nav C0 [1, 1]) (by kernel_rfl) ?_
  refine wpHand (by kernel_rfl) at1.2.2.1 ?_
  rw [wpOps_cons]
  refine wpOp_of at1.1 g0 ?_
  refine wp_value (exec_makeMap p0) ?_
  rw [d0, wpOps_cons]
  have h1 := hs.alloc (d := 9) (by kernel_rfl) (v := .map (some w.heap.size)) (o := .map #[] 0) rfl
  refine wpOp_of at1.2.1 g1 ?_
  refine wp_value (exec_assign p1) ?_
  rw [d1, h1.k (s := 9) (v := .map (some w.heap.size)) (by simp)]
  have h2 := h1.val (d := 3) (by kernel_rfl) (v := .map (some w.heap.size)) (av := .dead) rfl (fun _ _ => trivial)
  have h3 : MS (N1 w.heap.size) B [] W0 F0 [(w.heap.size, mapObj [])] [(0, .v .sh (.lst .item xs))] _ _ := (h2.weak (Weak.cast (pat := [(0, .same)]) (by kernel_rfl) (by kernel_rfl))).forget rfl rfl (fun p hp => by simp at hp ⊢; simp [hp]) (fun p hp => hp)
  generalize w.heap.size = r at h3
  clear h1 h2
  refine wpOps_nil _ ?_
  show (nav C0 [1, 1]).wp _ _ _ _
  generalize w.alloc (.map #[] 0) = w1 at h3 ⊢
  generalize (a.put (some 9) _).put (some 3) _ = a1 at h3 ⊢
  refine wpSeq (c1 := nav C0 [1, 1, 0]) (c2 := nav C0 [1, 1, 1]) (by kernel_rfl) ?_
  refine wpSeq (c1 := nav C0 [1, 1, 0, 0]) (c2 := nav C0 [1, 1, 0, 1]) (by kernel_rfl) ?_
  refine MS.regC gg (keep := [10, 11, 12]) (e' := EL xs 0) (ps := []) (by kernel_rfl) trivial h3 (fun a w hs => ?_)
  refine loop1 hlim hs (fun a w hs => ?_)
  show (nav C0 [1, 1, 1]).wp _ _ a w
  refine wpSeq (c1 := nav C0 [1, 1, 1, 0]) (c2 := nav C0 [1, 1, 1, 1]) (by kernel_rfl) ?_
  refine MS.regC gg (keep := [6]) (e' := E2 []) (ps := []) (by kernel_rfl) trivial hs (fun a w hs => ?_)
  refine wpSeq (c1 := nav C0 [1, 1, 1, 1, 0]) (c2 := nav C0 [1, 1, 1, 1, 1]) (by kernel_rfl) ?_
  refine wpSeq (c1 := nav C0 [1, 1, 1, 1, 0, 0]) (c2 := nav C0 [1, 1, 1, 1, 0, 1]) (by kernel_rfl) ?_
  refine wpHand (by kernel_rfl) at1.2.2.2.2.2 ?_
  rw [wpOps_cons]
  refine wpOp_of at1.2.2.2.1 g80 ?_
  refine wp_value (exec_move p80) ?_
  rw [d80, wpOps_cons, hs.k (s := 3) (v := .map (some r)) (by simp)]
  have h4 := hs.val (d := 30) (by kernel_rfl) (v := .map (some r)) (av := .dead) rfl (fun _ _ => trivial)
  refine wpOp_of at1.2.2.2.2.1 g81 ?_
  refine wp_value (exec_range p81 (by rw [h4.k (s := 30) (v := .map (some r)) (by simp)]; exact range_run (K := 64) (E := 3) (by kernel_rfl) (h4.o (r := r) (o := mapObj (accM (chI xs))) (by simp)))) ?_
  rw [d81]
  have hlt : r < w.heap.size := (Array.getElem?_eq_some_iff.1 (h4.o (r := r) (o := mapObj (accM (chI xs))) (by simp))).1
  have h5 := h4.alloc (d := 31) (by kernel_rfl) (v := .pointer (some ⟨w.heap.size, 0, none⟩)) (o := itObj r (accM (chI xs)) []) rfl
  have h6 : MS (N2 w.heap.size) B [] W0 F0 [(w.heap.size, itObj r (accM (chI xs)) []), (r, mapObj (accM (chI xs)))] (E2 []) _ _ := (h5.weak (Weak.cast (pat := [(6, .same)]) (by kernel_rfl) (by kernel_rfl))).forget rfl rfl (fun p hp => by simp at hp ⊢; simp [hp]) (fun p hp => hp)
  refine wpOps_nil _ ?_
  show (nav C0 [1, 1, 1, 1, 0, 1]).wp _ _ _ _
  have hml : (accM (chI xs)).length ≤ 1099511627775 := by
    have h1 := length_accM (chI xs)
    have h2 : (chI xs).length = xs.length := by simp [chI]
    have h3 : (xs.length : Int) + 1 ≤ 1099511627776 := hlim
    omega
  refine loop2 (keyd_acc xs).2 hml (by omega) h6 (fun S a w hnd hlt hall hs => ?_)
  show (nav C0 [1, 1, 1, 1, 1]).wp _ _ a w
  refine wpSeq (c1 := nav C0 [1, 1, 1, 1, 1, 0]) (c2 := nav C0 [1, 1, 1, 1, 1, 1]) (by kernel_rfl) ?_
  have hol : (outI (accM (chI xs)) S).length ≤ 1099511627776 := by
    have h1 := outI_le (accM (chI xs)) S
    have h2 := nodup_le hnd hlt
    omega
  refine sorting hol hfL (hs.forget rfl rfl (fun p h => by cases h) (fun p h => by cases h)) (fun ys a w hp hso hs => ?_)
  have hy := out_eq hnd hlt hall hp hso
  subst hy
  show (nav C0 [1, 1, 1, 1, 1, 1]).wp _ _ a w
  refine wpSeq (c1 := nav C0 [1, 1, 1, 1, 1, 1, 0]) (c2 := nav C0 [1, 1, 1, 1, 1, 1, 1]) (by kernel_rfl) ?_
  refine MS.regC gg (keep := [2]) (e' := [(2, .v .fr (.lst .item (gathI xs)))]) (ps := []) (by kernel_rfl) trivial hs (fun a w hs => ?_)
  refine wpRet (by kernel_rfl) ?_
  refine ⟨[(2, .v .fr (.lst .item (gathI xs)))], ?_, ?_⟩
  · exact (hs.forget (N' := ⟨(Try.f107).ntmps, none, []⟩) (obs' := []) (by kernel_rfl) rfl (fun p h => by cases h) (fun p h => by cases h)).to
  · exact ⟨rfl, trivial⟩
end Go.Proofs.Ytopcofkpggefkaa
