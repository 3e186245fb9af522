/-
  Maps whose keys are structs of numbers and whose values are numbers: how the machine's operations on them run. Keys may be keys; sums by keys, in order. Single operations by hand. Regions and code by hand. A region whose operations come in any order: each order run. What 'FlowTimes' computes where there are no rows. 'sort.Slice' on a list of items by key and value: what it leaves in memory. What 'gathered' computes: the items with equal ones added, in order. 'gathered': the walk over the items that adds them into the map. 'gathered': the first loop. 'gathered': the second loop, over the map. 'gathered': the sort, and the contract. No statement is proved here.
-/
import Derived.Test.YtopcofkpggefkaaU2
import Derived.Test.YtopcofkpggefkaaProg
import Derived.Shelf.SlSortFuncK.WholeK
import Derived.Shelf.GgSortFunc.Tiny
import Derived.Tactics2

namespace Go.Proofs.Ytopcofkpggefkaa
open Go

def ivals (ks : List Int) : List Value := ks.map (Value.int .i64)
def kvOf (ks : List Int) : Value := .agg (ivals ks).toArray
abbrev MP := List (List Int × Int)
def entOf (i : Nat) (p : List Int × Int) : MapEntry := { key := kvOf p.1, val := .int .i64 p.2, born := i }
def ents : Nat → MP → List MapEntry
  | _, [] => []
  | i, p :: r => entOf i p :: ents (i + 1) r
def mapObj (m : MP) : Obj := .map (ents 0 m).toArray m.length
def setO (w : World) (r : Nat) (o : Obj) : World := { w with heap := w.heap.setIfInBounds r o }

theorem setO_pk (w : World) (r : Nat) (o : Obj) : Pk w r (setO w r o) :=
  ⟨rfl, rfl, rfl, by simp [setO], fun k hk => by
    show (w.heap.setIfInBounds r o)[k]? = w.heap[k]?
    rw [Array.getElem?_setIfInBounds, if_neg (fun e => hk e.symm)]⟩
theorem setO_get {w : World} {r : Nat} {o o' : Obj} (h : w.heap[r]? = some o) : (setO w r o').heap[r]? = some o' := by
  show (w.heap.setIfInBounds r o')[r]? = some o'
  rw [Array.getElem?_setIfInBounds, if_pos rfl, if_pos (Array.getElem?_eq_some_iff.1 h).1]

def lookI : MP → List Int → Nat → Option (Nat × Int)
  | [], _, _ => none
  | p :: r, ks, i => if p.1 = ks then some (i, p.2) else lookI r ks (i + 1)
def valM (m : MP) (ks : List Int) : Int := match lookI m ks 0 with
  | some (_, v) => v
  | none => 0
def stp (m : MP) (ks : List Int) : Nat := match lookI m ks 0 with
  | some (i, _) => i
  | none => m.length
def insM (m : MP) (ks : List Int) : MP := match lookI m ks 0 with
  | some _ => m
  | none => m ++ [(ks, 0)]
def putV : MP → Nat → Int → MP
  | [], _, _ => []
  | p :: r, 0, v => (p.1, v) :: r
  | p :: r, i + 1, v => p :: putV r i v

theorem ents_length : ∀ (i : Nat) (m : MP), (ents i m).length = m.length
  | _, [] => rfl
  | i, _ :: r => by simp [ents, ents_length (i + 1) r]
theorem ents_get : ∀ (j : Nat) (m : MP) (i : Nat), (ents j m)[i]? = (m[i]?).map (entOf (j + i))
  | _, [], i => by simp [ents]
  | j, p :: r, 0 => by simp [ents]
  | j, p :: r, i + 1 => by simp [ents, ents_get (j + 1) r i, Nat.add_assoc, Nat.add_comm 1 i]
theorem ents_append : ∀ (j : Nat) (m n : MP), ents j (m ++ n) = ents j m ++ ents (j + m.length) n
  | _, [], n => by simp [ents]
  | j, p :: r, n => by simp [ents, ents_append (j + 1) r n, Nat.add_assoc, Nat.add_comm 1 r.length]
theorem ents_mem {j : Nat} {m : MP} {e : MapEntry} (h : e ∈ ents j m) : ∃ i p, m[i]? = some p ∧ e = entOf (j + i) p := by
  obtain ⟨i, hi⟩ := List.mem_iff_getElem?.1 h
  rw [ents_get] at hi
  cases hm : m[i]? with
  | none => rw [hm] at hi; cases hi
  | some p => rw [hm] at hi; simp at hi; exact ⟨i, p, hm, hi.symm⟩

theorem lookI_some : ∀ {m : MP} {ks : List Int} {j i : Nat} {v : Int}, lookI m ks j = some (i, v) → j ≤ i ∧ m[i - j]? = some (ks, v)
  | [], _, _, _, _, h => by simp [lookI] at h
  | p :: r, ks, j, i, v, h => by
    simp only [lookI] at h
    split at h
    · rename_i hp
      simp only [Option.some.injEq, Prod.mk.injEq] at h
      obtain ⟨rfl, rfl⟩ := h
      exact ⟨Nat.le_refl _, by simp [← hp]⟩
    · obtain ⟨h1, h2⟩ := lookI_some h
      refine ⟨by omega, ?_⟩
      rw [show i - j = (i - (j + 1)) + 1 by omega]
      simpa using h2
theorem lookI_none : ∀ {m : MP} {ks : List Int} {j : Nat}, lookI m ks j = none → ∀ p ∈ m, p.1 ≠ ks
  | [], _, _, _, p, hp => by simp at hp
  | q :: r, ks, j, h, p, hp => by
    simp only [lookI] at h
    split at h
    · cases h
    · rename_i hq
      rcases List.mem_cons.1 hp with rfl | hp
      · exact hq
      · exact lookI_none h p hp

section
variable {P : Program} {K n : Nat}

theorem aggEq_ints : ∀ {ks ls : List Int}, ks.length = ls.length → aggEq (ks.map (C.int .i64)) (ls.map (C.int .i64)) = some (decide (ks = ls))
  | [], [], _ => rfl
  | a :: r, b :: r', h => by
    simp only [List.map_cons, aggEq]
    rw [aggEq_ints (by simpa using h)]
    show some (cmp .eql a b && decide (r = r')) = _
    congr 1
    by_cases h1 : a = b <;> by_cases h2 : r = r' <;> simp [cmp, h1, h2]
  | [], _ :: _, h => by simp at h
  | _ :: _, [], h => by simp at h

theorem zv_ints (ks : List Int) : ((ks.map (C.int .i64)).map zv).toArray = (ivals ks).toArray := by
  simp [ivals, zv]

theorem eq_run (hE : EqOk P K n) (w : World) {ks ls : List Int} (h1 : ks.length = n) (h2 : ls.length = n) : (Op.equal K (kvOf ks) (kvOf ls)).run P w = .ok (decide (ks = ls)) w := by
  have := hE.2 w (ks.map (C.int .i64)) (ls.map (C.int .i64)) _ (aggEq_ints (by omega)) (by simpa using h1)
  rw [zv_ints, zv_ints] at this
  exact this

def Keyd (n : Nat) (m : MP) : Prop := ∀ p ∈ m, p.1.length = n

theorem findAsking_run (hE : EqOk P K n) (w : World) {ks : List Int} (hk : ks.length = n) : ∀ (m : MP) (j i : Nat), Keyd n m →
    (Instr.findAsking K (kvOf ks) (ents j m) i).run P w = .ok ((lookI m ks i).map fun q => (q.1, Value.int .i64 q.2)) w
  | [], j, i, _ => by simp [ents, Instr.findAsking, lookI]
  | p :: r, j, i, hm => by
    have h1 := eq_run hE w hk (hm p (by simp))
    simp only [ents, Instr.findAsking, Sem.run_bind, lookI]
    show ((Op.equal K (kvOf ks) (kvOf p.1)).run P w).andThen _ = _
    rw [h1, Result.andThen_ok]
    by_cases e : p.1 = ks
    · simp [e, entOf]
    · have e' : ¬ ks = p.1 := fun h => e h.symm
      simp only [e', decide_false, e, if_false, Bool.false_eq_true]
      exact findAsking_run hE w hk r (j + 1) (i + 1) (fun q hq => hm q (by simp [hq]))

theorem findKey_run (hE : EqOk P K n) {fs : Array Field} (hu : P.underlying K = some (.struct fs)) (w : World) {ks : List Int} (hk : ks.length = n) (m : MP) (hm : Keyd n m) :
    (Instr.findKey K (kvOf ks) (ents 0 m)).run P w = .ok ((lookI m ks 0).map fun q => (q.1, Value.int .i64 q.2)) w := by
  unfold Instr.findKey
  simp only [Sem.run_bind, run_underlying hu, Result.andThen_ok]
  cases m with
  | nil => simp [ents, Instr.findNow, lookI]
  | cons p r =>
    have : Instr.findNow (.struct fs) (kvOf ks) (ents 0 (p :: r)) 0 = none := by simp [ents, Instr.findNow, Instr.sameNow]
    rw [this]
    exact findAsking_run hE w hk _ 0 0 hm

/-- A key of numbers may be one. -/
def CkOk (P : Program) (K n : Nat) : Prop := ∀ (b : Bool) (w : World) (ks : List Int), ks.length = n → (Instr.checkKey b 10000 K (kvOf ks)).run P w = .ok () w

theorem sameBits_ints : ∀ (ks : List Int), (ivals ks).zip (ivals ks) |>.all (fun (x, y) => Instr.sameBits 9999 x y)
  | [] => rfl
  | a :: r => by
    simp only [ivals, List.map_cons, List.zip_cons_cons, List.all_cons, Bool.and_eq_true]
    exact ⟨by simp [Instr.sameBits], sameBits_ints r⟩

theorem stays_run (w : World) (ks : List Int) : (Instr.keyThatStays (kvOf ks) (kvOf ks)).run P w = .ok (kvOf ks) w := by
  have : Instr.sameBits 10000 (kvOf ks) (kvOf ks) = true := by
    show ((ivals ks).toArray.size == (ivals ks).toArray.size && _) = true
    simp only [BEq.rfl, Bool.true_and]
    exact sameBits_ints ks
  simp [Instr.keyThatStays, this]

theorem isC_map (m : MP) : isC (mapObj m) = false := rfl

structure MapTy (P : Program) (T K E n : Nat) : Prop where
  u : P.underlying T = some (.map K E)
  k : ∃ fs, P.underlying K = some (.struct fs)
  eq : EqOk P K n
  ck : CkOk P K n
  z : ∀ w, (zeroValue E).run P w = .ok (.int .i64 0) w

variable {T E : Nat} (M : MapTy P T K E n) {w : World} {r : Nat} {m : MP} (hr : w.heap[r]? = some (mapObj m)) (hm : Keyd n m) {ks : List Int} (hk : ks.length = n)
include M hr

include hm hk

theorem lookup_run : (Instr.lookup T (.map (some r)) (kvOf ks) false).run P w = .ok (.int .i64 (valM m ks)) w := by
  obtain ⟨fs, hu⟩ := M.k
  have h1 := findKey_run M.eq hu w hk m hm
  have h2 : ∀ b, (Instr.checkKey b 10000 K (kvOf ks)).run P w = .ok () w := fun b => M.ck b w ks hk
  have hg : (getObj r).run P w = .ok (mapObj m) w := by simp [getObj, Sem.run, hr, mapObj]
  unfold Instr.lookup
  simp only [Sem.run_bind, run_underlying M.u, Result.andThen_ok, hg]
  simp only [mapObj, Sem.run_bind, Sem.run_pure, Result.andThen_ok, h2, h1]
  unfold valM
  cases hl : lookI m ks 0 with
  | none => simp [M.z w]
  | some q => simp

theorem mapEntry_run : (Instr.mapEntry T (.map (some r)) (kvOf ks)).run P w = .ok (.tuple #[.int .i64 (valM m ks), goInt (stp m ks)]) (setO w r (mapObj (insM m ks))) := by
  obtain ⟨fs, hu⟩ := M.k
  have h1 := findKey_run M.eq hu w hk m hm
  have h2 : ∀ b, (Instr.checkKey b 10000 K (kvOf ks)).run P w = .ok () w := fun b => M.ck b w ks hk
  have hg : (getObj r).run P w = .ok (mapObj m) w := by simp [getObj, Sem.run, hr, mapObj]
  have hs : ∀ o, (setObj r o).run P w = .ok () (setO w r o) := fun o => by simp [setObj, Sem.run, hr, mapObj, setO]
  unfold Instr.mapEntry
  simp only [Sem.run_bind, run_underlying M.u, Result.andThen_ok, hg]
  simp only [mapObj, Sem.run_bind, Result.andThen_ok, h2, h1]
  unfold valM stp insM
  cases hl : lookI m ks 0 with
  | none =>
    simp only [Option.map_none, Sem.run_bind, M.z w, Result.andThen_ok, hs, Sem.run_pure]
    have : mapObj (m ++ [(ks, 0)]) = .map ((ents 0 m).toArray.push { key := kvOf ks, val := .int .i64 0, born := m.length }) (m.length + 1) := by
      unfold mapObj
      rw [ents_append]
      simp [ents, entOf]
    rw [← mapObj, this]
  | some q =>
    obtain ⟨i, v⟩ := q
    obtain ⟨_, hi⟩ := lookI_some hl
    rw [Nat.sub_zero] at hi
    have he : (ents 0 m).toArray[i]? = some (entOf i (ks, v)) := by
      have := ents_get 0 m i
      rw [hi] at this
      simpa using this
    simp only [Option.map_some, Sem.run_bind, he, Option.getD_some]
    have hst := stays_run (P := P) w ks
    have hke : (entOf i (ks, v)).key = kvOf ks := rfl
    rw [hke, hst, Result.andThen_ok]
    have hmod : ((ents 0 m).toArray.modify i fun e => { e with key := kvOf ks }) = (ents 0 m).toArray := by
      apply Array.ext'
      apply List.ext_getElem?
      intro j
      simp only [Array.toList_modify, List.getElem?_modify]
      by_cases hij : i = j
      · subst hij
        have he' : (ents 0 m)[i]? = some (entOf i (ks, v)) := by simpa using he
        simp [he', entOf]
      · simp [hij]
    rw [hmod, hs, Result.andThen_ok]
    simp [entOf]

omit hm hk in
theorem entryStore_run {i : Nat} (hi : i < m.length) (v : Int) : (Instr.entryStore T (.map (some r)) (goInt i) (.int .i64 v)).run P w = .ok () (setO w r (mapObj (putV m i v))) := by
  have _ := M
  have hg : (getObj r).run P w = .ok (mapObj m) w := by simp [getObj, Sem.run, hr, mapObj]
  have hs : ∀ o, (setObj r o).run P w = .ok () (setO w r o) := fun o => by simp [setObj, Sem.run, hr, mapObj, setO]
  have hfi : ∀ (m : MP) (j i : Nat), i < m.length → (ents j m).findIdx? (fun e => (e.born : Int) == ((j + i : Nat) : Int)) = some i := by
    intro m
    induction m with
    | nil => intro j i h; simp at h
    | cons p q ih =>
      intro j i h
      cases i with
      | zero => simp [ents, entOf, List.findIdx?_cons]
      | succ i =>
        have h2 := ih (j + 1) i (by simpa using h)
        simp only [ents, List.findIdx?_cons]
        rw [show j + (i + 1) = j + 1 + i by omega]
        have hne : (((entOf j p).born : Int) == ((j + 1 + i : Nat) : Int)) = false := by
          have : ((entOf j p).born : Int) = (j : Int) := rfl
          rw [this]
          simp
          omega
        rw [hne, h2]
        rfl
  have hfi0 : (ents 0 m).toArray.findIdx? (fun e => (e.born : Int) == (i : Int)) = some i := by
    have := hfi m 0 i hi
    simpa using this
  unfold Instr.entryStore
  have hai : (asInt (goInt i)).run P w = .ok (i : Int) w := by simp [asInt, asIntOf, goInt]
  simp only [Sem.run_bind, hg, Result.andThen_ok, mapObj, hai, hfi0, hs]
  have hmod : ((ents 0 m).toArray.modify i fun e => { e with val := .int .i64 v }) = (ents 0 (putV m i v)).toArray := by
    have hg2 : ∀ (m : MP) (j i k : Nat), (ents j (putV m i v))[k]? = if i = k then ((ents j m)[k]?).map (fun e => { e with val := .int .i64 v }) else (ents j m)[k]? := by
      intro m
      induction m with
      | nil => intro j i k; simp [putV, ents]
      | cons p q ih =>
        intro j i k
        cases i with
        | zero => cases k <;> simp [putV, ents, entOf]
        | succ i =>
          cases k with
          | zero => simp [putV, ents]
          | succ k =>
            simp only [putV, ents, List.getElem?_cons_succ, ih (j + 1) i k]
            simp
    apply Array.ext'
    apply List.ext_getElem?
    intro k
    simp only [Array.toList_modify, List.getElem?_modify]
    rw [hg2 m 0 i k]
    by_cases h : i = k <;> simp [h]
  have hlen : ∀ (m : MP) (i : Nat), (putV m i v).length = m.length := by
    intro m
    induction m with
    | nil => intro i; rfl
    | cons p q ih => intro i; cases i <;> simp [putV, ih]
  rw [hmod, hlen]
end

/-- An iterator over a map that is not written any more. -/
def itObj (r : Nat) (m : MP) (S : List Nat) : Obj := .mapIter (some r) m.length S.toArray m.length

section
variable {P : Program} {w : World} {r it : Nat} {m : MP} (hr : w.heap[r]? = some (mapObj m)) {S : List Nat} (hit : w.heap[it]? = some (itObj r m S))
include hr hit

theorem next_run (t : Nat) : ((∀ i, i < m.length → i ∈ S) ∧ (Instr.next (.pointer (some ⟨it, 0, none⟩)) false t).run P w = .ok (.tuple #[.bool false]) w) ∨
    ∃ i p n, i ∉ S ∧ m[i]? = some p ∧ (Instr.next (.pointer (some ⟨it, 0, none⟩)) false t).run P w = .ok (.tuple #[.bool true, kvOf p.1, .int .i64 p.2]) (setO { w with drawn := n } it (itObj r m (S ++ [i]))) := by
  have hg : (getObj r).run P w = .ok (mapObj m) w := by simp [getObj, Sem.run, hr, mapObj]
  have hgi : (getObj it).run P w = .ok (itObj r m S) w := by simp [getObj, Sem.run, hit, itObj]
  have hs : ∀ (n : Nat) o, (setObj it o).run P { w with drawn := n } = .ok () (setO { w with drawn := n } it o) := fun n o => by simp [setObj, Sem.run, hit, itObj, setO]
  let L0 := (ents 0 m).filter fun e => !S.toArray.contains e.born
  have hL0 : (ents 0 m).filter (fun e => !S.toArray.contains e.born) = L0 := rfl
  have hold : L0.filter (fun e => decide (e.born < m.length)) = L0 := by
    apply List.filter_eq_self.2
    intro e he
    obtain ⟨i, p, hp, rfl⟩ := ents_mem (List.mem_filter.1 he).1
    have := (List.getElem?_eq_some_iff.1 hp).1
    simp [entOf, this]
  have hnew : L0.filter (fun e => decide (e.born ≥ m.length)) = [] := by
    apply List.filter_eq_nil_iff.2
    intro e he
    obtain ⟨i, p, hp, rfl⟩ := ents_mem (List.mem_filter.1 he).1
    have := (List.getElem?_eq_some_iff.1 hp).1
    simp [entOf]; omega
  have hlast : (!S.toArray.isEmpty && !(ents 0 m).toArray.isEmpty && (ents 0 m).toArray.all (fun e => decide (e.born ≥ m.length))) = false := by
    cases hm : m with
    | nil => simp [ents]
    | cons p q => simp [ents, entOf]
  have hrun : (Instr.next (.pointer (some ⟨it, 0, none⟩)) false t).run P w =
      (do let c ← choose (.mapNext ((if L0.isEmpty then #[none] else #[]) ++ (L0.map some).toArray : Array (Option MapEntry)).size)
          match (((if L0.isEmpty then #[none] else #[]) ++ (L0.map some).toArray : Array (Option MapEntry)))[c]? with
          | some (some e) => do
            setObj it (.mapIter (some r) m.length (S.toArray.push e.born) m.length)
            pure (Value.tuple #[.bool true, e.key, e.val])
          | some none => pure (.tuple #[.bool false])
          | none => stuck "Next: no such candidate" : Sem Value).run P w := by
    unfold Instr.next
    simp only [Sem.run_bind, hgi, Result.andThen_ok, itObj, hg, mapObj, hlast, Bool.false_eq_true, if_false]
    simp only [List.filter_toArray, hL0, hold, hnew, List.append_toArray, List.append_nil, List.map_toArray, List.isEmpty_toArray]
    rfl
  have hmemL : ∀ e ∈ L0, ∃ i p, m[i]? = some p ∧ e = entOf i p ∧ i ∉ S := by
    intro e he
    obtain ⟨h1, h2⟩ := List.mem_filter.1 he
    obtain ⟨i, p, hp, rfl⟩ := ents_mem h1
    rw [Nat.zero_add] at h2 ⊢
    refine ⟨i, p, hp, rfl, ?_⟩
    simpa [entOf] using h2
  rw [hrun]
  cases hL : L0 with
  | nil =>
    left
    refine ⟨fun i hi => ?_, ?_⟩
    · by_cases hiS : i ∈ S
      · exact hiS
      · exfalso
        have hmem : entOf i m[i] ∈ L0 := by
          refine List.mem_filter.2 ⟨List.mem_iff_getElem?.2 ⟨i, by rw [ents_get, List.getElem?_eq_getElem hi]; simp⟩, ?_⟩
          simp [entOf, hiS]
        rw [hL] at hmem
        simp at hmem
    · simp [choose, Sem.run, Question.forced]
  | cons e0 l =>
    right
    have hch : ∃ c n, c < (e0 :: l).length ∧ ∀ (k : Nat → Sem Value), ((choose (.mapNext (e0 :: l).length)) >>= k).run P w = (k c).run P { w with drawn := n } := by
      cases hf : (Question.mapNext (e0 :: l).length).forced with
      | true => exact ⟨0, w.drawn, by simp, fun k => by show (if _ then _ else _) = _; rw [if_pos hf]; rfl⟩
      | false =>
        refine ⟨(Question.mapNext (e0 :: l).length).cut (w.tape w.drawn (.mapNext (e0 :: l).length)), w.drawn + 1, ?_, fun k => by show (if _ then _ else _) = _; rw [if_neg (by rw [hf]; simp)]; rfl⟩
        exact Nat.mod_lt _ (by simp)
    obtain ⟨c, n, hc, hk⟩ := hch
    obtain ⟨i, p, hp, he, hi⟩ := hmemL ((e0 :: l)[c]) (by rw [hL]; exact List.getElem_mem hc)
    refine ⟨i, p, n, hi, hp, ?_⟩
    have hsz : ((if (e0 :: l).isEmpty then #[none] else #[]) ++ ((e0 :: l).map some).toArray : Array (Option MapEntry)).size = (e0 :: l).length := by simp
    have hget : ((if (e0 :: l).isEmpty then #[none] else #[]) ++ ((e0 :: l).map some).toArray : Array (Option MapEntry))[c]? = some (some (entOf i p)) := by
      rw [← he]
      simp only [List.isEmpty_cons, Bool.false_eq_true, if_false, Array.empty_append, List.getElem?_toArray, List.getElem?_map, List.getElem?_eq_getElem hc, Option.map_some]
    rw [hsz, hk]
    simp only [hget, Sem.run_bind, hs, Result.andThen_ok, Sem.run_pure]
    simp [entOf, itObj]

theorem entry_run {i : Nat} {p : List Int × Int} (hp : m[i]? = some p) (hS : ∃ S', S = S' ++ [i]) : (Instr.entry (.pointer (some ⟨it, 0, none⟩))).run P w = .ok (.tuple #[kvOf p.1, .int .i64 p.2]) w := by
  obtain ⟨S', rfl⟩ := hS
  have hg : (getObj r).run P w = .ok (mapObj m) w := by simp [getObj, Sem.run, hr, mapObj]
  have hgi : (getObj it).run P w = .ok (itObj r m (S' ++ [i])) w := by simp [getObj, Sem.run, hit, itObj]
  have hfd : ∀ (m : MP) (j i : Nat), m[i]? = some p → (ents j m).find? (fun e => e.born == j + i) = some (entOf (j + i) p) := by
    intro m
    induction m with
    | nil => intro j i h; simp at h
    | cons q r ih =>
      intro j i h
      cases i with
      | zero => simp at h; subst h; simp [ents, entOf]
      | succ i =>
        have h2 := ih (j + 1) i (by simpa using h)
        simp only [ents, List.find?_cons]
        rw [show j + (i + 1) = j + 1 + i by omega]
        have hne : ((entOf j q).born == j + 1 + i) = false := by
          show (j == j + 1 + i) = false
          simp
          omega
        rw [hne, h2]
  have hfd0 : (ents 0 m).toArray.find? (fun e => e.born == i) = some (entOf i p) := by
    have := hfd m 0 i hp
    simpa using this
  unfold Instr.entry
  simp only [Sem.run_bind, hgi, Result.andThen_ok, itObj]
  simp [hfd0, hg, mapObj, entOf]
end
end Go.Proofs.Ytopcofkpggefkaa

namespace Go.Proofs.Ytopcofkpggefkaa
open Go

section
variable {P : Program}
def CkP (P : Program) (d t n : Nat) : Prop := ∀ (b : Bool) (w : World) (cs : List Int) (off : Nat), ((cs.drop off).take n).length = n →
  ∃ x, (Go.part t (ivals cs).toArray off).run P w = .ok x w ∧ (Instr.checkKey b d t x).run P w = .ok () w

theorem ckP_int {d t : Nat} {k : IntKind} (hu : P.underlying t = some (.int k)) : CkP P (d + 1) t 1 := by
  intro b w cs off hl
  cases hc : cs.drop off with
  | nil => rw [hc] at hl; simp at hl
  | cons c cr =>
    have h1 : cs[off]? = some c := by
      have := List.getElem?_drop (xs := cs) (i := off) (j := 0)
      rw [hc] at this; simpa using this.symm
    refine ⟨.int .i64 c, ?_, ?_⟩
    · simp [Go.part, Go.isAgg, run_underlying hu, ivals, h1]
    · simp [Instr.checkKey, run_underlying hu]

theorem ckFs_ok {d : Nat} {sz : Nat → Option Nat} (hsz : ∀ t n, sz t = some n → CkP P d t n) (b : Bool) (w : World) (cs : List Int) : ∀ {fs : List Field} {o n : Nat}, eqFs sz fs o = some n → ((cs.drop o).take (n - o)).length = n - o →
    (forIn (m := Sem) fs PUnit.unit fun f _ => (if f.name ≠ "_" then do Instr.checkKey b d f.type (← Go.part f.type (ivals cs).toArray f.offset); pure (ForInStep.yield PUnit.unit) else pure (ForInStep.yield PUnit.unit))).run P w = .ok PUnit.unit w
  | [], o, n, _, _ => by simp
  | f :: fs, o, n, h, hl => by
    simp only [eqFs] at h
    split at h
    · rename_i k hc hk
      simp only [Bool.and_eq_true, bne_iff_ne, ne_eq] at hc
      have ho := Nat.eq_of_beq_eq_true hc.1
      have hle := eqFs_le h
      have hsp : ∀ l : List Int, (l.drop o).take (n - o) = (l.drop o).take k ++ (l.drop (o + k)).take (n - (o + k)) := fun l => by
        rw [show n - o = k + (n - (o + k)) by omega, List.take_add, List.drop_drop]
      rw [hsp cs] at hl
      have hl1 : ((cs.drop o).take k).length = k ∧ ((cs.drop (o + k)).take (n - (o + k))).length = n - (o + k) := by
        rw [List.length_append] at hl
        have h1 : ((cs.drop o).take k).length ≤ k := by simp; omega
        have h2 : ((cs.drop (o + k)).take (n - (o + k))).length ≤ n - (o + k) := by simp; omega
        omega
      obtain ⟨x, p1, p2⟩ := hsz f.type k hk b w cs o hl1.1
      have ih := ckFs_ok hsz b w cs h hl1.2
      simp only [List.forIn_cons, Sem.run_bind, ne_eq, hc.2, not_false_eq_true, if_true, ho, p1, p2, Result.andThen_ok, Sem.run_pure]
      exact ih
    · cases h

theorem ckP_of : ∀ (m t n d : Nat), eqSz P m t = some n → CkP P (d + m) t n
  | 0, _, _, _, h => by simp [eqSz] at h
  | m + 1, t, n, d, h => by
    simp only [eqSz] at h
    split at h
    · rename_i k i hu hi
      simp only [Option.some.injEq] at h
      subst h
      exact ckP_int (d := d + m) hu
    · rename_i fs i hu hi
      split at h
      · rename_i n' hs hf
        split at h
        · rename_i hn
          simp only [Option.some.injEq] at h
          subst h
          have hn := Nat.eq_of_beq_eq_true hn
          intro b w cs off hl
          have hex : ((ivals cs).toArray.extract off (off + n')) = (ivals ((cs.drop off).take n')).toArray := by
            apply Array.ext'
            simp [ivals, List.map_drop, List.map_take]
          refine ⟨.agg (ivals ((cs.drop off).take n')).toArray, ?_, ?_⟩
          · rw [← hex]
            simp [Go.part, Go.isAgg, run_underlying hu, sizeOf, typeInfo, hi, hn]
          · have hk := ckFs_ok (fun t n h => ckP_of m t n d h) b w ((cs.drop off).take n') (fs := fs.toList) hf (by rw [Nat.sub_zero, List.drop_zero, List.take_take, Nat.min_self]; exact hl)
            rw [show d + (m + 1) = (d + m) + 1 from rfl]
            simp only [Instr.checkKey, Sem.run_bind, run_underlying hu, Result.andThen_ok]
            rw [← Array.forIn_toList]
            rw [hk]
            rfl
        · cases h
      · cases h
    · cases h

theorem ckOk {K n : Nat} {fs : Array Field} (hu : P.underlying K = some (.struct fs)) {i : TypeInfo} (hi : P.info? K = some i) (hin : i.size = n) (h : eqSz P 9 K = some n) : CkOk P K n := by
  intro b w ks hk
  obtain ⟨x, p1, p2⟩ := ckP_of 9 K n 9991 h b w ks 0 (by simp; omega)
  have hex : ((ivals ks).toArray.extract 0 n) = (ivals ks).toArray := by
    apply Array.ext'
    simp [ivals, List.take_of_length_le (show (ks.map (Value.int .i64)).length ≤ n by simp; omega)]
  have hpart : (Go.part K (ivals ks).toArray 0).run P w = .ok (kvOf ks) w := by
    have hex' : Array.extract (ivals ks).toArray 0 n = (ivals ks).toArray := hex
    simp only [Go.part, Go.isAgg, run_underlying hu, sizeOf, typeInfo, hi, hin, Sem.run_bind, Sem.run_pure, Result.andThen_ok, Nat.zero_add, if_true, run_program]
    simp [hex', kvOf]
  rw [hpart] at p1
  cases p1
  exact p2
end

/-- One more change of a key. -/
def stepM (m : MP) (q : List Int × Int) : MP := putV (insM m q.1) (stp m q.1) (ar .add .i64 (valM m q.1) q.2)
def accM (l : List (List Int × Int)) : MP := l.foldl stepM []

def keysM (m : MP) : List (List Int) := m.map (·.1)

theorem keys_putV : ∀ (m : MP) (i : Nat) (v : Int), keysM (putV m i v) = keysM m
  | [], _, _ => rfl
  | _ :: _, 0, _ => rfl
  | p :: r, i + 1, v => by
    have := keys_putV r i v
    simp only [keysM, putV, List.map_cons] at this ⊢
    rw [this]
theorem keys_insM (m : MP) (ks : List Int) : keysM (insM m ks) = if ks ∈ keysM m then keysM m else keysM m ++ [ks] := by
  unfold insM
  cases h : lookI m ks 0 with
  | some q =>
    obtain ⟨i, v⟩ := q
    obtain ⟨_, h2⟩ := lookI_some h
    have : ks ∈ keysM m := List.mem_map.2 ⟨_, List.mem_of_getElem? h2, rfl⟩
    simp [this]
  | none =>
    have h2 := lookI_none h
    have : ks ∉ keysM m := fun hm => by
      obtain ⟨p, hp, he⟩ := List.mem_map.1 hm
      exact h2 p hp he
    rw [if_neg this]
    simp [keysM]
theorem keys_stepM (m : MP) (q : List Int × Int) : keysM (stepM m q) = if q.1 ∈ keysM m then keysM m else keysM m ++ [q.1] := by
  unfold stepM
  rw [keys_putV, keys_insM]
theorem nodup_stepM {m : MP} (h : (keysM m).Nodup) (q : List Int × Int) : (keysM (stepM m q)).Nodup := by
  rw [keys_stepM]
  split
  · exact h
  · rename_i hn
    rw [List.nodup_append]
    exact ⟨h, by simp, fun a ha b hb e => by simp at hb; subst hb; subst e; exact hn ha⟩
theorem nodup_accM (l : List (List Int × Int)) : (keysM (accM l)).Nodup := by
  unfold accM
  suffices ∀ (l : List (List Int × Int)) (m : MP), (keysM m).Nodup → (keysM (l.foldl stepM m)).Nodup from this l [] (by simp [keysM])
  intro l
  induction l with
  | nil => exact fun m h => h
  | cons q r ih => exact fun m h => ih _ (nodup_stepM h q)

theorem lookI_cons (p : List Int × Int) (m : MP) (ks : List Int) (j : Nat) : lookI (p :: m) ks j = if p.1 = ks then some (j, p.2) else lookI m ks (j + 1) := rfl
theorem lookI_shift : ∀ (m : MP) (ks : List Int) (j : Nat), lookI m ks (j + 1) = (lookI m ks j).map fun q => (q.1 + 1, q.2)
  | [], _, _ => rfl
  | p :: r, ks, j => by
    simp only [lookI]
    split
    · rfl
    · exact lookI_shift r ks (j + 1)
theorem valM_cons (p : List Int × Int) (m : MP) (ks : List Int) : valM (p :: m) ks = if p.1 = ks then p.2 else valM m ks := by
  unfold valM
  rw [lookI_cons, lookI_shift]
  by_cases h : p.1 = ks
  · simp [h]
  · simp only [h, if_false]
    cases lookI m ks 0 <;> simp
theorem valM_append_new (m : MP) (ks ls : List Int) : valM (m ++ [(ks, 0)]) ls = valM m ls := by
  induction m with
  | nil => simp [valM, lookI]; split <;> simp_all
  | cons p r ih => rw [List.cons_append, valM_cons, valM_cons, ih]
theorem valM_insM (m : MP) (ks ls : List Int) : valM (insM m ks) ls = valM m ls := by
  unfold insM
  split
  · rfl
  · exact valM_append_new m ks ls
theorem valM_putV : ∀ {m : MP} {i : Nat} {ks : List Int} {v0 : Int} (v : Int), (keysM m).Nodup → m[i]? = some (ks, v0) → ∀ ls, valM (putV m i v) ls = if ls = ks then v else valM m ls
  | [], _, _, _, _, _, h, _ => by simp at h
  | p :: r, 0, ks, v0, v, _, h, ls => by
    simp at h
    subst h
    simp only [putV, valM_cons]
    by_cases e : ks = ls
    · simp [e]
    · simp [e, Ne.symm e]
  | p :: r, i + 1, ks, v0, v, hn, h, ls => by
    have h' : r[i]? = some (ks, v0) := by simpa using h
    have hn' : p.1 ∉ keysM r ∧ (keysM r).Nodup := by simpa [keysM] using hn
    have ih := valM_putV v hn'.2 h' ls
    simp only [putV, valM_cons, ih]
    by_cases e : p.1 = ls
    · have : ls ≠ ks := fun e2 => hn'.1 (by rw [e, e2]; exact List.mem_map.2 ⟨_, List.mem_of_getElem? h', rfl⟩)
      simp [e, this]
    · simp [e]
theorem stp_get (m : MP) (ks : List Int) : ∃ v0, (insM m ks)[stp m ks]? = some (ks, v0) := by
  unfold insM stp
  cases h : lookI m ks 0 with
  | some q =>
    obtain ⟨i, v⟩ := q
    obtain ⟨_, h2⟩ := lookI_some h
    exact ⟨v, by simpa using h2⟩
  | none => exact ⟨0, by simp⟩
theorem valM_stepM {m : MP} (hn : (keysM m).Nodup) (q : List Int × Int) (ls : List Int) : valM (stepM m q) ls = if ls = q.1 then ar .add .i64 (valM m q.1) q.2 else valM m ls := by
  obtain ⟨v0, h⟩ := stp_get m q.1
  have hn2 : (keysM (insM m q.1)).Nodup := by
    have := nodup_stepM hn q
    unfold stepM at this
    rwa [keys_putV] at this
  unfold stepM
  rw [valM_putV _ hn2 h, valM_insM]
theorem valM_none {m : MP} {ks : List Int} (h : ks ∉ keysM m) : valM m ks = 0 := by
  unfold valM
  cases hl : lookI m ks 0 with
  | none => rfl
  | some q =>
    obtain ⟨i, v⟩ := q
    obtain ⟨_, h2⟩ := lookI_some hl
    exact absurd (List.mem_map.2 ⟨_, List.mem_of_getElem? h2, rfl⟩) h
theorem valM_mem {m : MP} (hn : (keysM m).Nodup) {p : List Int × Int} (h : p ∈ m) : valM m p.1 = p.2 := by
  induction m with
  | nil => simp at h
  | cons q r ih =>
    rw [valM_cons]
    have hn' : q.1 ∉ keysM r ∧ (keysM r).Nodup := by simpa [keysM] using hn
    rcases List.mem_cons.1 h with rfl | h
    · simp
    · have : q.1 ≠ p.1 := fun e => hn'.1 (e ▸ List.mem_map.2 ⟨p, h, rfl⟩)
      simp [this, ih hn'.2 h]

/-- The sum of a key's changes. -/
def sumK (l : List (List Int × Int)) (ks : List Int) : Int := l.foldl (fun s q => if q.1 = ks then ar .add .i64 s q.2 else s) 0
theorem valM_accM (l : List (List Int × Int)) (ks : List Int) : valM (accM l) ks = sumK l ks := by
  unfold accM sumK
  suffices ∀ (l : List (List Int × Int)) (m : MP), (keysM m).Nodup → valM (l.foldl stepM m) ks = l.foldl (fun s q => if q.1 = ks then ar .add .i64 s q.2 else s) (valM m ks) by
    have := this l [] (by simp [keysM])
    simpa [valM, lookI] using this
  intro l
  induction l with
  | nil => exact fun m _ => rfl
  | cons q r ih =>
    intro m hn
    simp only [List.foldl_cons]
    rw [ih _ (nodup_stepM hn q), valM_stepM hn]
    congr 1
    by_cases h : q.1 = ks
    · simp [h]
    · simp [h, Ne.symm h]

/-- Keys in order. -/
def ltK : List Int → List Int → Bool
  | a :: r, b :: r' => decide (a < b) || (decide (a = b) && ltK r r')
  | _, _ => false
theorem ltK_irrefl : ∀ a, ltK a a = false
  | [] => rfl
  | a :: r => by simp [ltK, ltK_irrefl r]
theorem ltK_trans : ∀ {a b c : List Int}, ltK a b = true → ltK b c = true → ltK a c = true
  | a :: r, b :: r', c :: r'', h1, h2 => by
    simp only [ltK, Bool.or_eq_true, Bool.and_eq_true, decide_eq_true_eq] at h1 h2 ⊢
    rcases h1 with h1 | ⟨rfl, h1⟩ <;> rcases h2 with h2 | ⟨rfl, h2⟩
    · left; omega
    · left; exact h1
    · left; exact h2
    · right; exact ⟨rfl, ltK_trans h1 h2⟩
  | [], _, _, h1, _ => by simp [ltK] at h1
  | _ :: _, [], _, h1, _ => by simp [ltK] at h1
  | _ :: _, _ :: _, [], _, h2 => by simp [ltK] at h2
theorem ltK_total : ∀ {a b : List Int}, a.length = b.length → a ≠ b → ltK a b = true ∨ ltK b a = true
  | [], [], _, h => absurd rfl h
  | a :: r, b :: r', hl, h => by
    simp only [ltK, Bool.or_eq_true, Bool.and_eq_true, decide_eq_true_eq]
    by_cases e : a = b
    · subst e
      rcases ltK_total (a := r) (b := r') (by simpa using hl) (fun e => h (by rw [e])) with h | h
      · exact .inl (.inr ⟨rfl, h⟩)
      · exact .inr (.inr ⟨rfl, h⟩)
    · rcases Int.lt_or_gt_of_ne e with h | h
      · exact .inl (.inl h)
      · exact .inr (.inl h)
  | [], _ :: _, hl, _ => by simp at hl
  | _ :: _, [], hl, _ => by simp at hl

def insS (p : List Int × Int) : MP → MP
  | [] => [p]
  | q :: r => if ltK p.1 q.1 then p :: q :: r else q :: insS p r
def sortM : MP → MP
  | [] => []
  | p :: r => insS p (sortM r)
theorem insS_perm (p : List Int × Int) : ∀ m : MP, (insS p m).Perm (p :: m)
  | [] => .refl _
  | q :: r => by
    simp only [insS]
    split
    · exact .refl _
    · exact ((insS_perm p r).cons q).trans (.swap p q r)
theorem sortM_perm : ∀ m : MP, (sortM m).Perm m
  | [] => .refl _
  | p :: r => (insS_perm p (sortM r)).trans ((sortM_perm r).cons p)
abbrev Asc (m : MP) : Prop := m.Pairwise fun p q => ltK p.1 q.1 = true
theorem insS_asc {n : Nat} {p : List Int × Int} : ∀ {m : MP}, Asc m → Keyd n m → p.1.length = n → p.1 ∉ keysM m → Asc (insS p m)
  | [], _, _, _, _ => by simp [insS]
  | q :: r, h, hk, hp, hn => by
    simp only [insS]
    have h' := List.pairwise_cons.1 h
    split
    · rename_i hlt
      refine List.pairwise_cons.2 ⟨fun s hs => ?_, h⟩
      rcases List.mem_cons.1 hs with rfl | hs
      · exact hlt
      · exact ltK_trans hlt (h'.1 s hs)
    · rename_i hlt
      have hne : p.1 ≠ q.1 := fun e => hn (by simp [keysM, e])
      have hqp : ltK q.1 p.1 = true := (ltK_total (by rw [hp, hk q (by simp)]) hne).elim (fun h => absurd h hlt) id
      refine List.pairwise_cons.2 ⟨fun s hs => ?_, insS_asc h'.2 (fun s hs => hk s (by simp [hs])) hp (fun hm => hn (by simp only [keysM, List.map_cons, List.mem_cons]; exact .inr hm))⟩
      rcases List.mem_cons.1 ((insS_perm p r).mem_iff.1 hs) with rfl | hs
      · exact hqp
      · exact h'.1 s hs
theorem sortM_asc {n : Nat} : ∀ {m : MP}, (keysM m).Nodup → Keyd n m → Asc (sortM m)
  | [], _, _ => by simp [sortM]
  | p :: r, hn, hk => by
    have hn' : p.1 ∉ keysM r ∧ (keysM r).Nodup := by simpa [keysM] using hn
    have hp := sortM_perm r
    refine insS_asc (sortM_asc hn'.2 (fun s hs => hk s (by simp [hs]))) (fun s hs => hk s (by simp [hp.mem_iff.1 hs])) (hk p (by simp)) (fun hm => hn'.1 ?_)
    obtain ⟨s, hs, e⟩ := List.mem_map.1 hm
    exact List.mem_map.2 ⟨s, hp.mem_iff.1 hs, e⟩
theorem asc_eq : ∀ {a b : MP}, a.Perm b → Asc a → Asc b → a = b
  | [], b, hp, _, _ => (List.nil_perm.1 hp).symm
  | x :: a, [], hp, _, _ => (List.perm_nil.1 hp)
  | x :: a, y :: b, hp, ha, hb => by
    have ha' := List.pairwise_cons.1 ha
    have hb' := List.pairwise_cons.1 hb
    have hxy : x = y := by
      rcases List.mem_cons.1 (hp.mem_iff.1 (List.mem_cons_self ..)) with h | h
      · exact h
      · rcases List.mem_cons.1 (hp.mem_iff.2 (List.mem_cons_self ..)) with h2 | h2
        · exact h2.symm
        · have h3 := ltK_trans (hb'.1 x h) (ha'.1 y h2)
          rw [ltK_irrefl] at h3
          cases h3
    subst hxy
    rw [asc_eq (List.perm_cons x |>.1 hp) ha'.2 hb'.2]

/-- The sums of all keys, in order, none of nothing. -/
def gathM (l : List (List Int × Int)) : MP := sortM ((accM l).filter fun p => p.2 != 0)

theorem gathM_asc {n : Nat} {l : List (List Int × Int)} (hk : Keyd n l) : Asc (gathM l) := by
  have hka : Keyd n (accM l) := by
    have key : ∀ (l : List (List Int × Int)) (m : MP), Keyd n l → (∀ k ∈ keysM m, k.length = n) → ∀ k ∈ keysM (l.foldl stepM m), k.length = n := by
      intro l
      induction l with
      | nil => exact fun m _ h => h
      | cons q r ih =>
        intro m hl hm
        refine ih _ (fun p hp => hl p (by simp [hp])) (fun k hk => ?_)
        rw [keys_stepM] at hk
        split at hk
        · exact hm k hk
        · rcases List.mem_append.1 hk with hk | hk
          · exact hm k hk
          · simp at hk; subst hk; exact hl q (by simp)
    intro p hp
    exact key l [] hk (by simp [keysM]) p.1 (List.mem_map.2 ⟨p, hp, rfl⟩)
  refine sortM_asc (n := n) ?_ (fun p hp => hka p (List.mem_filter.1 hp).1)
  exact (nodup_accM l).sublist (List.Sublist.map _ List.filter_sublist)

theorem mem_gathM {l : List (List Int × Int)} {p : List Int × Int} : p ∈ gathM l ↔ p.2 = sumK l p.1 ∧ p.2 ≠ 0 := by
  unfold gathM
  rw [(sortM_perm _).mem_iff, List.mem_filter]
  constructor
  · rintro ⟨h1, h2⟩
    exact ⟨by rw [← valM_accM, valM_mem (nodup_accM l) h1], by simpa using h2⟩
  · rintro ⟨h1, h2⟩
    refine ⟨?_, by simpa using h2⟩
    by_cases hm : p.1 ∈ keysM (accM l)
    · obtain ⟨q, hq, e⟩ := List.mem_map.1 hm
      have := valM_mem (nodup_accM l) hq
      rw [valM_accM, e, ← h1] at this
      have : q = p := Prod.ext e this.symm
      rwa [this] at hq
    · exact absurd (by rw [h1, ← valM_accM, valM_none hm]) h2
end Go.Proofs.Ytopcofkpggefkaa

namespace Go.Proofs.Ytopcofkpggefkaa
open Go

def opsOf : Code → Array Oper
  | .region _ ops _ => ops
  | _ => #[]
def idOf : Code → Nat
  | .region i _ _ => i
  | _ => 0
def drawOf : Code → Bool
  | .region _ _ d => d
  | _ => false
def opN (ops : Array Oper) (i : Nat) : Oper := (ops[i]?).getD default
def edgeB (o : Oper) (j : Nat) : Bool := o.after.toList.any fun e => Nat.beq e.on j && Region.binds .any e
theorem edgeB_ok {o : Oper} {L : Nat → Bool} (h : ∀ e ∈ o.after, Region.binds .any e = true → L e.on = true) {j : Nat} (hj : edgeB o j = true) : L j = true := by
  unfold edgeB at hj
  rw [List.any_eq_true] at hj
  obtain ⟨e, he, hb⟩ := hj
  simp only [Bool.and_eq_true] at hb
  have := h e (by simpa using he) hb.2
  rwa [Nat.eq_of_beq_eq_true hb.1] at this
theorem opN_eq {ops : Array Oper} {i : Nat} {o : Oper} (h : ops[i]? = some o) : opN ops i = o := by
  unfold opN; rw [h]; rfl

section
variable {P : Program} {a : Act} {w : World} {o : Oper}

theorem exec_val {o : Oper} {s : Sem Value} {v : Value} {w' : World} (h : execOp a.eval o = (do pure (.value (← s)))) (hr : s.run P w = .ok v w') : (execOp a.eval o).run P w = .ok (.value v) w' := by
  rw [h]
  simp [hr]
theorem exec_unit {o : Oper} {s : Sem Unit} {w' : World} (h : execOp a.eval o = (do s; pure .skip)) (hr : s.run P w = .ok () w') : (execOp a.eval o).run P w = .ok .skip w' := by
  rw [h]
  simp [hr]

theorem exec_move {s : Nat} (hop : o.op = .move (.tmp s)) : (execOp a.eval o).run P w = .ok (.value (a.tmps.getD s undef)) w := by
  obtain ⟨dst, op, ty, pos, aft, gd⟩ := o; simp only [] at hop; subst hop
  simp [execOp, Act.eval]
theorem exec_assign {s : Nat} (hop : o.op = .assign (.tmp s)) : (execOp a.eval o).run P w = .ok (.value (a.tmps.getD s undef)) w := by
  obtain ⟨dst, op, ty, pos, aft, gd⟩ := o; simp only [] at hop; subst hop
  simp [execOp, Act.eval]
theorem exec_makeMap {t : Nat} (hop : o.op = .makeMap t none) : (execOp a.eval o).run P w = .ok (.value (.map (some w.heap.size))) (w.alloc (.map #[] 0)) := by
  obtain ⟨dst, op, ty, pos, aft, gd⟩ := o; simp only [] at hop; subst hop
  exact exec_val (s := Instr.makeMap t none) rfl rfl
theorem exec_lookup {t x k : Nat} (hop : o.op = .lookup t (.tmp x) (.tmp k) false) {v : Value} (h : (Instr.lookup t (a.tmps.getD x undef) (a.tmps.getD k undef) false).run P w = .ok v w) : (execOp a.eval o).run P w = .ok (.value v) w := by
  obtain ⟨dst, op, ty, pos, aft, gd⟩ := o; simp only [] at hop; subst hop
  exact exec_val (s := Instr.lookup t (a.tmps.getD x undef) (a.tmps.getD k undef) false) rfl h
theorem exec_mapEntry {t x k : Nat} (hop : o.op = .mapEntry t (.tmp x) (.tmp k)) {v : Value} {w' : World} (h : (Instr.mapEntry t (a.tmps.getD x undef) (a.tmps.getD k undef)).run P w = .ok v w') : (execOp a.eval o).run P w = .ok (.value v) w' := by
  obtain ⟨dst, op, ty, pos, aft, gd⟩ := o; simp only [] at hop; subst hop
  exact exec_val (s := Instr.mapEntry t (a.tmps.getD x undef) (a.tmps.getD k undef)) rfl h
theorem exec_entryStore {t x k v : Nat} (hop : o.op = .entryStore t (.tmp x) (.tmp k) (.tmp v)) {w' : World} (h : (Instr.entryStore t (a.tmps.getD x undef) (a.tmps.getD k undef) (a.tmps.getD v undef)).run P w = .ok () w') : (execOp a.eval o).run P w = .ok .skip w' := by
  obtain ⟨dst, op, ty, pos, aft, gd⟩ := o; simp only [] at hop; subst hop
  exact exec_unit (s := Instr.entryStore t (a.tmps.getD x undef) (a.tmps.getD k undef) (a.tmps.getD v undef)) rfl h
theorem exec_range {t x : Nat} (hop : o.op = .range t (.tmp x)) {v : Value} {w' : World} (h : (Instr.range t (a.tmps.getD x undef)).run P w = .ok v w') : (execOp a.eval o).run P w = .ok (.value v) w' := by
  obtain ⟨dst, op, ty, pos, aft, gd⟩ := o; simp only [] at hop; subst hop
  exact exec_val (s := Instr.range t (a.tmps.getD x undef)) rfl h
theorem exec_next {x : Nat} (hop : o.op = .next (.tmp x) false) {v : Value} {w' : World} (h : (Instr.next (a.tmps.getD x undef) false o.type).run P w = .ok v w') : (execOp a.eval o).run P w = .ok (.value v) w' := by
  obtain ⟨dst, op, ty, pos, aft, gd⟩ := o; simp only [] at hop h; subst hop
  exact exec_val (s := Instr.next (a.tmps.getD x undef) false ty) rfl h
theorem exec_entry {x : Nat} (hop : o.op = .entry (.tmp x)) {v : Value} {w' : World} (h : (Instr.entry (a.tmps.getD x undef)).run P w = .ok v w') : (execOp a.eval o).run P w = .ok (.value v) w' := by
  obtain ⟨dst, op, ty, pos, aft, gd⟩ := o; simp only [] at hop; subst hop
  exact exec_val (s := Instr.entry (a.tmps.getD x undef)) rfl h
theorem exec_extract {x i : Nat} (hop : o.op = .extract (.tmp x) i) {vs : Array Value} {v : Value} (hx : a.tmps.getD x undef = .tuple vs) (h : vs[i]? = some v) : (execOp a.eval o).run P w = .ok (.value v) w := by
  obtain ⟨dst, op, ty, pos, aft, gd⟩ := o; simp only [] at hop; subst hop
  exact exec_val (s := Instr.extract (a.tmps.getD x undef) i) rfl (by rw [hx]; simp [Instr.extract, h])
theorem fieldAt_run {t : Nat} {d : TD} (hd : TDok P t d) {fs : List (Nat × Nat)} (hs : d.sh = .struct fs) {i o n : Nat} (hi : fs[i]? = some (o, n)) (b p : Nat) : (Instr.fieldAt t (.pointer (some ⟨b, p, none⟩)) i).run P w = .ok (.pointer (some ⟨b, p + o, none⟩)) w := by
  obtain ⟨u, hu, hdu⟩ := hd.und
  rw [hs] at hdu
  obtain ⟨fields, rfl, hf⟩ := hdu
  obtain ⟨f, hfi, hfo, hfn, hpos⟩ := fs_get hf hi
  have hfi' : fields[i]? = some f := by rw [← Array.getElem?_toList]; exact hfi
  have hsz := cells_info (P := P) hfn hpos w
  have hne : ¬ n = 0 := by omega
  simp [Instr.fieldAt, run_underlying hu, hfi', Instr.sureAddr, fieldPlace, hsz, hne, addr_add, hfo]
theorem exec_fieldAddr {t x i : Nat} (hop : o.op = .fieldAddr t (.tmp x) i) {b c : Nat} (hx : a.tmps.getD x undef = .pointer (some ⟨b, c, none⟩)) {d : TD} (hd : TDok P t d) {fs : List (Nat × Nat)} (hs : d.sh = .struct fs) {k n : Nat} (hi : fs[i]? = some (k, n)) :
    (execOp a.eval o).run P w = .ok (.value (.pointer (some ⟨b, c + k, none⟩))) w := by
  obtain ⟨dst, op, ty, pos, aft, gd⟩ := o; simp only [] at hop; subst hop
  exact exec_val (s := Instr.fieldAt t (a.tmps.getD x undef) i) rfl (by rw [hx]; exact fieldAt_run hd hs hi b c)
theorem exec_load {t x : Nat} (hop : o.op = .load t (.tmp x)) {b c : Nat} (hx : a.tmps.getD x undef = .pointer (some ⟨b, c, none⟩)) {d : TD} (hd : TDok P t d) (ha : isAgg d = false) {u : Value} (hu : w.cell? ⟨b, c, none⟩ = some u) :
    (execOp a.eval o).run P w = .ok (.value u) w := by
  obtain ⟨dst, op, ty, pos, aft, gd⟩ := o; simp only [] at hop; subst hop
  have hl := run_load_one hd ha (w := w) hu
  exact exec_val (s := Instr.loadAt t (a.tmps.getD x undef)) rfl (by rw [hx]; exact hl)
theorem exec_add {t x y u : Nat} (hop : o.op = .binOp .add t (.tmp x) (.tmp y) u) {m n : Int} (hx : a.tmps.getD x undef = .int .i64 m) (hy : a.tmps.getD y undef = .int .i64 n) : (execOp a.eval o).run P w = .ok (.value (.int .i64 (ar .add .i64 m n))) w := by
  obtain ⟨dst, op, ty, pos, aft, gd⟩ := o; simp only [] at hop; subst hop
  have hx' : a.eval (.tmp x) = .int .i64 m := hx
  have hy' : a.eval (.tmp y) = .int .i64 n := hy
  simp only [execOp, hx', hy']
  simp [eqGuard, binOp, Op.intArith, ar]
theorem exec_makeInterface {t x : Nat} (hop : o.op = .makeInterface t (.tmp x)) {e : Nat} (hu : P.underlying t = some (.slice e)) : (execOp a.eval o).run P w = .ok (.value (.iface t (a.tmps.getD x undef))) w := by
  obtain ⟨dst, op, ty, pos, aft, gd⟩ := o; simp only [] at hop; subst hop
  exact exec_val (s := Instr.makeInterface t (a.tmps.getD x undef)) rfl (by simp [Instr.makeInterface, run_underlying hu])
theorem exec_makeFunc {f : Fn} {x : Nat} (hop : o.op = .makeFunc f #[] #[.tmp x]) : (execOp a.eval o).run P w = .ok (.value (.func f #[] #[a.tmps.getD x undef])) w := by
  obtain ⟨dst, op, ty, pos, aft, gd⟩ := o; simp only [] at hop; subst hop
  exact exec_val (s := Instr.makeFunc f #[] #[a.tmps.getD x undef]) (by simp [execOp, Act.eval]) rfl
theorem exec_build {t : Nat} {ps : Array (Nat × Operand)} (hop : o.op = .build t ps) {v : Value} (h : (Instr.build t (ps.map fun p => (p.1, a.eval p.2))).run P w = .ok v w) : (execOp a.eval o).run P w = .ok (.value v) w := by
  obtain ⟨dst, op, ty, pos, aft, gd⟩ := o; simp only [] at hop; subst hop
  exact exec_val (s := Instr.build t (ps.map fun p => (p.1, a.eval p.2))) rfl h

theorem range_run {T K E : Nat} (hu : P.underlying T = some (.map K E)) {r : Nat} {m : MP} (hr : w.heap[r]? = some (mapObj m)) : (Instr.range T (.map (some r))).run P w = .ok (.pointer (some ⟨w.heap.size, 0, none⟩)) (w.alloc (itObj r m [])) := by
  have hg : (getObj r).run P w = .ok (mapObj m) w := by simp [getObj, Sem.run, hr, mapObj]
  unfold Instr.range
  simp only [Sem.run_bind, run_underlying hu, Result.andThen_ok, hg, mapObj]
  rfl

/-- A step that yields a value. -/
theorem wp_value {o : Oper} {v : Value} {w' : World} {next : Act → World → Prop} {Q : Exit → Act → World → Prop} (h : (execOp a.eval o).run P w = .ok (.value v) w') (hn : next (a.put o.dst v) w') : o.wp P a w next Q := by
  unfold Oper.wp
  rw [h, Oper.upon_value]
  exact hn
theorem wp_skip' {o : Oper} {w' : World} {next : Act → World → Prop} {Q : Exit → Act → World → Prop} (h : (execOp a.eval o).run P w = .ok .skip w') (hn : next (a.put o.dst undef) w') : o.wp P a w next Q := by
  unfold Oper.wp
  rw [h, Oper.upon_skip]
  exact hn
end
end Go.Proofs.Ytopcofkpggefkaa

namespace Go.Proofs.Ytopcofkpggefkaa
open Go

section
variable {P : Program} {N : NP} {B : Nat} {IoB : List Nat} {W0 : World} {F0 : Fz} {obs : List (Nat × Obj)} {e : Env} {a : Act} {w : World} {Q : Exit → Act → World → Prop}

theorem wpSeq {c c1 c2 : Code} (hc : c = .seq c1 c2) (h : c1.wp P (Exit.then (c2.wp P Q) Q) a w) : c.wp P Q a w := by subst hc; exact wp_seq h
theorem wpBlock {c c1 : Code} {id : Nat} (hc : c = .block id c1) (h : c1.wp P (Exit.inBlock id Q) a w) : c.wp P Q a w := by subst hc; exact wp_block h
theorem wpHand {c : Code} (hc : c = .region (idOf c) (opsOf c) false) {l : List Nat} (hl : List.range (opsOf c).size = l) (h : wpOps P (opsOf c) Q l a w) : c.wp P Q a w := by
  rw [hc]
  exact wp_region (by rw [hl]; exact h)
theorem wpCondB {c c1 c2 : Code} {o : Operand} (hc : c = .cond o c1 c2) {t : Bool} (hv : a.eval o = .bool t) (h1 : t = true → c1.wp P Q a w) (h2 : t = false → c2.wp P Q a w) : c.wp P Q a w := by
  subst hc; exact wp_cond_split hv h1 h2
theorem wpSkip {c : Code} (hc : c = .skip) (h : Q .normal a w) : c.wp P Q a w := by subst hc; exact wp_skip h
theorem wpExit {c : Code} {i : Nat} (hc : c = .exit i) (h : Q (.exit i) a w) : c.wp P Q a w := by subst hc; exact wp_exit h
theorem wpRet {c : Code} (hc : c = .ret) (h : Q .ret a w) : c.wp P Q a w := by subst hc; exact wp_ret h

theorem MS.regC {tt : TT} {sp : SP} (G : Good P tt sp) {c : Code} {keep : List Nat} {e' : Env} {ps : List Prop} (hc : Go.Proofs.Ytopcofkpggefkaa.regC tt sp N keep c e = some (e', ps)) (ho : AllP ps) (hs : MS N B IoB W0 F0 obs e a w)
    (hQ : ∀ a w, MS N B IoB W0 F0 obs e' a w → Q .normal a w) : c.wp P Q a w := by
  unfold Go.Proofs.Ytopcofkpggefkaa.regC at hc
  split at hc
  · split at hc
    · rename_i hok
      exact hs.reg G hok hc ho hQ
    · cases hc
  · cases hc

theorem MS.weak {e' : Env} (h : Weak e e') (hs : MS N B IoB W0 F0 obs e a w) : MS N B IoB W0 F0 obs e' a w := ⟨h _ _ _ _ _ _ _ hs.sim, hs.kept, hs.ob, hs.hB⟩

theorem MS.k (hs : MS N B IoB W0 F0 obs e a w) {s : Nat} {v : Value} (h : (s, v) ∈ N.k) : a.tmps.getD s undef = v := hs.sim.tmps.kp _ h
theorem MS.o (hs : MS N B IoB W0 F0 obs e a w) {r : Nat} {o : Obj} (h : (r, o) ∈ obs) : w.heap[r]? = some o := (hs.ob _ h).1

/-- Slots of which nothing is known are written. -/
theorem MS.tmps (hs : MS N B [] W0 F0 obs e a w) {D : List Nat} (hfl : flatE e = true) (hd : ∀ d ∈ D, isDead (getE e d) = true ∧ notIn d N.k = true) (hr : N.r = none) {a' : Act} (hdf : a'.defers = []) (hsz : a'.tmps.size = a.tmps.size)
    (heq : ∀ n, n ∉ D → a'.tmps.getD n undef = a.tmps.getD n undef) : MS N B [] W0 F0 obs e a' w := by
  obtain ⟨F, ow, hx⟩ := hs.sim.rep
  refine ⟨⟨hdf, ⟨hsz.trans hs.sim.tmps.size, (fun s h => by rw [hr] at h; cases h), fun p hp => ?_⟩, hs.sim.base, hs.sim.f0, hs.sim.kept, F, ow, ⟨hx.sub, hx.new, hx.live, hx.inj, fun s i b h => ?_, fun n => ?_⟩⟩, hs.kept, hs.ob, hs.hB⟩
  · rw [heq p.1 (fun h => notIn_ne (hd p.1 h).2 p hp rfl)]
    exact hs.sim.tmps.kp p hp
  · have := hx.bd s i b h
    exact ⟨this.1, this.2.elim .inl (fun h => by simp at h)⟩
  · have h1 := hx.sr n
    by_cases hn : n ∈ D
    · have h2 := (hd n hn).1
      cases hg : getE e n with
      | dead => trivial
      | _ => rw [hg] at h2; simp [isDead] at h2
    · have hf := flatE_ok hfl n
      rw [flat_sr hf] at h1 ⊢
      simp only [heq n hn]
      exact h1

/-- The last operations of a region, under the evaluator. -/
def runSuf (tt : TT) (sp : SP) (dsts : List (Option Nat)) (keep : List Nat) (l : List Oper) (e : Env) : Option (Env × List Prop) :=
  match runF tt sp dsts l e with
  | some (e2, q) => some (mask (clean (settle keep keep e2)) keep, q)
  | none => none
def sufOk (N : NP) (ops : Array Oper) : Nat → List Oper → Bool
  | _, [] => true
  | i, o :: r => o.guard.isNone && (dstOk N [o] && sufOk N ops (i + 1) r)

theorem MS.runF {tt : TT} {sp : SP} (G : Good P tt sp) {ops : Array Oper} : ∀ {l : List Oper} {i : Nat} {e e2 : Env} {ps : List Prop} {a : Act} {w : World}, (∀ j o, l[j]? = some o → ops[i + j]? = some o) → sufOk N ops i l = true →
    Go.Proofs.Ytopcofkpggefkaa.runF tt sp (ops.toList.map (·.dst)) l e = some (e2, ps) → AllP ps → MS N B IoB W0 F0 obs e a w → (∀ a w, MS N B IoB W0 F0 obs e2 a w → Q .normal a w) → wpOps P ops Q (List.range' i l.length) a w
  | [], i, e, e2, ps, a, w, _, _, hr, _, hs, hQ => by
    simp only [Go.Proofs.Ytopcofkpggefkaa.runF, Option.some.injEq, Prod.mk.injEq] at hr
    obtain ⟨rfl, rfl⟩ := hr
    exact hQ a w hs
  | o :: r, i, e, e2, ps, a, w, hl, hk, hr, ho, hs, hQ => by
    simp only [Go.Proofs.Ytopcofkpggefkaa.runF] at hr
    split at hr
    · rename_i e1 p h1
      split at hr
      · rename_i e2' q h2
        simp only [Option.some.injEq, Prod.mk.injEq] at hr
        obtain ⟨rfl, rfl⟩ := hr
        simp only [sufOk, Bool.and_eq_true] at hk
        have hall := ho.all
        have hp : AllP p := by
          have : ∀ {l : List Prop}, (∀ x ∈ l, x) → AllP l := by
            intro l
            induction l with
            | nil => exact fun _ => trivial
            | cons x l ih => exact fun h => ⟨h x (by simp), ih (fun y hy => h y (by simp [hy]))⟩
          exact this (fun x hx => hall x (List.mem_append_left _ hx))
        have hq : AllP q := by
          have : ∀ {l : List Prop}, (∀ x ∈ l, x) → AllP l := by
            intro l
            induction l with
            | nil => exact fun _ => trivial
            | cons x l ih => exact fun h => ⟨h x (by simp), ih (fun y hy => h y (by simp [hy]))⟩
          exact this (fun x hx => hall x (List.mem_append_right _ hx))
        have hgd : o.guard = none := by cases h : o.guard <;> simp_all
        rw [List.length_cons, List.range'_succ, wpOps_cons]
        refine wpOp_of (by simpa using hl 0 o rfl) hgd ?_
        refine hs.stepF G hgd h1 hp (fun d hd => dstOk_ok hk.2.1 0 o rfl d hd) (fun a' w' hs' => ?_)
        exact MS.runF G (i := i + 1) (fun j o' hj => by rw [show i + 1 + j = i + (j + 1) by omega]; exact hl (j + 1) o' (by simpa using hj)) hk.2.2 h2 hq hs' hQ
      · cases hr
    · cases hr

theorem MS.suf {tt : TT} {sp : SP} (G : Good P tt sp) {ops : Array Oper} {l : List Oper} {i : Nat} {keep : List Nat} {e e' : Env} {ps : List Prop} {a : Act} {w : World} (hl : ∀ j o, l[j]? = some o → ops[i + j]? = some o) (hk : sufOk N ops i l = true)
    (hr : runSuf tt sp (ops.toList.map (·.dst)) keep l e = some (e', ps)) (ho : AllP ps) (hs : MS N B IoB W0 F0 obs e a w) (hQ : ∀ a w, MS N B IoB W0 F0 obs e' a w → Q .normal a w) : wpOps P ops Q (List.range' i l.length) a w := by
  unfold runSuf at hr
  split at hr
  · rename_i e2 q h2
    simp only [Option.some.injEq, Prod.mk.injEq] at hr
    obtain ⟨rfl, rfl⟩ := hr
    exact MS.runF G hl hk h2 ho hs (fun a w h => hQ a w (h.of_sim (h.sim.settle.cleanMask keep)))
  · cases hr

theorem wpOps_nil (ops : Array Oper) (h : Q .normal a w) : wpOps P ops Q [] a w := h
end
end Go.Proofs.Ytopcofkpggefkaa

namespace Go.Proofs.Ytopcofkpggefkaa
open Go

def edgeIn (L : List Bool) : List Edge → Bool
  | [] => true
  | e :: r => (!Region.binds .any e || L.getD e.on false) && edgeIn L r
/-- The operations that may come next. -/
def rdyL (L : List Bool) : List Oper → Nat → List Nat
  | [], _ => []
  | o :: r, i => match !L.getD i true && edgeIn L o.after.toList with
    | true => i :: rdyL L r (i + 1)
    | false => rdyL L r (i + 1)
def catL {α : Type} (f : Nat → List α) : List Nat → List α
  | [] => []
  | i :: r => f i ++ catL f r
/-- What comes of a region, by each order that its edges allow. -/
def ordA (tt : TT) (sp : SP) (keep : List Nat) (ds : List (Option Nat)) (all : List Oper) : Nat → List Bool → List Prop → Env → List (Option (Env × List Prop))
  | 0, L, pre, e => match rdyL L all 0 with
    | [] => [some (mask (clean (settle keep keep e)) keep, pre)]
    | _ => [none]
  | fuel + 1, L, pre, e => match rdyL L all 0 with
    | [] => [some (mask (clean (settle keep keep e)) keep, pre)]
    | i :: r => catL (fun i => match all[i]? with
      | some o => match stepF tt sp ds e o with
        | some (e1, p) => ordA tt sp keep ds all fuel (L.set i true) (pre ++ p) e1
        | none => [none]
      | none => [none]) (i :: r)

theorem edgeIn_ok {L : List Bool} : ∀ {l : List Edge}, edgeIn L l = true ↔ ∀ e ∈ l, Region.binds .any e = true → L.getD e.on false = true
  | [] => by simp [edgeIn]
  | e :: r => by
    rw [edgeIn, Bool.and_eq_true, edgeIn_ok]
    simp only [List.mem_cons, forall_eq_or_imp, Bool.or_eq_true, Bool.not_eq_true']
    refine and_congr ⟨fun h hb => h.resolve_left (by rw [hb]; simp), fun h => ?_⟩ Iff.rfl
    cases hb : Region.binds .any e with
    | true => exact .inr (h hb)
    | false => exact .inl rfl
theorem rdyL_mem {L : List Bool} {j : Nat} : ∀ {l : List Oper} {i : Nat}, j ∈ rdyL L l i ↔ ∃ k o, j = i + k ∧ l[k]? = some o ∧ L.getD j true = false ∧ ∀ e ∈ o.after.toList, Region.binds .any e = true → L.getD e.on false = true
  | [], i => by simp [rdyL]
  | o :: r, i => by
    have ih := rdyL_mem (L := L) (j := j) (l := r) (i := i + 1)
    have hstep : (∃ k o', j = i + k ∧ (o :: r)[k]? = some o' ∧ L.getD j true = false ∧ ∀ e ∈ o'.after.toList, Region.binds .any e = true → L.getD e.on false = true) ↔
        (j = i ∧ L.getD j true = false ∧ ∀ e ∈ o.after.toList, Region.binds .any e = true → L.getD e.on false = true) ∨ j ∈ rdyL L r (i + 1) := by
      rw [ih]
      constructor
      · rintro ⟨k, o', h1, h2, h3⟩
        cases k with
        | zero => simp at h2; subst h2; exact .inl ⟨h1, h3⟩
        | succ k => exact .inr ⟨k, o', by omega, by simpa using h2, h3⟩
      · rintro (⟨h1, h3⟩ | ⟨k, o', h1, h2, h3⟩)
        · exact ⟨0, o, h1, rfl, h3⟩
        · exact ⟨k + 1, o', by omega, by simpa using h2, h3⟩
    rw [hstep]
    simp only [rdyL]
    split
    · rename_i hb
      rw [Bool.and_eq_true, Bool.not_eq_true', edgeIn_ok] at hb
      rw [List.mem_cons]
      refine or_congr ⟨fun h => ⟨h, by rw [h]; exact hb⟩, fun h => h.1⟩ Iff.rfl
    · rename_i hb
      refine ⟨.inr, fun h => h.resolve_left fun ⟨h1, h2⟩ => ?_⟩
      have : (!L.getD i true && edgeIn L o.after.toList) = true := by
        rw [Bool.and_eq_true, Bool.not_eq_true', edgeIn_ok, ← h1]; exact h2
      rw [hb] at this; cases this
theorem catL_mem {α : Type} {f : Nat → List α} {x : α} : ∀ {l : List Nat} {i : Nat}, i ∈ l → x ∈ f i → x ∈ catL f l
  | a :: r, i, hi, hx => by
    rw [catL, List.mem_append]
    rcases List.mem_cons.1 hi with rfl | hi
    · exact .inl hx
    · exact .inr (catL_mem hi hx)

section
variable {P : Program} {tt : TT} {sp : SP} {B : Nat} {IoB : List Nat} {F0 : Fz} {N : NP} {W0 : World}

theorem ordA_some {keep : List Nat} {ds : List (Option Nat)} {all : List Oper} : ∀ {fuel : Nat} {L : List Bool} {pre : List Prop} {e : Env}, ∃ r ∈ ordA tt sp keep ds all fuel L pre e, ∀ e1 q, r = some (e1, q) → ∀ x ∈ pre, x ∈ q
  | 0, L, pre, e => by
    simp only [ordA]
    split
    · exact ⟨_, List.mem_singleton_self _, fun e1 q h x hx => by cases h; exact hx⟩
    · exact ⟨none, by simp, fun e1 q h => by cases h⟩
  | fuel + 1, L, pre, e => by
    simp only [ordA]
    split
    · exact ⟨_, List.mem_singleton_self _, fun e1 q h x hx => by cases h; exact hx⟩
    · rename_i i r _
      have key : ∃ y ∈ (match all[i]? with
          | some o => match stepF tt sp ds e o with
            | some (e1, p) => ordA tt sp keep ds all fuel (L.set i true) (pre ++ p) e1
            | none => [none]
          | none => [none]), ∀ e1 q, y = some (e1, q) → ∀ x ∈ pre, x ∈ q := by
        split
        · split
          · rename_i e1 p _
            obtain ⟨y, h1, h2⟩ := ordA_some (keep := keep) (ds := ds) (all := all) (fuel := fuel) (L := L.set i true) (pre := pre ++ p) (e := e1)
            exact ⟨y, h1, fun e2 q h x hx => h2 e2 q h x (by simp [hx])⟩
          · exact ⟨none, by simp, fun e1 q h => by cases h⟩
        · exact ⟨none, by simp, fun e1 q h => by cases h⟩
      obtain ⟨y, h1, h2⟩ := key
      exact ⟨y, by rw [catL, List.mem_append]; exact .inl h1, h2⟩

theorem wpAny_ord (htt : TTok P tt) (hsp : ∀ f s, spk sp f = some s → Con P f s) {ops : Array Oper} (hdst : dstOk N ops.toList = true) {keep : List Nat} {e' : Env} {ps : List Prop} (hps : ∀ p ∈ ps, p)
    {Q : Exit → Act → World → Prop} (hQ : ∀ a w, Sim N B IoB W0 F0 e' a w → Q .normal a w) :
    ∀ (fuel : Nat) (listed : Array Bool) (pre : List Prop) (e : Env) (a : Act) (w : World), (∀ r ∈ ordA tt sp keep (ops.toList.map (·.dst)) ops.toList fuel listed.toList pre e, r = some (e', ps)) →
      Sim N B IoB W0 F0 e a w → wpAny P .any ops Q fuel listed a w := by
  have hmem : ∀ (listed : Array Bool) j, j ∈ rdyL listed.toList ops.toList 0 ↔ j ∈ Region.ready .any ops listed := by
    intro listed j
    rw [rdyL_mem, mem_ready]
    have hL : ∀ k b, listed.toList.getD k b = listed.getD k b := fun k b => by
      rw [Array.getD_eq_getD_getElem?, List.getD_eq_getElem?_getD, Array.getElem?_toList]
    simp only [hL]
    constructor
    · rintro ⟨k, o, h1, h2, h3, h4⟩
      rw [Nat.zero_add] at h1; subst h1
      exact ⟨h3, o, by rw [← Array.getElem?_toList]; exact h2, fun e he => h4 e (by simpa using he)⟩
    · rintro ⟨h1, o, h2, h3⟩
      exact ⟨j, o, by omega, by rw [Array.getElem?_toList]; exact h2, h1, fun e he => h3 e (by simpa using he)⟩
  have hend : ∀ {listed : Array Bool} {e : Env} {pre : List Prop} {a : Act} {w : World}, some (mask (clean (settle keep keep e)) keep, pre) = some (e', ps) → Sim N B IoB W0 F0 e a w → Q .normal a w := by
    intro listed e pre a w h hs
    simp only [Option.some.injEq, Prod.mk.injEq] at h
    have := hs.settle.cleanMask (e := settle keep keep e) keep
    rw [h.1] at this
    exact hQ a w this
  have hnil : ∀ {listed : Array Bool}, Region.ready .any ops listed = [] → rdyL listed.toList ops.toList 0 = [] := by
    intro listed h
    cases hr : rdyL listed.toList ops.toList 0 with
    | nil => rfl
    | cons j r =>
      have : j ∈ rdyL listed.toList ops.toList 0 := by rw [hr]; simp
      rw [hmem, h] at this
      cases this
  intro fuel
  induction fuel with
  | zero =>
    intro listed pre e a w h hs
    simp only [ordA] at h
    cases hr : rdyL listed.toList ops.toList 0 with
    | cons j r =>
      rw [hr] at h
      have := h none (by simp)
      cases this
    | nil =>
      rw [hr] at h
      refine ⟨?_, hend (listed := listed) (h _ (List.mem_singleton_self _)) hs⟩
      cases hr' : Region.ready .any ops listed with
      | nil => rfl
      | cons j r =>
        have : j ∈ Region.ready .any ops listed := by rw [hr']; simp
        rw [← hmem, hr] at this
        cases this
  | succ fuel ih =>
    intro listed pre e a w h hs
    simp only [ordA] at h
    refine ⟨fun hr => ?_, fun i hi => ?_⟩
    · rw [hnil hr] at h
      exact hend (listed := listed) (h _ (List.mem_singleton_self _)) hs
    · have hi' := (hmem listed i).2 hi
      cases hr : rdyL listed.toList ops.toList 0 with
      | nil => rw [hr] at hi'; cases hi'
      | cons j r =>
        rw [hr] at h hi'
        simp only [] at h
        have h2 := fun x hx => h x (catL_mem (f := fun i => match ops.toList[i]? with
          | some o => match stepF tt sp (ops.toList.map (·.dst)) e o with
            | some (e1, p) => ordA tt sp keep (ops.toList.map (·.dst)) ops.toList fuel (listed.toList.set i true) (pre ++ p) e1
            | none => [none]
          | none => [none]) hi' hx)
        obtain ⟨_, o, ho, _⟩ := mem_ready.1 hi
        have ho' : ops.toList[i]? = some o := by rw [Array.getElem?_toList]; exact ho
        simp only [ho'] at h2
        cases hst : stepF tt sp (ops.toList.map (·.dst)) e o with
        | none =>
          rw [hst] at h2
          have := h2 none (by simp)
          cases this
        | some q =>
          obtain ⟨e1, p⟩ := q
          rw [hst] at h2
          simp only [] at h2
          have hp : ∀ x ∈ p, x := by
            obtain ⟨y, hy, hz⟩ := ordA_some (tt := tt) (sp := sp) (keep := keep) (ds := ops.toList.map (·.dst)) (all := ops.toList) (fuel := fuel) (L := listed.toList.set i true) (pre := pre ++ p) (e := e1)
            exact fun x hx => hps x (hz e' ps (h2 y hy) x (by simp [hx]))
          have h3 := stepF_ok htt hsp hs hst hp (fun d hd => dstOk_ok hdst i o ho' d hd) (Q := Q) (next := wpAny P .any ops Q fuel (listed.setIfInBounds i true))
            (fun a' w' hs' => ih (listed.setIfInBounds i true) (pre ++ p) e1 a' w' (fun x hx => h2 x (by rw [Array.toList_setIfInBounds] at hx; exact hx)) hs')
          unfold wpOp
          rw [ho]
          simp only []
          by_cases hw : Region.wanted o (yielded ops a.tmps) = true
          · rw [if_pos hw] at h3 ⊢
            exact .inl h3
          · rw [if_neg hw] at h3 ⊢
            exact h3

/-- A region as a piece of its own, by all its orders. -/
theorem any_ok (G : Good P tt sp) {fr : Fr} {C : Code} {F : Fnn} {R A X Y Z : Type} {S : SubP R A X Y Z} (keep : List Nat) (k : Nat) {ps : List Prop} {q : A} (T : Tr R A X Y Z) (hT : T = .w ps (.l (.n q))) (ho : S.o = T.val) (hb : S.ob = T.ob)
    (hC : navR C S.path = .region (idOf (navR C S.path)) (opsOf (navR C S.path)) true) (hd : dstOk N (opsOf (navR C S.path)).toList = true)
    (h : ordA tt sp keep ((opsOf (navR C S.path)).toList.map (·.dst)) (opsOf (navR C S.path)).toList (opsOf (navR C S.path)).size (List.replicate (opsOf (navR C S.path)).size false) [] (clean S.env) = List.replicate k (some (S.pn q, ps))) :
    SubOk P tt N fr C F S := by
  intro hob a w hs
  subst hT
  rw [hb] at hob
  rw [hC]
  refine wp_region_any G.hm (wpAny_ord (keep := keep) G.htt G.hsp hd (AllP.all hob.1) (fun a w hs => ⟨_, hs, q, ho, fun _ _ _ _ _ _ _ hs => hs⟩) _ _ [] _ a _ (fun r hr => ?_) (hs.clean.drew _))
  rw [Array.toList_replicate, h] at hr
  exact List.eq_of_mem_replicate hr
end
end Go.Proofs.Ytopcofkpggefkaa

namespace Go.Proofs.Ytopcofkpggefkaa
open Go

def v_impl_FlowTimes (_ : List Row) (_ : Int) : List Time := []
def p_impl_FlowTimes (a0 : List Row) (_ : Int) : Prop := a0 = []
def s_impl_FlowTimes : Spec := ⟨[.lst .row, .int .i64], .one .fr (.lst .time), false, fun x => (v_impl_FlowTimes x.1 x.2.1, 0), fun x => p_impl_FlowTimes x.1 x.2.1⟩
end Go.Proofs.Ytopcofkpggefkaa

namespace Go.Proofs.Ytopcofkpggefkaa
open Go Go.Proofs Go.Shelf Go.RowKit Go.Lib Go.Sort

def sl6_ren : Go.Shelf.Ren := ⟨fun | 6 => 134 | 10 => 145 | 11 => 146 | 12 => 147 | 13 => 148 | 14 => 149 | 24 => 167 | 25 => 168 | 26 => 169 | 27 => 170 | 28 => 171 | 29 => 172 | 30 => 173 | 31 => 174 | 32 => 175 | 33 => 176 | 34 => 182 | 35 => 183 | 36 => 184 | 37 => 185 | 38 => 186 | 39 => 190 | n => n, fun | 20 => 20 | 26 => 136 | 35 => 147 | 0 => 0 | 37 => 149 | 3 => 3 | 41 => 152 | 44 => 155 | 49 => 164 | 51 => 166 | 4 => 4 | 54 => 169 | 53 => 168 | 58 => 173 | 5 => 5 | 9 => 9 | 60 => 180 | 64 => 184 | 66 => 188 | 67 => 189 | 17 => 17 | 32 => 144 | 33 => 145 | 82 => 204 | 12 => 12 | 75 => 197 | 76 => 198 | 77 => 199 | 78 => 200 | 79 => 201 | 80 => 202 | n => n, fun | n => n⟩
theorem sl6 : Go.Proofs.LaysGg.n6 Try.prog sl6_ren := {
  mixed := by kernel_rfl,
  f6 := Try.func134.trans (congrArg some (by kernel_rfl)),
  f10 := Try.func145.trans (congrArg some (by kernel_rfl)),
  f11 := Try.func146.trans (congrArg some (by kernel_rfl)),
  f12 := Try.func147.trans (congrArg some (by kernel_rfl)),
  f13 := Try.func148.trans (congrArg some (by kernel_rfl)),
  f14 := Try.func149.trans (congrArg some (by kernel_rfl)),
  f24 := Try.func167.trans (congrArg some (by kernel_rfl)),
  f25 := Try.func168.trans (congrArg some (by kernel_rfl)),
  f26 := Try.func169.trans (congrArg some (by kernel_rfl)),
  f27 := Try.func170.trans (congrArg some (by kernel_rfl)),
  f28 := Try.func171.trans (congrArg some (by kernel_rfl)),
  f29 := Try.func172.trans (congrArg some (by kernel_rfl)),
  f30 := Try.func173.trans (congrArg some (by kernel_rfl)),
  f31 := Try.func174.trans (congrArg some (by kernel_rfl)),
  f32 := Try.func175.trans (congrArg some (by kernel_rfl)),
  f33 := Try.func176.trans (congrArg some (by kernel_rfl)),
  f34 := Try.func182.trans (congrArg some (by kernel_rfl)),
  f35 := Try.func183.trans (congrArg some (by kernel_rfl)),
  f36 := Try.func184.trans (congrArg some (by kernel_rfl)),
  f37 := Try.func185.trans (congrArg some (by kernel_rfl)),
  f38 := Try.func186.trans (congrArg some (by kernel_rfl)),
  f39 := Try.func190.trans (congrArg some (by kernel_rfl)),
  t0 := Try.underlying0,
  a0 := Try.isAgg0,
  z0 := Try.sizeOf0,
  v0 := Try.zeroValue0,
  i0 := by kernel_rfl,
  t3 := Try.underlying3,
  a3 := Try.isAgg3,
  z3 := Try.sizeOf3,
  v3 := Try.zeroValue3,
  i3 := by kernel_rfl,
  t4 := Try.underlying4,
  a4 := Try.isAgg4,
  z4 := Try.sizeOf4,
  v4 := Try.zeroValue4,
  i4 := by kernel_rfl,
  t5 := Try.underlying5,
  a5 := Try.isAgg5,
  z5 := Try.sizeOf5,
  v5 := Try.zeroValue5,
  i5 := by kernel_rfl,
  t9 := Try.underlying9,
  a9 := Try.isAgg9,
  z9 := Try.sizeOf9,
  v9 := Try.zeroValue9,
  i9 := by kernel_rfl,
  t12 := Try.underlying12,
  a12 := Try.isAgg12,
  z12 := Try.sizeOf12,
  v12 := Try.zeroValue12,
  i12 := by kernel_rfl,
  t17 := Try.underlying17,
  a17 := Try.isAgg17,
  z17 := Try.sizeOf17,
  v17 := Try.zeroValue17,
  i17 := by kernel_rfl,
  t20 := Try.underlying20,
  a20 := Try.isAgg20,
  z20 := Try.sizeOf20,
  v20 := Try.zeroValue20,
  i20 := by kernel_rfl,
  t26 := Try.underlying136,
  a26 := Try.isAgg136,
  z26 := Try.sizeOf136,
  v26 := Try.zeroValue136,
  i26 := by kernel_rfl,
  t32 := Try.underlying144,
  a32 := Try.isAgg144,
  z32 := Try.sizeOf144,
  v32 := Try.zeroValue144,
  i32 := by kernel_rfl,
  t33 := Try.underlying145,
  a33 := Try.isAgg145,
  z33 := Try.sizeOf145,
  v33 := Try.zeroValue145,
  i33 := by kernel_rfl,
  t35 := Try.underlying147,
  a35 := Try.isAgg147,
  z35 := Try.sizeOf147,
  v35 := Try.zeroValue147,
  i35 := by kernel_rfl,
  t37 := Try.underlying149,
  a37 := Try.isAgg149,
  z37 := Try.sizeOf149,
  v37 := Try.zeroValue149,
  i37 := by kernel_rfl,
  t41 := Try.underlying152,
  a41 := Try.isAgg152,
  z41 := Try.sizeOf152,
  v41 := Try.zeroValue152,
  i41 := by kernel_rfl,
  t44 := Try.underlying155,
  a44 := Try.isAgg155,
  z44 := Try.sizeOf155,
  v44 := Try.zeroValue155,
  i44 := by kernel_rfl,
  t49 := Try.underlying164,
  a49 := Try.isAgg164,
  z49 := Try.sizeOf164,
  v49 := Try.zeroValue164,
  i49 := by kernel_rfl,
  t51 := Try.underlying166,
  a51 := Try.isAgg166,
  z51 := Try.sizeOf166,
  v51 := Try.zeroValue166,
  i51 := by kernel_rfl,
  t53 := Try.underlying168,
  a53 := Try.isAgg168,
  z53 := Try.sizeOf168,
  v53 := Try.zeroValue168,
  i53 := by kernel_rfl,
  t54 := Try.underlying169,
  a54 := Try.isAgg169,
  z54 := Try.sizeOf169,
  v54 := Try.zeroValue169,
  i54 := by kernel_rfl,
  t58 := Try.underlying173,
  a58 := Try.isAgg173,
  z58 := Try.sizeOf173,
  v58 := Try.zeroValue173,
  i58 := by kernel_rfl,
  t60 := Try.underlying180,
  a60 := Try.isAgg180,
  z60 := Try.sizeOf180,
  v60 := Try.zeroValue180,
  i60 := by kernel_rfl,
  t64 := Try.underlying184,
  a64 := Try.isAgg184,
  z64 := Try.sizeOf184,
  v64 := Try.zeroValue184,
  i64 := by kernel_rfl,
  t66 := Try.underlying188,
  a66 := Try.isAgg188,
  z66 := Try.sizeOf188,
  v66 := Try.zeroValue188,
  i66 := by kernel_rfl,
  t67 := Try.underlying189,
  a67 := Try.isAgg189,
  z67 := Try.sizeOf189,
  v67 := Try.zeroValue189,
  i67 := by kernel_rfl,
  t75 := Try.underlying197,
  a75 := Try.isAgg197,
  z75 := Try.sizeOf197,
  v75 := Try.zeroValue197,
  i75 := by kernel_rfl,
  t76 := Try.underlying198,
  a76 := Try.isAgg198,
  z76 := Try.sizeOf198,
  v76 := Try.zeroValue198,
  i76 := by kernel_rfl,
  t77 := Try.underlying199,
  a77 := Try.isAgg199,
  z77 := Try.sizeOf199,
  v77 := Try.zeroValue199,
  i77 := by kernel_rfl,
  t78 := Try.underlying200,
  a78 := Try.isAgg200,
  z78 := Try.sizeOf200,
  v78 := Try.zeroValue200,
  i78 := by kernel_rfl,
  t79 := Try.underlying201,
  a79 := Try.isAgg201,
  z79 := Try.sizeOf201,
  v79 := Try.zeroValue201,
  i79 := by kernel_rfl,
  t80 := Try.underlying202,
  a80 := Try.isAgg202,
  z80 := Try.sizeOf202,
  v80 := Try.zeroValue202,
  i80 := by kernel_rfl,
  t82 := Try.underlying204,
  a82 := Try.isAgg204,
  z82 := Try.sizeOf204,
  v82 := Try.zeroValue204,
  i82 := by kernel_rfl }

def ltI (x y : Item) : Bool := decide (x.Key < y.Key) || (decide (x.Key = y.Key) && decide (x.Val < y.Val))
def encI (x : Item) : List Value := [.int .i64 x.Key, .int .i64 x.Val, .int .i64 x.Count]
theorem swoI : SWO ltI := by
  constructor
  · intro x; simp [ltI]
  · intro x y z h1 h2
    simp only [ltI, Bool.or_eq_true, Bool.and_eq_true, decide_eq_true_eq] at h1 h2 ⊢
    omega
  · intro x y z h1 h2
    simp only [ltI, Bool.or_eq_false_iff, Bool.and_eq_false_iff, decide_eq_false_iff_not] at h1 h2 ⊢
    omega

set_option maxHeartbeats 4000000 in
theorem lessI (blk off c Bs size : Nat) (W : World) (G : Nat → Item) (hs : W.cell? ⟨Bs, 0, none⟩ = some (.slice (some ⟨blk, off, none⟩) size c))
    (hk : ∀ t, t < size → W.cell? ⟨blk, off + t * 3, none⟩ = some (.int .i64 (G t).Key)) (hv : ∀ t, t < size → W.cell? ⟨blk, off + t * 3 + 1, none⟩ = some (.int .i64 (G t).Val)) (i j : Nat) (hi : i < size) (hj : j < size) (_hsz : size < 4611686018427387904) :
    Calls Try.prog 135 #[.int .i64 i, .int .i64 j, .pointer (some ⟨Bs, 0, none⟩)] W fun e w' => e = .returned (.bool (ltI (G i) (G j))) ∧ ∃ q, w' = W.drewN q := by
  have ki := hk i hi
  have kj := hk j hj
  have vi := hv i hi
  have vj := hv j hj
  by_cases h1 : (G i).Key < (G j).Key
  · have e1 : decide ((G i).Key < (G j).Key) = true := decide_eq_true h1
    have hl : ltI (G i) (G j) = true := by simp [ltI, h1]
    rw [hl]
    go_enter Try.func135, Try.ntmps135
    go_wp2
    go_quiet (fail)
    go_wp2
    go_ret
    exact ⟨rfl, nq, rfl⟩
  · have e1 : decide ((G i).Key < (G j).Key) = false := decide_eq_false h1
    by_cases h2 : (G i).Key = (G j).Key
    · have e2 : ((G i).Key == (G j).Key) = true := by simp [h2]
      have hl : ltI (G i) (G j) = decide ((G i).Val < (G j).Val) := by simp [ltI, h2]
      rw [hl]
      go_enter Try.func135, Try.ntmps135
      go_wp2
      go_quiet (fail)
      go_wp2
      go_ret
      exact ⟨rfl, nq, rfl⟩
    · have e2 : ((G i).Key == (G j).Key) = false := by simp [h2]
      have hl : ltI (G i) (G j) = false := by simp [ltI, h1, h2]
      rw [hl]
      go_enter Try.func135, Try.ntmps135
      go_wp2
      go_quiet (fail)
      go_wp2
      go_ret
      exact ⟨rfl, nq, rfl⟩

noncomputable def svT : TypeInfo := (Try.prog.info? 44).get (by kernel_rfl)
noncomputable def svE : TypeInfo := (Try.prog.info? 64).get (by kernel_rfl)
theorem svK2 (n : Nat) (h2 : 2 ≤ n) : Lib.swapperK n svE 25 = 9 := by
  have a : svE.hasPointers = false := by kernel_rfl
  have b : svE.bytes = 24 := by kernel_rfl
  have c : (n == 0) = false := by simp; omega
  have d : (n == 1) = false := by simp; omega
  simp [Lib.swapperK, a, b, c, d]

theorem sortI (blk off c Bs : Nat) (d : Array Item) (hsz : d.size < 4611686018427387904) (w : World) (hH : HoldsK encI 3 w blk off d) (hblk : blk < w.heap.size)
    (hBs : w.cell? ⟨Bs, 0, none⟩ = some (.slice (some ⟨blk, off, none⟩) d.size c)) (hB1 : Bs < w.heap.size) (hB2 : Bs ≠ blk) :
    Calls Try.prog 134 #[.iface 44 (.slice (some ⟨blk, off, none⟩) d.size c), .func (.func 135) #[] #[.pointer (some ⟨Bs, 0, none⟩)]] w fun e w' =>
      e = .returned (.tuple #[]) ∧ ∃ (d' : Array Item) (n : Nat) (os : Array Obj), d'.toList.Perm d.toList ∧ (∀ i j, i < j → j < d'.size → ltI d'[j]! d'[i]! = false) ∧ w' = grow (putRowK encI 3 (Sort.ahead w n) blk off d') os := by
  by_cases h2 : 2 ≤ d.size
  · have hless : LessReadsK Try.prog 135 #[.pointer (some ⟨Bs, 0, none⟩)] encI 3 ltI blk off d.size w := by
      intro m os dk hs i j hi hj
      have e : sortWorldK encI 3 w blk off m dk os = putRowK encI 3 (grow (Sort.ahead w m) os) blk off dk := by
        unfold sortWorldK; rw [putRowK_grow _ _ (Sort.ahead w m) _ blk off _ hblk]
      have hHg : HoldsK encI 3 (grow (Sort.ahead w m) os) blk off d := holdsK_grow _ _ _ _ blk off d hblk (holdsK_ahead _ _ _ _ _ _ _ hH)
      refine lessI blk off c Bs d.size _ (fun t => dk[t]!) ?_ (fun t ht => ?_) (fun t ht => ?_) i j hi hj (by omega)
      · rw [e, cell?_putRowK_other _ _ _ blk off dk _ (by exact hB2), cell?_grow _ _ _ (by exact hB1)]; exact hBs
      · rw [e]; exact ((holdsK_putRowK _ _ _ blk off d dk hHg hs).cell (i := t) (c := 0) (by omega) (by omega)).1
      · rw [e]; exact ((holdsK_putRowK _ _ _ blk off d dk hHg hs).cell (i := t) (c := 1) (by omega) (by omega)).1
    refine (Any.sort_Slice_cells_sorted sl6 44 64 svT svE (by kernel_rfl) (by kernel_rfl) (by kernel_rfl) (by kernel_rfl) 25 (fun _ => by kernel_rfl) encI 3 (fun _ => rfl) (by kernel_rfl) (fun _ => by kernel_rfl)
      (fun x v hv => by simp [encI] at hv; rcases hv with rfl | rfl | rfl <;> rfl) ltI swoI 135 _
      (enters_of Try.func135 (by kernel_rfl) rfl) blk off c d h2 hsz 166 (by rw [svK2 _ h2]; kernel_rfl) false
      (fun args W => run_callFunc_extern Try.func166 (by kernel_rfl) (by kernel_rfl) (by kernel_rfl) (e := Extern.ReflectliteSwapper.swap false) (by kernel_rfl) args W) w hless hH hblk).mono ?_
    rintro e w' ⟨rfl, d', n, os, hp, hs, rfl⟩
    refine ⟨rfl, d', n, os, ?_, fun i j hij hj => hs i j (Nat.zero_le _) hij (by rw [← hp.1]; exact hj), rfl⟩
    have h3 := hp.2.2
    have h4 : d'.extract 0 d.size = d' := by rw [← hp.1]; simp
    rw [h4] at h3
    simpa using h3
  · have hK : ∃ k, Try.prog.funcs.findIdx? (·.name == "internal/reflectlite" ++ ".Swapper$" ++ toString (Lib.swapperK d.size svE 25)) = some k := by
      rcases Nat.lt_or_ge d.size 1 with h | h
      · have hd : d.size = 0 := by omega
        exact ⟨158, by rw [hd, show Lib.swapperK 0 svE 25 = 1 by kernel_rfl]; kernel_rfl⟩
      · have hd : d.size = 1 := by omega
        exact ⟨159, by rw [hd, show Lib.swapperK 1 svE 25 = 2 by kernel_rfl]; kernel_rfl⟩
    obtain ⟨k, hk⟩ := hK
    refine (Any.sort_Slice_tiny sl6 44 64 svT svE (by kernel_rfl) (by kernel_rfl) (by kernel_rfl) (by kernel_rfl) 25 (fun _ => by kernel_rfl) (some ⟨blk, off, none⟩) d.size c (by omega) k hk (.func 135) #[] _ w).mono ?_
    rintro e w' ⟨rfl, os, rfl⟩
    refine ⟨rfl, d, 0, os, .refl _, fun i j hij hj => by omega, ?_⟩
    rw [show Sort.ahead w 0 = w from rfl, putRowK_self encI 3 w blk off d hH]
end Go.Proofs.Ytopcofkpggefkaa

namespace Go.Proofs.Ytopcofkpggefkaa
open Go

def kI (x : Item) : List Int := [x.Key, x.Val, 0]
def mkI (p : List Int × Int) : Item := match p.1 with
  | [k, v, _] => ⟨k, v, p.2⟩
  | _ => ⟨0, 0, p.2⟩
def chI (xs : List Item) : List (List Int × Int) := xs.map fun x => (kI x, x.Count)
def gathI (xs : List Item) : List Item := (gathM (chI xs)).map mkI
/-- What a walk over some of a map's entries has gathered. -/
def outI (m : MP) (S : List Nat) : List Item := ((S.map fun i => m.getD i ([0, 0, 0], 0)).filter fun p => p.2 != 0).map mkI

noncomputable def v_impl_gathered (a0 : List Item) : List Item := gathI a0
def p_impl_gathered (a0 : List Item) : Prop := lim (lenI .item a0) 1
noncomputable def s_impl_gathered : Spec := ⟨[.lst .item], .one .fr (.lst .item), false, fun x => (v_impl_gathered x.1, 0), fun x => p_impl_gathered x.1⟩

def ttg : TT := [(3, ⟨.scalar, 1, [.int .i64 0], some .int, false⟩), (4, ⟨.scalar, 1, [.bool false], some .bool, false⟩), (44, ⟨.slice 64, 1, [.nl .item], none, false⟩),
  (64, ⟨.struct [(0, 1), (1, 1), (2, 1)], 3, [.int .i64 0, .int .i64 0, .int .i64 0], some .item, true⟩)]
theorem ttg_ok : TTok Try.prog ttg := ttChk_ok (by kernel_rfl)
theorem gg : Good Try.prog ttg [] := ⟨ttg_ok, (fun _ _ h => by cases h), by kernel_rfl⟩
theorem tdE : TDok Try.prog 64 ⟨.struct [(0, 1), (1, 1), (2, 1)], 3, [.int .i64 0, .int .i64 0, .int .i64 0], some .item, true⟩ := ttg_ok.td _ _ (by kernel_rfl)
theorem td3 : TDok Try.prog 3 ⟨.scalar, 1, [.int .i64 0], some .int, false⟩ := ttg_ok.td _ _ (by kernel_rfl)
noncomputable def fsG : Array Field := match Try.prog.underlying 64 with
  | some (.struct fs) => fs
  | _ => #[]
noncomputable def sv3 : TypeInfo := (Try.prog.info? 3).get (by kernel_rfl)
theorem mapTy : MapTy Try.prog 134 64 3 3 := by
  refine ⟨by kernel_rfl, ⟨fsG, by kernel_rfl⟩, ttg_ok.eq _ ⟨.struct [(0, 1), (1, 1), (2, 1)], 3, [.int .i64 0, .int .i64 0, .int .i64 0], some .item, true⟩ (by kernel_rfl) rfl,
    ckOk (fs := fsG) (i := svE) (by kernel_rfl) (by kernel_rfl) (by kernel_rfl) (by kernel_rfl), fun w => ?_⟩
  have hi : Try.prog.info? 3 = some sv3 := by kernel_rfl
  have hz : sv3.zero = some (.int .i64 0) := by kernel_rfl
  simp [zeroValue, typeInfo, hi, hz]

noncomputable def C0 : Code := bodyOf Try.f107

noncomputable def o1 (i : Nat) : Oper := opN (opsOf (nav C0 [1, 0])) i
noncomputable def o5 (i : Nat) : Oper := opN (opsOf (nav C0 [1, 1, 0, 1, 0, 0, 1, 1, 0, 0, 1])) i
noncomputable def o8 (i : Nat) : Oper := opN (opsOf (nav C0 [1, 1, 1, 1, 0, 0])) i
noncomputable def o9 (i : Nat) : Oper := opN (opsOf (nav C0 [1, 1, 1, 1, 0, 1, 0, 0, 0])) i
noncomputable def o10 (i : Nat) : Oper := opN (opsOf (nav C0 [1, 1, 1, 1, 0, 1, 0, 0, 1, 1, 0, 0])) i
noncomputable def o14 (i : Nat) : Oper := opN (opsOf (nav C0 [1, 1, 1, 1, 1, 0])) i

theorem chk : (opsOf (nav C0 [1, 0])).size = 2 ∧ (opsOf (nav C0 [1, 1, 0, 1, 0, 0, 1, 1, 0, 0, 1])).size = 13 ∧ (opsOf (nav C0 [1, 1, 1, 1, 0, 0])).size = 2 ∧ (opsOf (nav C0 [1, 1, 1, 1, 0, 1, 0, 0, 0])).size = 2 ∧
    (opsOf (nav C0 [1, 1, 1, 1, 0, 1, 0, 0, 1, 1, 0, 0])).size = 6 ∧ (opsOf (nav C0 [1, 1, 1, 1, 1, 0])).size = 4 := ⟨by kernel_rfl, by kernel_rfl, by kernel_rfl, by kernel_rfl, by kernel_rfl, by kernel_rfl⟩
end Go.Proofs.Ytopcofkpggefkaa

namespace Go.Proofs.Ytopcofkpggefkaa
open Go

theorem build3 (w : World) (k v : Int) : (Instr.build 64 #[(0, .int .i64 k), (1, .int .i64 v)]).run Try.prog w = .ok (kvOf [k, v, 0]) w := by
  obtain ⟨us, h1, h2⟩ := build_ok (F := fun _ _ => False) (B := 0) (w := w) tdE rfl (ps := [(0, ⟨true, false, [.int .i64 k]⟩), (1, ⟨true, false, [.int .i64 v]⟩)]) (vs := #[(0, .int .i64 k), (1, .int .i64 v)])
    (f := true) (cs := [.int .i64 k, .int .i64 v, .int .i64 0]) rfl (fun j i p u hp hu => by
      match j, hp, hu with
      | 0, hp, hu => simp at hp hu; obtain ⟨rfl, rfl⟩ := hp; subst hu; exact RC.int _ _
      | 1, hp, hu => simp at hp hu; obtain ⟨rfl, rfl⟩ := hp; subst hu; exact RC.int _ _
      | j + 2, hp, hu => simp at hp) rfl
  rw [h1]
  cases h2 with
  | cons h2 h3 => cases h2; cases h3 with
    | cons h2 h3 => cases h2; cases h3 with
      | cons h2 h3 => cases h2; cases h3; rfl

def V5 (r b5 : Nat) (k v c : Int) (m : MP) : Nat → Value
  | 0 => .map (some r)
  | 1 => .pointer (some ⟨b5, 0, none⟩)
  | 2 => .int .i64 k
  | 3 => .pointer (some ⟨b5, 1, none⟩)
  | 4 => .int .i64 v
  | 5 => kvOf [k, v, 0]
  | 6 => .int .i64 (valM m [k, v, 0])
  | 7 => .pointer (some ⟨b5, 2, none⟩)
  | 8 => .int .i64 c
  | 9 => .int .i64 (ar .add .i64 (valM m [k, v, 0]) c)
  | 10 => .tuple #[.int .i64 (valM m [k, v, 0]), goInt (stp m [k, v, 0])]
  | _ => goInt (stp m [k, v, 0])
def mL (m : MP) (q : List Int × Int) (L : Nat → Bool) : MP := if L 12 then stepM m q else if L 10 then insM m q.1 else m
structure J5 (a0 : Act) (w1 : World) (r b5 : Nat) (k v c : Int) (m : MP) (L : Nat → Bool) (a : Act) (w : World) : Prop where
  df : a.defers = []
  sz : a.tmps.size = a0.tmps.size
  vs : ∀ i, i < 12 → L i = true → a.tmps.getD (16 + i) undef = V5 r b5 k v c m i
  ot : ∀ n, n < 16 ∨ 27 < n → a.tmps.getD n undef = a0.tmps.getD n undef
  pk : Pk w1 r w
  ob : w.heap[r]? = some (mapObj (mL m ([k, v, 0], c) L))

theorem Keyd.ins {n : Nat} {m : MP} (h : Keyd n m) {ks : List Int} (hk : ks.length = n) : Keyd n (insM m ks) := by
  unfold insM
  split
  · exact h
  · intro p hp
    rcases List.mem_append.1 hp with hp | hp
    · exact h p hp
    · simp at hp; subst hp; exact hk
theorem insM_valM (m : MP) (ks : List Int) : valM (insM m ks) ks = valM m ks := valM_insM m ks ks
theorem stp_lt (m : MP) (ks : List Int) : stp m ks < (insM m ks).length := by
  obtain ⟨v0, h⟩ := stp_get m ks
  exact (List.getElem?_eq_some_iff.1 h).1
theorem setO_same (w : World) (r : Nat) (o : Obj) : (setO w r o).os = w.os := rfl
theorem Pk.trans {w w' w'' : World} {r : Nat} (h : Pk w r w') (k : Pk w' r w'') : Pk w r w'' :=
  ⟨k.os.trans h.os, k.tape.trans h.tape, k.output.trans h.output, k.size.trans h.size, fun i hi => (k.block i hi).trans (h.block i hi)⟩

theorem J5.put {a0 : Act} {w1 : World} {r b5 : Nat} {k v c : Int} {m : MP} {L : Nat → Bool} {a : Act} {w w' : World} (h : J5 a0 w1 r b5 k v c m L a w) (h28 : 28 ≤ a0.tmps.size) {i : Nat} (hi : i < 12) (hp : Pk w r w')
    (ho : w'.heap[r]? = some (mapObj (mL m ([k, v, 0], c) fun j => if j = i then true else L j))) : J5 a0 w1 r b5 k v c m (fun j => if j = i then true else L j) (a.put (some (16 + i)) (V5 r b5 k v c m i)) w' := by
  have hs : 16 + i < a.tmps.size := by rw [h.sz]; omega
  refine ⟨h.df, by rw [put_size]; exact h.sz, fun j hj hL => ?_, fun n hn => ?_, h.pk.trans hp, ho⟩
  · rw [getD_set a _ _ hs]
    by_cases e : j = i
    · rw [if_pos (by omega), e]
    · rw [if_neg (by omega)]
      exact h.vs j hj (by simpa [e] using hL)
  · rw [getD_set a _ _ hs, if_neg (by omega)]
    exact h.ot n hn

theorem mL_other {m : MP} {q : List Int × Int} {L : Nat → Bool} {i : Nat} (h1 : i ≠ 10) (h2 : i ≠ 12) : mL m q (fun j => if j = i then true else L j) = mL m q L := by
  unfold mL
  have e1 : ¬ (12 = i) := fun e => h2 e.symm
  have e2 : ¬ (10 = i) := fun e => h1 e.symm
  simp [e1, e2]

theorem op5 : (∀ i, i < 12 → (o5 i).dst = some (16 + i) ∧ (o5 i).guard = none) ∧ (o5 12).dst = none ∧ (o5 12).guard = none ∧
    (o5 0).op = .move (.tmp 3) ∧ (o5 1).op = .fieldAddr 64 (.tmp 5) 0 ∧ (o5 2).op = .load 3 (.tmp 17) ∧ (o5 3).op = .fieldAddr 64 (.tmp 5) 1 ∧ (o5 4).op = .load 3 (.tmp 19) ∧ (o5 5).op = .build 64 #[(0, .tmp 18), (1, .tmp 20)] ∧
    (o5 6).op = .lookup 134 (.tmp 16) (.tmp 21) false ∧ (o5 7).op = .fieldAddr 64 (.tmp 5) 2 ∧ (o5 8).op = .load 3 (.tmp 23) ∧ (o5 9).op = .binOp .add 3 (.tmp 22) (.tmp 24) 3 ∧ (o5 10).op = .mapEntry 134 (.tmp 16) (.tmp 21) ∧
    (o5 11).op = .extract (.tmp 26) 1 ∧ (o5 12).op = .entryStore 134 (.tmp 16) (.tmp 27) (.tmp 25) := by
  refine ⟨fun i hi => ?_, by kernel_rfl, by kernel_rfl, by kernel_rfl, by kernel_rfl, by kernel_rfl, by kernel_rfl, by kernel_rfl, by kernel_rfl, by kernel_rfl, by kernel_rfl, by kernel_rfl, by kernel_rfl, by kernel_rfl, by kernel_rfl, by kernel_rfl⟩
  rcases (show i = 0 ∨ i = 1 ∨ i = 2 ∨ i = 3 ∨ i = 4 ∨ i = 5 ∨ i = 6 ∨ i = 7 ∨ i = 8 ∨ i = 9 ∨ i = 10 ∨ i = 11 by omega) with rfl | rfl | rfl | rfl | rfl | rfl | rfl | rfl | rfl | rfl | rfl | rfl <;> exact ⟨by kernel_rfl, by kernel_rfl⟩

set_option maxHeartbeats 1600000 in
set_option maxRecDepth 20000 in
theorem reg5 {Q : Exit → Act → World → Prop} {B : Nat} {W0 : World} {F0 : Fz} {r : Nat} {m : MP} {e : Env} {k v c : Int} {a : Act} {w : World} {N : NP} (hs : MS N B [] W0 F0 [(r, mapObj m)] e a w) (hfl : flatE e = true)
    (hN : N.n = 50 ∧ N.r = none ∧ N.k = [(3, .map (some r))]) (hg : getE e 5 = .box [(.fr, .int .i64 k), (.fr, .int .i64 v), (.fr, .int .i64 c)]) (hd : ∀ d, 16 ≤ d → d ≤ 27 → isDead (getE e d) = true) (hm : Keyd 3 m)
    (hQ : ∀ a w, MS N B [] W0 F0 [(r, mapObj (stepM m ([k, v, 0], c)))] e a w → Q .normal a w) : (nav C0 [1, 1, 0, 1, 0, 0, 1, 1, 0, 0, 1]).wp Try.prog Q a w := by
  obtain ⟨hN1, hN2, hN3⟩ := hN
  have hcode : nav C0 [1, 1, 0, 1, 0, 0, 1, 1, 0, 0, 1] = .region (idOf (nav C0 [1, 1, 0, 1, 0, 0, 1, 1, 0, 0, 1])) (opsOf (nav C0 [1, 1, 0, 1, 0, 0, 1, 1, 0, 0, 1])) true := by kernel_rfl
  have hsz : (opsOf (nav C0 [1, 1, 0, 1, 0, 0, 1, 1, 0, 0, 1])).size = 13 := chk.2.1
  obtain ⟨F, ow, hx⟩ := hs.sim.rep
  obtain ⟨b5, us, hp5, _, hblk, _, hlen, hbx⟩ := hx.box hg
  have hp5 : a.tmps.getD 5 undef = .pointer (some ⟨b5, 0, none⟩) := hp5
  have hr := hs.o (List.mem_singleton.2 rfl)
  have hbr : b5 ≠ r := hblk.ne hr rfl
  have h3 : a.tmps.getD 3 undef = .map (some r) := hs.k (by rw [hN3]; simp)
  have h28 : 28 ≤ a.tmps.size := by rw [hs.sim.tmps.size, hN1]; omega
  have hus : us = [.int .i64 k, .int .i64 v, .int .i64 c] := by
    match us, hlen with
    | [u0, u1, u2], _ =>
      have q0 : RC F B w (.int .i64 k) u0 := hbx 0 _ u0 rfl rfl
      have q1 : RC F B w (.int .i64 v) u1 := hbx 1 _ u1 rfl rfl
      have q2 : RC F B w (.int .i64 c) u2 := hbx 2 _ u2 rfl rfl
      cases q0; cases q1; cases q2; rfl
  subst hus
  obtain ⟨hdg, hd12, hg12, p0, p1, p2, p3, p4, p5, p6, p7, p8, p9, p10, p11, p12⟩ := op5
  have hks : ([k, v, 0] : List Int).length = 3 := rfl
  rw [hcode]
  refine wp_region_any gg.hm ?_
  refine wpAny_inv (J := J5 a { w with drawn := w.drawn + 1 } r b5 k v c m) (by kernel_rfl) ?_ ?_ (opsOf (nav C0 [1, 1, 0, 1, 0, 0, 1, 1, 0, 0, 1])).size _ a _ (by simp) (by simp) ?_ ?_
  · intro L a' w' i o hio hLi hE hcl hJ next hn
    have hi13 : i < 13 := by have := (Array.getElem?_eq_some_iff.1 hio).1; omega
    have ho : o = o5 i := (opN_eq hio).symm
    have hE' : ∀ j, edgeB (o5 i) j = true → L j = true := fun j hj => edgeB_ok (by rw [← ho]; exact hE) hj
    have hC : ∀ i j, i < 13 → L i = true → edgeB (o5 i) j = true → L j = true := fun i j hi hL hj => by
      have hlt : i < (opsOf (nav C0 [1, 1, 0, 1, 0, 0, 1, 1, 0, 0, 1])).size := by omega
      exact edgeB_ok (fun e he hb => hcl i (o5 i) (by have := Array.getElem?_eq_getElem hlt; rw [this]; exact congrArg some (opN_eq this).symm) hL e he hb) hj
    have hblk' : Blk w' b5 [.int .i64 k, .int .i64 v, .int .i64 c] := by
      refine Blk.same (w := w) hblk ?_
      rw [hJ.pk.block b5 hbr]
    have t3 : a'.tmps.getD 3 undef = .map (some r) := by rw [hJ.ot 3 (.inl (by omega))]; exact h3
    have t5 : a'.tmps.getD 5 undef = .pointer (some ⟨b5, 0, none⟩) := by rw [hJ.ot 5 (.inl (by omega))]; exact hp5
    -- a value, the memory as it was
    have pure : ∀ (hi : i < 12), i ≠ 10 → (execOp a'.eval (o5 i)).run Try.prog w' = .ok (.value (V5 r b5 k v c m i)) w' → wpOp Try.prog (opsOf (nav C0 [1, 1, 0, 1, 0, 0, 1, 1, 0, 0, 1])) Q i next a' w' := by
      intro hi h10 hrun
      refine wpOp_of hio (by rw [ho]; exact (hdg i hi).2) ?_
      rw [ho]
      refine wp_value hrun ?_
      rw [(hdg i hi).1]
      exact hn _ _ (hJ.put h28 hi ⟨rfl, rfl, rfl, rfl, fun _ _ => rfl⟩ (by rw [mL_other h10 (by omega)]; exact hJ.ob))
    have hm12 : L 12 = false → w'.heap[r]? = some (mapObj (if L 10 then insM m [k, v, 0] else m)) := fun h => by
      have := hJ.ob
      unfold mL at this
      rw [h] at this
      simpa using this
    rcases (show i = 0 ∨ i = 1 ∨ i = 2 ∨ i = 3 ∨ i = 4 ∨ i = 5 ∨ i = 6 ∨ i = 7 ∨ i = 8 ∨ i = 9 ∨ i = 10 ∨ i = 11 ∨ i = 12 by omega) with rfl | rfl | rfl | rfl | rfl | rfl | rfl | rfl | rfl | rfl | rfl | rfl | rfl
    · exact pure (by omega) (by omega) (by rw [exec_move p0, t3]; rfl)
    · exact pure (by omega) (by omega) (exec_fieldAddr p1 t5 tdE rfl rfl)
    · exact pure (by omega) (by omega) (exec_load p2 (hJ.vs 1 (by omega) (hE' 1 (by kernel_rfl))) td3 rfl (by rw [hblk'.cell]; rfl))
    · exact pure (by omega) (by omega) (exec_fieldAddr p3 t5 tdE rfl rfl)
    · exact pure (by omega) (by omega) (exec_load p4 (hJ.vs 3 (by omega) (hE' 3 (by kernel_rfl))) td3 rfl (by rw [hblk'.cell]; rfl))
    · refine pure (by omega) (by omega) (exec_build p5 ?_)
      have e1 : a'.tmps.getD 18 undef = .int .i64 k := hJ.vs 2 (by omega) (hE' 2 (by kernel_rfl))
      have e2 : a'.tmps.getD 20 undef = .int .i64 v := hJ.vs 4 (by omega) (hE' 4 (by kernel_rfl))
      have : (#[(0, Operand.tmp 18), (1, Operand.tmp 20)].map fun p => (p.1, a'.eval p.2)) = #[(0, Value.int .i64 k), (1, Value.int .i64 v)] := by
        simp only [List.map_toArray, List.map_cons, List.map_nil]
        rw [show a'.eval (.tmp 18) = .int .i64 k from e1, show a'.eval (.tmp 20) = .int .i64 v from e2]
      rw [this]
      exact build3 w' k v
    · refine pure (by omega) (by omega) (exec_lookup p6 ?_)
      rw [hJ.vs 0 (by omega) (hE' 0 (by kernel_rfl)), hJ.vs 5 (by omega) (hE' 5 (by kernel_rfl))]
      have h12 : L 12 = false := by
        cases h : L 12 with
        | false => rfl
        | true =>
          have h9 := hC 12 9 (by omega) h (by kernel_rfl)
          have h6 := hC 9 6 (by omega) h9 (by kernel_rfl)
          rw [h6] at hLi
          cases hLi
      have hob := hm12 h12
      cases h10 : L 10 with
      | false =>
        rw [h10] at hob
        exact lookup_run mapTy hob hm hks
      | true =>
        rw [h10] at hob
        have hob : w'.heap[r]? = some (mapObj (insM m [k, v, 0])) := hob
        have := lookup_run mapTy hob (hm.ins hks) hks
        rw [insM_valM] at this
        exact this
    · exact pure (by omega) (by omega) (exec_fieldAddr p7 t5 tdE rfl rfl)
    · exact pure (by omega) (by omega) (exec_load p8 (hJ.vs 7 (by omega) (hE' 7 (by kernel_rfl))) td3 rfl (by rw [hblk'.cell]; rfl))
    · exact pure (by omega) (by omega) (exec_add p9 (hJ.vs 6 (by omega) (hE' 6 (by kernel_rfl))) (hJ.vs 8 (by omega) (hE' 8 (by kernel_rfl))))
    · have h12 : L 12 = false := by
        cases h : L 12 with
        | false => rfl
        | true =>
          have h11 := hC 12 11 (by omega) h (by kernel_rfl)
          have h10 := hC 11 10 (by omega) h11 (by kernel_rfl)
          rw [h10] at hLi
          cases hLi
      have hob := hm12 h12
      rw [hLi] at hob
      have hob : w'.heap[r]? = some (mapObj m) := hob
      have hrun := mapEntry_run mapTy hob hm hks
      refine wpOp_of hio (by rw [ho]; exact (hdg 10 (by omega)).2) ?_
      rw [ho]
      refine wp_value (exec_mapEntry p10 (by rw [hJ.vs 0 (by omega) (hE' 0 (by kernel_rfl)), hJ.vs 5 (by omega) (hE' 5 (by kernel_rfl))]; exact hrun)) ?_
      rw [(hdg 10 (by omega)).1]
      refine hn _ _ (hJ.put h28 (by omega) (setO_pk _ _ _) ?_)
      rw [setO_get hob]
      unfold mL
      simp [h12]
    · have e10 : a'.tmps.getD 26 undef = .tuple #[.int .i64 (valM m [k, v, 0]), goInt (stp m [k, v, 0])] := hJ.vs 10 (by omega) (hE' 10 (by kernel_rfl))
      have hrun : (execOp a'.eval (o5 11)).run Try.prog w' = .ok (.value (goInt (stp m [k, v, 0]))) w' := exec_extract (vs := #[.int .i64 (valM m [k, v, 0]), goInt (stp m [k, v, 0])]) p11 e10 (by simp)
      exact pure (by omega) (by omega) hrun
    · have h10 : L 10 = true := hC 11 10 (by omega) (hE' 11 (by kernel_rfl)) (by kernel_rfl)
      have hob := hm12 hLi
      rw [h10] at hob
      have hob : w'.heap[r]? = some (mapObj (insM m [k, v, 0])) := hob
      have hrun := entryStore_run mapTy hob (stp_lt m [k, v, 0]) (ar .add .i64 (valM m [k, v, 0]) c)
      refine wpOp_of hio (by rw [ho]; exact hg12) ?_
      rw [ho]
      refine wp_skip' (exec_entryStore p12 (by rw [hJ.vs 0 (by omega) (hE' 0 (by kernel_rfl)), hJ.vs 11 (by omega) (hE' 11 (by kernel_rfl)), hJ.vs 9 (by omega) (hE' 9 (by kernel_rfl))]; exact hrun)) ?_
      rw [hd12]
      refine hn _ _ ⟨hJ.df, hJ.sz, fun j hj hL => hJ.vs j hj (by simpa [show j ≠ 12 by omega] using hL), hJ.ot, hJ.pk.trans (setO_pk _ _ _), ?_⟩
      rw [setO_get hob]
      rfl
  · intro L a' w' hall hJ
    refine hQ a' w' ?_
    have hob : w'.heap[r]? = some (mapObj (stepM m ([k, v, 0], c))) := by
      have := hJ.ob
      unfold mL at this
      rw [hall 12 (by omega)] at this
      simpa using this
    have h1 := (hs.drew (w.drawn + 1)).set (obs' := [(r, mapObj (stepM m ([k, v, 0], c)))]) (List.mem_singleton.2 rfl) hJ.pk (fun p hp => by
      rw [List.mem_singleton.1 hp]; exact .inr ⟨rfl, hob, rfl⟩)
    refine h1.tmps (D := [16, 17, 18, 19, 20, 21, 22, 23, 24, 25, 26, 27]) hfl (fun d hdm => ⟨hd d ?_ ?_, ?_⟩) hN2 hJ.df hJ.sz (fun n hn => hJ.ot n ?_)
    · simp at hdm; omega
    · simp at hdm; omega
    · rw [hN3]
      have h3d : 3 ≠ d := by simp at hdm; omega
      simp [notIn, beq_ne h3d]
    · simp at hn; omega
  · intro i o ho hL
    simp only [Array.getD_eq_getD_getElem?] at hL
    by_cases hi : i < (opsOf (nav C0 [1, 1, 0, 1, 0, 0, 1, 1, 0, 0, 1])).size
    · simp [hi] at hL
    · simp [hi] at hL
  · refine ⟨hs.sim.defers, rfl, fun i hi hL => ?_, fun n _ => rfl, ⟨rfl, rfl, rfl, rfl, fun _ _ => rfl⟩, ?_⟩
    · simp only [Array.getD_eq_getD_getElem?] at hL
      simp [hsz, show i < 13 by omega] at hL
    · show w.heap[r]? = _
      rw [hr]
      unfold mL
      simp [Array.getD_eq_getD_getElem?, hsz]
end Go.Proofs.Ytopcofkpggefkaa

namespace Go.Proofs.Ytopcofkpggefkaa
open Go

abbrev N1 (r : Nat) : NP := ⟨50, none, [(3, .map (some r))]⟩
def EL (xs : List Item) (i : Int) : Env := [(10, .v .sh (.lst .item xs)), (11, .v .fr (.int .i64 (lenI .item xs))), (12, .v .fr (.int .i64 i))]

theorem wrap_small {x : Int} (h0 : 0 ≤ x) (h1 : x < 9223372036854775808) : IntKind.i64.wrap x = x := by
  have hm : x % (2 ^ 64 : Int) = x := Int.emod_eq_of_lt h0 (by omega)
  have h2 : ¬ x ≥ (2 ^ (64 - 1) : Int) := by
    have : (2 ^ (64 - 1) : Int) = 9223372036854775808 := by decide
    omega
  show (if (true && decide (x % (2 ^ 64 : Int) ≥ (2 ^ (64 - 1) : Int))) = true then _ else x % (2 ^ 64 : Int)) = x
  rw [hm, if_neg (by simpa using h2)]
theorem add_small {x : Int} (h0 : 0 ≤ x) (h1 : x ≤ 1099511627776) : ar .add .i64 x 1 = x + 1 := wrap_small (by omega) (by omega)

theorem keyd_acc (xs : List Item) : Keyd 3 (accM (chI xs)) ∧ ∀ p ∈ accM (chI xs), ∃ k v, p.1 = [k, v, 0] := by
  have key : ∀ (l : List (List Int × Int)) (m : MP), (∀ p ∈ l, ∃ k v, p.1 = [k, v, 0]) → (∀ ks ∈ keysM m, ∃ k v, ks = [k, v, (0 : Int)]) → ∀ ks ∈ keysM (l.foldl stepM m), ∃ k v, ks = [k, v, (0 : Int)] := by
    intro l
    induction l with
    | nil => exact fun m _ h => h
    | cons q r ih =>
      intro m hl hm
      refine ih _ (fun p hp => hl p (by simp [hp])) (fun ks hk => ?_)
      rw [keys_stepM] at hk
      split at hk
      · exact hm ks hk
      · rcases List.mem_append.1 hk with hk | hk
        · exact hm ks hk
        · simp at hk; subst hk; exact hl q (by simp)
  have h2 : ∀ p ∈ accM (chI xs), ∃ k v, p.1 = [k, v, 0] := fun p hp => key (chI xs) [] (fun q hq => by
    obtain ⟨x, _, rfl⟩ := List.mem_map.1 hq
    exact ⟨x.Key, x.Val, rfl⟩) (by simp [keysM]) p.1 (List.mem_map.2 ⟨p, hp, rfl⟩)
  exact ⟨fun p hp => by obtain ⟨k, v, h⟩ := h2 p hp; rw [h]; rfl, h2⟩

theorem acc_take {xs : List Item} {i : Nat} (hi : i < xs.length) : accM (chI (xs.take (i + 1))) = stepM (accM (chI (xs.take i))) (kI (rd .item xs i), (rd .item xs i).Count) := by
  have : xs.take (i + 1) = xs.take i ++ [rd .item xs i] := by
    rw [List.take_succ_eq_append_getElem hi]
    congr 2
    unfold rd
    rw [List.getD_eq_getElem?_getD, show (i : Int).toNat = i from rfl, List.getElem?_eq_getElem hi]
    rfl
  rw [this]
  unfold accM chI
  rw [List.map_append, List.foldl_append]
  rfl

theorem length_putV : ∀ (m : MP) (i : Nat) (v : Int), (putV m i v).length = m.length
  | [], _, _ => rfl
  | _ :: _, 0, _ => rfl
  | p :: r, i + 1, v => by simp [putV, length_putV r i v]
theorem length_stepM (m : MP) (q : List Int × Int) : (stepM m q).length ≤ m.length + 1 := by
  unfold stepM insM
  rw [length_putV]
  split <;> simp
theorem length_accM (l : List (List Int × Int)) : (accM l).length ≤ l.length := by
  unfold accM
  suffices ∀ (l : List (List Int × Int)) (m : MP), (l.foldl stepM m).length ≤ m.length + l.length by simpa using this l []
  intro l
  induction l with
  | nil => exact fun m => Nat.le_refl _
  | cons q r ih =>
    intro m
    have h1 := ih (stepM m q)
    have h2 := length_stepM m q
    simp only [List.foldl_cons, List.length_cons]
    omega

set_option maxRecDepth 20000 in
theorem loop1 {xs : List Item} (hlim : lim (lenI .item xs) 1) {Q : Exit → Act → World → Prop} {B : Nat} {W0 : World} {F0 : Fz} {r : Nat} {a : Act} {w : World} (hs : MS (N1 r) B [] W0 F0 [(r, mapObj [])] (EL xs 0) a w)
    (hQ : ∀ a w, MS (N1 r) B [] W0 F0 [(r, mapObj (accM (chI xs)))] [] a w → Q .normal a w) : (nav C0 [1, 1, 0, 1]).wp Try.prog Q a w := by
  have hlen : (xs.length : Int) ≤ 1099511627775 := by have : lenI .item xs + 1 ≤ 1099511627776 := hlim; unfold lenI at this; omega
  refine wpBlock (c1 := nav C0 [1, 1, 0, 1, 0]) (id := 0) (by kernel_rfl) ?_
  rw [show nav C0 [1, 1, 0, 1, 0] = .loop (nav C0 [1, 1, 0, 1, 0, 0]) by kernel_rfl]
  refine loop_wp (σ := Nat) (fun i a w => i ≤ xs.length ∧ MS (N1 r) B [] W0 F0 [(r, mapObj (accM (chI (xs.take i))))] (EL xs i) a w) (fun i => xs.length - i) ?_ 0 ⟨Nat.zero_le _, hs⟩
  rintro i a w ⟨hi, hs⟩
  refine wpSeq (c1 := nav C0 [1, 1, 0, 1, 0, 0, 0]) (c2 := nav C0 [1, 1, 0, 1, 0, 0, 1]) (by kernel_rfl) ?_
  refine MS.regC gg (keep := [10, 11, 12, 13]) (e' := [(10, .v .sh (.lst .item xs)), (11, .v .fr (.int .i64 (lenI .item xs))), (12, .v .fr (.int .i64 i)), (13, .v .fr (.bool (cmp .lss i (lenI .item xs))))]) (ps := []) (by kernel_rfl) trivial hs (fun a w hs => ?_)
  refine wpSeq (c1 := nav C0 [1, 1, 0, 1, 0, 0, 1, 0]) (c2 := nav C0 [1, 1, 0, 1, 0, 0, 1, 1]) (by kernel_rfl) ?_
  refine wpCondB (o := .tmp 13) (c1 := nav C0 [1, 1, 0, 1, 0, 0, 1, 0, 0]) (c2 := nav C0 [1, 1, 0, 1, 0, 0, 1, 0, 1]) (by kernel_rfl) (hs.bool (k := .fr) rfl) (fun ht => wpSkip (by kernel_rfl) ?_) (fun hf => wpExit (i := 0) (by kernel_rfl) ?_)
  · have hlt : i < xs.length := by
      have : decide ((i : Int) < lenI .item xs) = true := ht
      have := of_decide_eq_true this
      unfold lenI at this
      omega
    show (nav C0 [1, 1, 0, 1, 0, 0, 1, 1]).wp _ _ a w
    refine wpSeq (c1 := nav C0 [1, 1, 0, 1, 0, 0, 1, 1, 0]) (c2 := nav C0 [1, 1, 0, 1, 0, 0, 1, 1, 1]) (by kernel_rfl) ?_
    refine wpBlock (c1 := nav C0 [1, 1, 0, 1, 0, 0, 1, 1, 0, 0]) (id := 1) (by kernel_rfl) ?_
    refine wpSeq (c1 := nav C0 [1, 1, 0, 1, 0, 0, 1, 1, 0, 0, 0]) (c2 := nav C0 [1, 1, 0, 1, 0, 0, 1, 1, 0, 0, 1]) (by kernel_rfl) ?_
    refine MS.regC gg (keep := [5, 10, 11, 12]) (e' := [(5, .box [(.fr, .int .i64 (rd .item xs i).Key), (.fr, .int .i64 (rd .item xs i).Val), (.fr, .int .i64 (rd .item xs i).Count)]), (10, .v .sh (.lst .item xs)), (11, .v .fr (.int .i64 (lenI .item xs))), (12, .v .fr (.int .i64 i))])
      (ps := [inb i (lenI .item xs)]) (by kernel_rfl) ⟨⟨by omega, by unfold lenI; omega⟩, trivial⟩ hs (fun a w hs => ?_)
    refine reg5 hs (by kernel_rfl) ⟨rfl, rfl, rfl⟩ rfl (fun d h1 h2 => ?_) (keyd_acc _).1 (fun a w hs => ?_)
    · rcases (show d = 16 ∨ d = 17 ∨ d = 18 ∨ d = 19 ∨ d = 20 ∨ d = 21 ∨ d = 22 ∨ d = 23 ∨ d = 24 ∨ d = 25 ∨ d = 26 ∨ d = 27 by omega) with rfl | rfl | rfl | rfl | rfl | rfl | rfl | rfl | rfl | rfl | rfl | rfl <;> rfl
    · show (nav C0 [1, 1, 0, 1, 0, 0, 1, 1, 1]).wp _ _ a w
      refine MS.regC gg (keep := [10, 11, 12]) (e' := EL xs (ar .add .i64 i 1)) (ps := []) (by kernel_rfl) trivial hs (fun a w hs => ?_)
      refine ⟨i + 1, by omega, by omega, ?_⟩
      rw [acc_take hlt]
      rw [add_small (by omega) (by omega)] at hs
      exact hs
  · have hge : xs.length ≤ i := by
      have : decide ((i : Int) < lenI .item xs) = false := hf
      have := of_decide_eq_false this
      unfold lenI at this
      omega
    show Exit.inBlock 0 Q (.exit 0) a w
    simp only [Exit.inBlock, if_true]
    refine hQ a w ?_
    rw [List.take_of_length_le hge] at hs
    exact hs.weak (Weak.cast (pat := []) (by kernel_rfl) (by kernel_rfl))
end Go.Proofs.Ytopcofkpggefkaa

namespace Go.Proofs.Ytopcofkpggefkaa
open Go

abbrev N2 (it : Nat) : NP := ⟨50, none, [(31, .pointer (some ⟨it, 0, none⟩))]⟩
def E2 (out : List Item) : Env := [(6, .box [(.acc true, .lst .item out)])]

theorem nodup_le : ∀ {n : Nat} {S : List Nat}, S.Nodup → (∀ i ∈ S, i < n) → S.length ≤ n
  | 0, [], _, _ => Nat.le_refl _
  | 0, i :: r, _, h => absurd (h i (by simp)) (by omega)
  | n + 1, S, hn, h => by
    have h1 : (S.filter fun i => i != n).length ≤ n := nodup_le (hn.sublist List.filter_sublist) (fun i hi => by
      have h2 := List.mem_filter.1 hi
      have h3 := h i h2.1
      have h4 : i ≠ n := by simpa using h2.2
      omega)
    have h2 : ∀ {S : List Nat}, S.Nodup → S.length ≤ (S.filter fun i => i != n).length + 1 := by
      intro S
      induction S with
      | nil => intro _; simp
      | cons i r ih =>
        intro hn
        have hn' := List.nodup_cons.1 hn
        by_cases e : i = n
        · subst e
          have : (r.filter fun j => j != i) = r := List.filter_eq_self.2 (fun j hj => by
            have : j ≠ i := fun e => hn'.1 (e ▸ hj)
            simpa using this)
          simp [this]
        · have := ih hn'.2
          simp [e]
          omega
    have := h2 hn
    omega

theorem outI_snoc (m : MP) (S : List Nat) {i : Nat} {p : List Int × Int} (hp : m[i]? = some p) : outI m (S ++ [i]) = outI m S ++ (if p.2 = 0 then [] else [mkI p]) := by
  unfold outI
  rw [List.map_append, List.filter_append, List.map_append]
  congr 1
  have : m.getD i ([0, 0, 0], 0) = p := by rw [List.getD_eq_getElem?_getD, hp]; rfl
  simp only [List.map_cons, List.map_nil, this]
  by_cases h : p.2 = 0 <;> simp [h]
theorem outI_le (m : MP) (S : List Nat) : (outI m S).length ≤ S.length := by
  unfold outI
  rw [List.length_map]
  exact Nat.le_trans (List.length_filter_le _ _) (by simp)

theorem op9 : (o9 0).op = .next (.tmp 31) false ∧ (o9 0).dst = some 32 ∧ (o9 0).guard = none ∧ (o9 1).op = .extract (.tmp 32) 0 ∧ (o9 1).dst = some 33 ∧ (o9 1).guard = none ∧
    (o10 0).op = .entry (.tmp 31) ∧ (o10 0).dst = some 34 ∧ (o10 0).guard = none ∧ (o10 1).op = .extract (.tmp 34) 0 ∧ (o10 1).dst = some 35 ∧ (o10 1).guard = none ∧ (o10 2).op = .extract (.tmp 34) 1 ∧ (o10 2).dst = some 36 ∧ (o10 2).guard = none := by
  refine ⟨by kernel_rfl, by kernel_rfl, by kernel_rfl, by kernel_rfl, by kernel_rfl, by kernel_rfl, by kernel_rfl, by kernel_rfl, by kernel_rfl, by kernel_rfl, by kernel_rfl, by kernel_rfl, by kernel_rfl, by kernel_rfl, by kernel_rfl⟩
theorem at9 : (opsOf (nav C0 [1, 1, 1, 1, 0, 1, 0, 0, 0]))[0]? = some (o9 0) ∧ (opsOf (nav C0 [1, 1, 1, 1, 0, 1, 0, 0, 0]))[1]? = some (o9 1) ∧ List.range (opsOf (nav C0 [1, 1, 1, 1, 0, 1, 0, 0, 0])).size = [0, 1] := ⟨by kernel_rfl, by kernel_rfl, by kernel_rfl⟩
theorem at10 : (opsOf (nav C0 [1, 1, 1, 1, 0, 1, 0, 0, 1, 1, 0, 0]))[0]? = some (o10 0) ∧ (opsOf (nav C0 [1, 1, 1, 1, 0, 1, 0, 0, 1, 1, 0, 0]))[1]? = some (o10 1) ∧ (opsOf (nav C0 [1, 1, 1, 1, 0, 1, 0, 0, 1, 1, 0, 0]))[2]? = some (o10 2) ∧
    (opsOf (nav C0 [1, 1, 1, 1, 0, 1, 0, 0, 1, 1, 0, 0]))[3]? = some (o10 3) ∧ (opsOf (nav C0 [1, 1, 1, 1, 0, 1, 0, 0, 1, 1, 0, 0]))[4]? = some (o10 4) ∧ (opsOf (nav C0 [1, 1, 1, 1, 0, 1, 0, 0, 1, 1, 0, 0]))[5]? = some (o10 5) ∧
    List.range (opsOf (nav C0 [1, 1, 1, 1, 0, 1, 0, 0, 1, 1, 0, 0])).size = [0, 1, 2, 3, 4, 5] := ⟨by kernel_rfl, by kernel_rfl, by kernel_rfl, by kernel_rfl, by kernel_rfl, by kernel_rfl, by kernel_rfl⟩

set_option maxRecDepth 20000 in
set_option maxHeartbeats 1600000 in
theorem loop2 {m : MP} (hm : ∀ p ∈ m, ∃ k v, p.1 = [k, v, 0]) (hlen : m.length ≤ 1099511627775) {Q : Exit → Act → World → Prop} {B : Nat} {W0 : World} {F0 : Fz} {r it : Nat} (hne : r ≠ it) {a : Act} {w : World}
    (hs : MS (N2 it) B [] W0 F0 [(it, itObj r m []), (r, mapObj m)] (E2 []) a w)
    (hQ : ∀ S a w, S.Nodup → (∀ i ∈ S, i < m.length) → (∀ i, i < m.length → i ∈ S) → MS (N2 it) B [] W0 F0 [] (E2 (outI m S)) a w → Q .normal a w) : (nav C0 [1, 1, 1, 1, 0, 1]).wp Try.prog Q a w := by
  refine wpBlock (c1 := nav C0 [1, 1, 1, 1, 0, 1, 0]) (id := 2) (by kernel_rfl) ?_
  rw [show nav C0 [1, 1, 1, 1, 0, 1, 0] = .loop (nav C0 [1, 1, 1, 1, 0, 1, 0, 0]) by kernel_rfl]
  refine loop_wp (σ := List Nat) (fun S a w => S.Nodup ∧ (∀ i ∈ S, i < m.length) ∧ MS (N2 it) B [] W0 F0 [(it, itObj r m S), (r, mapObj m)] (E2 (outI m S)) a w) (fun S => m.length - S.length) ?_ [] ⟨by simp, by simp, hs⟩
  rintro S a w ⟨hnd, hlt, hs⟩
  obtain ⟨p90, d90, g90, p91, d91, g91, p100, d100, g100, p101, d101, g101, p102, d102, g102⟩ := op9
  have hit := hs.o (r := it) (o := itObj r m S) (by simp)
  have hr := hs.o (r := r) (o := mapObj m) (by simp)
  have h31 : a.tmps.getD 31 undef = .pointer (some ⟨it, 0, none⟩) := hs.k (by simp)
  refine wpSeq (c1 := nav C0 [1, 1, 1, 1, 0, 1, 0, 0, 0]) (c2 := nav C0 [1, 1, 1, 1, 0, 1, 0, 0, 1]) (by kernel_rfl) ?_
  refine wpHand (by kernel_rfl) at9.2.2 ?_
  rw [wpOps_cons]
  refine wpOp_of at9.1 g90 ?_
  rcases next_run (P := Try.prog) hr hit (o9 0).type with ⟨hall, hrun⟩ | ⟨i, p, n, hiS, hp, hrun⟩
  · refine wp_value (exec_next p90 (by rw [h31]; exact hrun)) ?_
    rw [d90, wpOps_cons]
    have h1 := hs.val (d := 32) (by kernel_rfl) (v := .tuple #[.bool false]) (av := .dead) rfl (fun _ _ => trivial)
    refine wpOp_of at9.2.1 g91 ?_
    refine wp_value (exec_extract (vs := #[.bool false]) p91 (h1.k (by simp)) (v := .bool false) (by simp)) ?_
    rw [d91]
    have h2 := h1.val (d := 33) (by kernel_rfl) (v := .bool false) (av := .v .fr (.bool false)) rfl (fun _ _ => RC.bool _)
    refine wpOps_nil _ ?_
    show (nav C0 [1, 1, 1, 1, 0, 1, 0, 0, 1]).wp _ _ _ _
    refine wpSeq (c1 := nav C0 [1, 1, 1, 1, 0, 1, 0, 0, 1, 0]) (c2 := nav C0 [1, 1, 1, 1, 0, 1, 0, 0, 1, 1]) (by kernel_rfl) ?_
    refine wpCondB (o := .tmp 33) (c1 := nav C0 [1, 1, 1, 1, 0, 1, 0, 0, 1, 0, 0]) (c2 := nav C0 [1, 1, 1, 1, 0, 1, 0, 0, 1, 0, 1]) (by kernel_rfl) (h2.bool (k := .fr) (b := false) rfl) (fun ht => by cases ht) (fun hf => wpExit (i := 2) (by kernel_rfl) ?_)
    show Exit.inBlock 2 Q (.exit 2) _ _
    simp only [Exit.inBlock, if_true]
    refine hQ S _ _ hnd hlt hall ?_
    exact (h2.weak (e' := E2 (outI m S)) (Weak.cast (pat := [(6, .same)]) (by kernel_rfl) (by kernel_rfl))).forget rfl rfl (fun p hp => by simp at hp ⊢; simp [hp]) (fun p hp => by simp at hp)
  · obtain ⟨k, v, hkv⟩ := hm p (List.mem_of_getElem? hp)
    obtain ⟨pk, pv⟩ := p
    simp only at hkv hrun
    subst hkv
    have hil : i < m.length := (List.getElem?_eq_some_iff.1 hp).1
    refine wp_value (exec_next p90 (by rw [h31]; exact hrun)) ?_
    rw [d90, wpOps_cons]
    have h0 := (hs.drew n).set (r := it) (o0 := itObj r m S) (by simp) (w' := setO { w with drawn := n } it (itObj r m (S ++ [i]))) (setO_pk _ _ _) (obs' := [(it, itObj r m (S ++ [i])), (r, mapObj m)]) (fun q hq => by
      simp only [List.mem_cons, List.not_mem_nil, or_false] at hq
      rcases hq with rfl | rfl
      · exact .inr ⟨rfl, setO_get hit, rfl⟩
      · exact .inl ⟨by simp, hne⟩)
    have h1 := h0.val (d := 32) (by kernel_rfl) (v := .tuple #[.bool true, kvOf [k, v, 0], .int .i64 pv]) (av := .dead) rfl (fun _ _ => trivial)
    refine wpOp_of at9.2.1 g91 ?_
    refine wp_value (exec_extract (vs := #[.bool true, kvOf [k, v, 0], .int .i64 pv]) p91 (h1.k (by simp)) (v := .bool true) (by simp)) ?_
    rw [d91]
    have h2 := h1.val (d := 33) (by kernel_rfl) (v := .bool true) (av := .v .fr (.bool true)) rfl (fun _ _ => RC.bool _)
    refine wpOps_nil _ ?_
    show (nav C0 [1, 1, 1, 1, 0, 1, 0, 0, 1]).wp _ _ _ _
    refine wpSeq (c1 := nav C0 [1, 1, 1, 1, 0, 1, 0, 0, 1, 0]) (c2 := nav C0 [1, 1, 1, 1, 0, 1, 0, 0, 1, 1]) (by kernel_rfl) ?_
    refine wpCondB (o := .tmp 33) (c1 := nav C0 [1, 1, 1, 1, 0, 1, 0, 0, 1, 0, 0]) (c2 := nav C0 [1, 1, 1, 1, 0, 1, 0, 0, 1, 0, 1]) (by kernel_rfl) (h2.bool (k := .fr) (b := true) rfl) (fun ht => wpSkip (by kernel_rfl) ?_) (fun hf => by cases hf)
    show (nav C0 [1, 1, 1, 1, 0, 1, 0, 0, 1, 1]).wp _ _ _ _
    have h3 : MS (N2 it) B [] W0 F0 [(it, itObj r m (S ++ [i])), (r, mapObj m)] (E2 (outI m S)) _ _ := (h2.weak (e' := E2 (outI m S)) (Weak.cast (pat := [(6, .same)]) (by kernel_rfl) (by kernel_rfl))).forget rfl rfl (fun p hp => by simp at hp ⊢; simp [hp]) (fun p hp => hp)
    clear h0 h1 h2
    generalize (a.put (some 32) _).put (some 33) _ = a3 at h3 ⊢
    generalize setO { w with drawn := n } it (itObj r m (S ++ [i])) = w3 at h3 ⊢
    refine wpBlock (c1 := nav C0 [1, 1, 1, 1, 0, 1, 0, 0, 1, 1, 0]) (id := 3) (by kernel_rfl) ?_
    refine wpSeq (c1 := nav C0 [1, 1, 1, 1, 0, 1, 0, 0, 1, 1, 0, 0]) (c2 := nav C0 [1, 1, 1, 1, 0, 1, 0, 0, 1, 1, 0, 1]) (by kernel_rfl) ?_
    refine wpHand (by kernel_rfl) at10.2.2.2.2.2.2 ?_
    rw [wpOps_cons]
    refine wpOp_of at10.1 g100 ?_
    have hit3 := h3.o (r := it) (o := itObj r m (S ++ [i])) (by simp)
    have hr3 := h3.o (r := r) (o := mapObj m) (by simp)
    have h313 : a3.tmps.getD 31 undef = .pointer (some ⟨it, 0, none⟩) := h3.k (by simp)
    refine wp_value (exec_entry p100 (by rw [h313]; exact entry_run hr3 hit3 hp ⟨S, rfl⟩)) ?_
    rw [d100, wpOps_cons]
    have h4 := h3.val (d := 34) (by kernel_rfl) (v := .tuple #[kvOf [k, v, 0], .int .i64 pv]) (av := .dead) rfl (fun _ _ => trivial)
    refine wpOp_of at10.2.1 g101 ?_
    refine wp_value (exec_extract (vs := #[kvOf [k, v, 0], .int .i64 pv]) p101 (h4.k (by simp)) (v := kvOf [k, v, 0]) (by simp)) ?_
    rw [d101, wpOps_cons]
    have h5 := h4.val (d := 35) (by kernel_rfl) (v := kvOf [k, v, 0]) (av := .agg true [.int .i64 k, .int .i64 v, .int .i64 0]) rfl (fun _ _ => ⟨[.int .i64 k, .int .i64 v, .int .i64 0], rfl, .cons (.int _ _) (.cons (.int _ _) (.cons (.int _ _) .nil))⟩)
    refine wpOp_of at10.2.2.1 g102 ?_
    refine wp_value (exec_extract (vs := #[kvOf [k, v, 0], .int .i64 pv]) p102 (h5.k (by simp)) (v := .int .i64 pv) (by simp)) ?_
    rw [d102]
    have h6 := h5.val (d := 36) (by kernel_rfl) (v := .int .i64 pv) (av := .v .fr (.int .i64 pv)) rfl (fun _ _ => RC.int _ _)
    have h7 : MS (N2 it) B [] W0 F0 [(it, itObj r m (S ++ [i])), (r, mapObj m)] [(6, .box [(.acc true, .lst .item (outI m S))]), (35, .agg true [.int .i64 k, .int .i64 v, .int .i64 0]), (36, .v .fr (.int .i64 pv))] _ _ :=
      (h6.weak (Weak.cast (pat := [(6, .same), (35, .same), (36, .same)]) (by kernel_rfl) (by kernel_rfl))).forget rfl rfl (fun p hp => by simp at hp ⊢; simp [hp]) (fun p hp => hp)
    clear h4 h5 h6
    generalize ((a3.put (some 34) _).put (some 35) _).put (some 36) _ = a7 at h7 ⊢
    refine MS.suf (l := [o10 3, o10 4, o10 5]) (i := 3) gg (keep := [6, 7, 8]) (e' := [(6, .box [(.acc true, .lst .item (outI m S))]), (7, .box [(.fr, .int .i64 k), (.fr, .int .i64 v), (.fr, .int .i64 0)]), (8, .v .fr (.int .i64 pv))]) (ps := [])
      (fun j o hj => by
        match j, hj with
        | 0, hj => simp at hj; subst hj; exact at10.2.2.2.1
        | 1, hj => simp at hj; subst hj; exact at10.2.2.2.2.1
        | 2, hj => simp at hj; subst hj; exact at10.2.2.2.2.2.1
        | j + 3, hj => simp at hj) (by kernel_rfl) (by kernel_rfl) trivial h7 (fun a w hs => ?_)
    show (nav C0 [1, 1, 1, 1, 0, 1, 0, 0, 1, 1, 0, 1]).wp _ _ _ _
    refine wpSeq (c1 := nav C0 [1, 1, 1, 1, 0, 1, 0, 0, 1, 1, 0, 1, 0]) (c2 := nav C0 [1, 1, 1, 1, 0, 1, 0, 0, 1, 1, 0, 1, 1]) (by kernel_rfl) ?_
    refine MS.regC gg (keep := [6, 7, 8, 38]) (e' := [(6, .box [(.acc true, .lst .item (outI m S))]), (7, .box [(.fr, .int .i64 k), (.fr, .int .i64 v), (.fr, .int .i64 0)]), (8, .v .fr (.int .i64 pv)), (38, .v .fr (.bool (cmp .neq pv 0)))]) (ps := []) (by kernel_rfl) trivial hs (fun a w hs => ?_)
    have hnd' : (S ++ [i]).Nodup := List.nodup_append.2 ⟨hnd, by simp, fun x hx y hy e => by simp at hy; subst hy; subst e; exact hiS hx⟩
    have hlt' : ∀ j ∈ S ++ [i], j < m.length := fun j hj => by
      rcases List.mem_append.1 hj with hj | hj
      · exact hlt j hj
      · simp at hj; subst hj; exact hil
    have hmes : m.length - (S ++ [i]).length < m.length - S.length := by
      have := nodup_le hnd' hlt'
      simp at this ⊢
      omega
    have hout := outI_snoc m S hp
    refine wpCondB (o := .tmp 38) (c1 := nav C0 [1, 1, 1, 1, 0, 1, 0, 0, 1, 1, 0, 1, 1, 0]) (c2 := nav C0 [1, 1, 1, 1, 0, 1, 0, 0, 1, 1, 0, 1, 1, 1]) (by kernel_rfl) (hs.bool (k := .fr) rfl) (fun ht => ?_) (fun hf => wpSkip (by kernel_rfl) ?_)
    · have hz : pv ≠ 0 := by
        have : (pv != 0) = true := ht
        simpa using this
      refine wpSeq (c1 := nav C0 [1, 1, 1, 1, 0, 1, 0, 0, 1, 1, 0, 1, 1, 0, 0]) (c2 := nav C0 [1, 1, 1, 1, 0, 1, 0, 0, 1, 1, 0, 1, 1, 0, 1]) (by kernel_rfl) ?_
      refine MS.regC gg (keep := [6, 7]) (e' := [(6, .box [(.acc true, .lst .item (outI m S))]), (7, .box [(.fr, .int .i64 k), (.fr, .int .i64 v), (.fr, .int .i64 pv)])]) (ps := []) (by kernel_rfl) trivial hs (fun a w hs => ?_)
      refine MS.regC gg (keep := [6]) (e' := E2 (outI m S ++ [⟨k, v, pv⟩])) (ps := [lim (lenI .item (outI m S)) (lenI .item [⟨k, v, pv⟩])]) (by kernel_rfl) ⟨?_, trivial⟩ hs (fun a w hs => ?_)
      · have h1 := outI_le m S
        have h2 := nodup_le hnd hlt
        show ((outI m S).length : Int) + 1 ≤ 1099511627776
        omega
      · refine ⟨S ++ [i], hmes, hnd', hlt', ?_⟩
        rw [hout, if_neg hz]
        exact hs
    · have hz : pv = 0 := by
        have : (pv != 0) = false := hf
        simpa using this
      refine ⟨S ++ [i], hmes, hnd', hlt', ?_⟩
      rw [hout, if_pos hz, List.append_nil]
      exact hs.weak (Weak.cast (pat := [(6, .same)]) (by kernel_rfl) (by kernel_rfl))
end Go.Proofs.Ytopcofkpggefkaa

namespace Go.Proofs.Ytopcofkpggefkaa
open Go Go.Sort Go.RowKit Go.Lib

theorem RC.int_inv {F : Fz} {lo : Nat} {w : World} {k : IntKind} {n : Int} {v : Value} (h : RC F lo w (.int k n) v) : v = .int k n := by cases h; rfl

theorem box_facts {N : NP} {B : Nat} {W0 : World} {F0 : Fz} {obs : List (Nat × Obj)} {e : Env} {a : Act} {w : World} {s : Nat} {out : List Item} (hs : MS N B [] W0 F0 obs e a w) (hg : getE e s = .box [(.acc true, .lst .item out)]) :
    ∃ Bs sl, a.tmps.getD s undef = .pointer (some ⟨Bs, 0, none⟩) ∧ Blk w Bs [sl] ∧ B ≤ Bs ∧ ((out = [] ∧ sl = .slice none 0 0) ∨ ∃ blk cap cs, sl = .slice (some ⟨blk, 0, none⟩) out.length cap ∧ Blk w blk cs ∧ cs.length = cap * 3 ∧ out.length ≤ cap ∧ B ≤ blk ∧ blk ≠ Bs ∧
      ∀ i x, out[i]? = some x → ∀ j, j < 3 → cs[i * 3 + j]? = (encI x)[j]?) := by
  obtain ⟨F, ow, hx⟩ := hs.sim.rep
  obtain ⟨Bs, us, htm, how, hblk, _, hlen, hbx⟩ := hx.box hg
  match us, hlen with
  | [sl], _ =>
    have hBs : B ≤ Bs := (hx.bd _ _ _ how).2.elim id (fun h => by simp at h)
    have hb0 : AccR F (lof B true) w (ow s (some 0)) (.lst .item out) sl := hbx 0 _ sl rfl rfl
    obtain ⟨hrc, hd⟩ := hb0
    refine ⟨Bs, sl, htm, hblk, hBs, ?_⟩
    rcases hd with ⟨t, e1, e2⟩ | ⟨t, xs, blk, cap, cs, e1, e2, e3, e4, e5, e6⟩
    · left
      have e1 : C.lst .item out = .lst t [] := e1
      cases e1
      exact ⟨rfl, e2⟩
    · right
      have e1 : C.lst .item out = .lst t xs := e1
      cases e1
      have hbl : B ≤ blk := (hx.bd _ _ _ e3).2.elim id (fun h => by simp at h)
      have hne : blk ≠ Bs := fun e => by
        subst e
        have := (hx.inj _ _ _ _ _ how e3).2
        cases this
      subst e2
      cases hrc with
      | lst _ _ b o cap vs hb hcap hf hc hr =>
        refine ⟨blk, cap, cs, rfl, e4, e5, hcap, hbl, hne, fun i x hi j hj => ?_⟩
        have hil := (List.getElem?_eq_some_iff.1 hi).1
        have h1 := hc i j hil hj
        rw [Nat.zero_add, e4.cell] at h1
        have h1 : cs[i * 3 + j]? = some (vs i j) := h1
        rw [h1]
        have hcl : (cells .item x)[j]? = some ((cells .item x)[j]'(by simp [cells]; exact hj)) := List.getElem?_eq_getElem _
        have h2 := hr i j x _ hi hcl
        rcases (show j = 0 ∨ j = 1 ∨ j = 2 by omega) with rfl | rfl | rfl
        · have h2 : RC F (lof B true) w (.int .i64 x.Key) (vs i 0) := h2
          rw [RC.int_inv h2]; rfl
        · have h2 : RC F (lof B true) w (.int .i64 x.Val) (vs i 1) := h2
          rw [RC.int_inv h2]; rfl
        · have h2 : RC F (lof B true) w (.int .i64 x.Count) (vs i 2) := h2
          rw [RC.int_inv h2]; rfl

theorem holds_of {w : World} {blk cap : Nat} {cs : List Value} {out : List Item} (hb : Blk w blk cs) (hlen : cs.length = cap * 3) (hcs : ∀ i x, out[i]? = some x → ∀ j, j < 3 → cs[i * 3 + j]? = (encI x)[j]?) : HoldsK encI 3 w blk 0 out.toArray := by
  have _ := hlen
  intro t ht
  rw [size_flatK] at ht
  have hi : t / 3 < out.length := by
    have : out.toArray.size = out.length := by simp
    omega
  have hj : t % 3 < 3 := Nat.mod_lt _ (by omega)
  refine ⟨?_, hb.frozen _⟩
  rw [Nat.zero_add, hb.cell, get_flatK _ _ _ _ ht]
  have h1 := hcs (t / 3) out[t / 3] (List.getElem?_eq_getElem hi) (t % 3) hj
  rw [show t / 3 * 3 + t % 3 = t by omega] at h1
  rw [h1]
  have h2 : out.toArray[t / 3]! = out[t / 3] := by simp [hi]
  rw [h2]
  have hl : (encI out[t / 3]).length = 3 := rfl
  rw [List.getElem?_eq_getElem (by omega), getElem!_pos (encI out[t / 3]) (t % 3) (by omega)]
  rfl

theorem grow_heap {w : World} {os : Array Obj} {k : Nat} (h : k < w.heap.size) : (grow w os).heap[k]? = w.heap[k]? := by
  show (w.heap ++ os)[k]? = _
  rw [Array.getElem?_append_left h]
theorem put_heap {w : World} {n blk : Nat} {d : Array Item} {k : Nat} (h : k ≠ blk) : (putRowK encI 3 (Sort.ahead w n) blk 0 d).heap[k]? = w.heap[k]? := by
  show (w.heap.modify blk _)[k]? = _
  rw [Array.getElem?_modify, if_neg (fun e => h e.symm)]
theorem put_size' {w : World} {n blk : Nat} {d : Array Item} : (putRowK encI 3 (Sort.ahead w n) blk 0 d).heap.size = w.heap.size := by
  show (w.heap.modify blk _).size = _
  simp

theorem sorted_back {N : NP} {B : Nat} {W0 : World} {F0 : Fz} {obs : List (Nat × Obj)} {e : Env} {a a' : Act} {w : World} {s : Nat} {out ys : List Item} (hs : MS N B [] W0 F0 obs e a w) (hL : Live F0 W0) {Bs blk cap : Nat} {cs : List Value}
    (hB : Blk w Bs [.slice (some ⟨blk, 0, none⟩) out.length cap]) (hBs : B ≤ Bs) (hb : Blk w blk cs) (hlen : cs.length = cap * 3) (hcap : out.length ≤ cap) (hbl : B ≤ blk) (hne : blk ≠ Bs) (hH : HoldsK encI 3 w blk 0 out.toArray)
    (hy : ys.length = out.length) {n : Nat} {os : Array Obj} (hdf : a'.defers = []) (hsz : a'.tmps.size = N.n) (htm : a'.tmps.getD s undef = .pointer (some ⟨Bs, 0, none⟩)) :
    MS ⟨N.n, none, []⟩ B [] W0 F0 [] [(s, .box [(.acc true, .lst .item ys)])] a' (grow (putRowK encI 3 (Sort.ahead w n) blk 0 ys.toArray) os) := by
  generalize hw : grow (putRowK encI 3 (Sort.ahead w n) blk 0 ys.toArray) os = w'
  have hpsz : (putRowK encI 3 (Sort.ahead w n) blk 0 ys.toArray).heap.size = w.heap.size := put_size'
  have hold : ∀ k, k < w.heap.size → k ≠ blk → w'.heap[k]? = w.heap[k]? := fun k hk h => by rw [← hw, grow_heap (by rw [hpsz]; exact hk), put_heap h]
  have hsize : w.heap.size ≤ w'.heap.size := by rw [← hw]; show w.heap.size ≤ (_ ++ os).size; rw [Array.size_append, hpsz]; omega
  have hy' : ys.toArray.size = out.toArray.size := by simp [hy]
  have hHy : HoldsK encI 3 (putRowK encI 3 (Sort.ahead w n) blk 0 ys.toArray) blk 0 ys.toArray := holdsK_putRowK _ _ _ blk 0 out.toArray ys.toArray (holdsK_ahead _ _ _ _ _ _ _ hH) hy'
  have hcell : ∀ i x, ys[i]? = some x → ∀ j, j < 3 → w'.cell? ⟨blk, i * 3 + j, none⟩ = (encI x)[j]? := by
    intro i x hi j hj
    have hil := (List.getElem?_eq_some_iff.1 hi).1
    have h1 := (hHy.cell (i := i) (c := j) (by simpa using hil) hj).1
    rw [Nat.zero_add] at h1
    have h2 : w'.cell? ⟨blk, i * 3 + j, none⟩ = (putRowK encI 3 (Sort.ahead w n) blk 0 ys.toArray).cell? ⟨blk, i * 3 + j, none⟩ := by
      rw [← hw]
      exact cell_of_heap (grow_heap (by rw [hpsz]; exact hb.lt))
    rw [h2, h1]
    have h3 : ys.toArray[i]! = x := by
      rw [List.getElem?_eq_getElem hil] at hi
      simp only [Option.some.injEq] at hi
      simp [hil, hi]
    rw [h3]
    have hl : (encI x).length = 3 := rfl
    rw [List.getElem?_eq_getElem (by omega), getElem!_pos (encI x) j (by omega)]
  have hblk' : ∃ cs', Blk w' blk cs' ∧ cs'.length = cap * 3 := by
    obtain ⟨t, ht⟩ := hb
    refine ⟨(putCells id 0 (flatK encI 3 ys.toArray) cs.toArray).toList, ⟨t, ?_⟩, by simp [putCells, hlen]⟩
    rw [← hw, grow_heap (by rw [hpsz]; exact (Array.getElem?_eq_some_iff.1 ht).1)]
    show (w.heap.modify blk _)[blk]? = _
    rw [Array.getElem?_modify, if_pos rfl, ht]
    simp [onCells]
  obtain ⟨cs', hblk', hcs'⟩ := hblk'
  have hBs' : Blk w' Bs [.slice (some ⟨blk, 0, none⟩) out.length cap] := hB.same (hold Bs hB.lt (Ne.symm hne))
  have hlow : ∀ k, k < B → w'.heap[k]? = W0.heap[k]? := fun k hk => by
    rw [hold k (Nat.lt_of_lt_of_le hk hs.sim.base) (by omega)]
    exact hs.kept.block k hk (by simp)
  have hkept : Kept B [] W0 w' := by
    refine ⟨?_, ?_, ?_, Nat.le_trans hs.kept.size hsize, fun k hk _ => hlow k hk, fun k o hk hc => ?_⟩
    · rw [← hw]; exact hs.kept.os
    · rw [← hw]; exact hs.kept.tape
    · rw [← hw]; exact hs.kept.output
    · rw [hlow k (by rw [hs.hB]; exact (Array.getElem?_eq_some_iff.1 hk).1)]; exact hk
  have hF0 : ∀ b o, F0 b o → b < B := fun b o h => by rw [hs.hB]; exact hL.lt h
  let F' : Fz := fun b o => F0 b o ∨ (b = blk ∧ o < out.length * 3)
  refine ⟨⟨hdf, ⟨hsz, (fun s h => by cases h), (fun p h => by cases h)⟩, Nat.le_trans hs.sim.base hsize, fun b o h => ⟨hF0 b o h, by simp⟩, Kept.refl _ _ _, F',
    fun n i => if n = s then (match i with | none => some Bs | some 0 => some blk | some _ => none) else none, ?_⟩, hkept, (fun p h => by cases h), hs.hB⟩
  refine ⟨fun b o h => .inl h, fun b o h => h.imp_right (fun h => by omega), fun b o h => ?_, fun s1 i1 s2 i2 b h1 h2 => ?_, fun s1 i1 b h1 => ?_, fun n => ?_⟩
  · rcases h with h | ⟨rfl, h⟩
    · rw [cell_of_heap (hlow b (hF0 b o h))]; exact hL b o h
    · have hi : o / 3 < ys.length := by omega
      have := hcell (o / 3) ys[o / 3] (List.getElem?_eq_getElem hi) (o % 3) (Nat.mod_lt _ (by omega))
      rw [show o / 3 * 3 + o % 3 = o by omega] at this
      rw [this, List.getElem?_eq_getElem (by show _ < 3; omega)]
      rfl
  · by_cases e1 : s1 = s <;> by_cases e2 : s2 = s <;> simp only [e1, e2, if_true, if_false] at h1 h2
    · refine ⟨by rw [e1, e2], ?_⟩
      match i1, i2, h1, h2 with
      | none, none, _, _ => rfl
      | none, some 0, h1, h2 => simp at h1 h2; omega
      | some 0, none, h1, h2 => simp at h1 h2; omega
      | some 0, some 0, _, _ => rfl
      | some (_ + 1), _, h1, _ => simp at h1
      | none, some (_ + 1), _, h2 => simp at h2
      | some 0, some (_ + 1), _, h2 => simp at h2
    · simp at h2
    · simp at h1
    · simp at h1
  · by_cases e1 : s1 = s
    · simp only [e1, if_true] at h1
      match i1, h1 with
      | none, h1 => simp at h1; subst h1; exact ⟨hBs'.lt, .inl hBs⟩
      | some 0, h1 => simp at h1; subst h1; exact ⟨hblk'.lt, .inl hbl⟩
      | some (_ + 1), h1 => simp at h1
    · simp [e1] at h1
  · simp only [getE]
    cases hn : Nat.beq s n with
    | false => trivial
    | true =>
      have := Nat.eq_of_beq_eq_true hn
      subst this
      refine ⟨Bs, [.slice (some ⟨blk, 0, none⟩) out.length cap], htm, by simp, hBs', fun o h => ?_, rfl, fun j kc u hk hu => ?_⟩
      · rcases h with h | ⟨h, _⟩
        · have := hF0 _ _ h; omega
        · exact hne h.symm
      · match j, hk, hu with
        | 0, hk, hu =>
          simp only [List.getElem?_cons_zero, Option.some.injEq] at hk hu
          subst hk
          subst hu
          simp only [if_true]
          rw [← hy]
          refine ⟨.lst .item ys blk 0 cap (fun i j => (encI (ys.getD i ⟨0, 0, 0⟩)).getD j undef) hbl (by omega) (fun i j hi hj => .inr ⟨rfl, by rw [Nat.zero_add, ← hy]; exact idx_lt hi hj⟩) (fun i j hi hj => ?_) (fun i j x c hx hc => ?_),
            .inr ⟨.item, ys, blk, cap, cs', rfl, rfl, rfl, hblk', hcs', fun o ho h => ?_⟩⟩
          · have hj : j < 3 := hj
            have h1 := hcell i ys[i] (List.getElem?_eq_getElem hi) j hj
            show w'.cell? ⟨blk, 0 + (i * 3 + j), none⟩ = _
            rw [Nat.zero_add, h1]
            have hl : (encI ys[i]).length = 3 := rfl
            rw [List.getElem?_eq_getElem (by omega)]
            simp [List.getD_eq_getElem?_getD, List.getElem?_eq_getElem hi, List.getElem?_eq_getElem (show j < (encI ys[i]).length by omega)]
          · have hv : ys.getD i ⟨0, 0, 0⟩ = x := by rw [List.getD_eq_getElem?_getD, hx]; rfl
            rw [hv]
            have hj : j < 3 := by
              have := (List.getElem?_eq_some_iff.1 hc).1
              simpa [cells] using this
            rcases (show j = 0 ∨ j = 1 ∨ j = 2 by omega) with rfl | rfl | rfl <;> (simp [cells] at hc; subst hc; exact RC.int _ _)
          · rcases h with h | ⟨_, h⟩
            · have := hF0 _ _ h; omega
            · have ho : ys.length * 3 ≤ o := ho
              omega
        | j + 1, hk, hu => simp at hk

theorem out_eq {xs : List Item} {S : List Nat} (hnd : S.Nodup) (hlt : ∀ i ∈ S, i < (accM (chI xs)).length) (hall : ∀ i, i < (accM (chI xs)).length → i ∈ S) {ys : List Item} (hp : ys.Perm (outI (accM (chI xs)) S))
    (hso : ∀ i j, i < j → j < ys.length → ltI (ys.getD j ⟨0, 0, 0⟩) (ys.getD i ⟨0, 0, 0⟩) = false) : ys = gathI xs := by
  have hm := keyd_acc xs
  generalize hM : accM (chI xs) = m at hlt hall hp hm
  have hnm : (keysM m).Nodup := by rw [← hM]; exact nodup_accM _
  -- what was walked over is all
  have hS : S.Perm (List.range m.length) := (List.perm_ext_iff_of_nodup hnd List.nodup_range).2 fun i => ⟨fun h => List.mem_range.2 (hlt i h), fun h => hall i (List.mem_range.1 h)⟩
  have hmap : (List.range m.length).map (fun i => m.getD i (([0, 0, 0] : List Int), (0 : Int))) = m := by
    apply List.ext_getElem?
    intro i
    rw [List.getElem?_map]
    by_cases h : i < m.length
    · rw [List.getElem?_range h]
      simp [List.getD_eq_getElem?_getD, List.getElem?_eq_getElem h]
    · rw [List.getElem?_eq_none (by simpa using h), List.getElem?_eq_none (by omega)]
      rfl
  have hp2 : ys.Perm ((m.filter fun p => p.2 != 0).map mkI) := by
    refine hp.trans ?_
    unfold outI
    have := ((hS.map fun i => m.getD i (([0, 0, 0] : List Int), (0 : Int))).filter fun p => p.2 != 0).map mkI
    rw [hmap] at this
    exact this
  have hback : ∀ p ∈ m, (kI (mkI p), (mkI p).Count) = p := fun p hp => by
    obtain ⟨k, v, h⟩ := hm.2 p hp
    obtain ⟨ks, c⟩ := p
    simp only at h
    subst h
    rfl
  have hp3 : (ys.map fun x => (kI x, x.Count)).Perm (m.filter fun p => p.2 != 0) := by
    have h1 := hp2.map fun x => (kI x, x.Count)
    have h2 : ((m.filter fun p => p.2 != 0).map mkI).map (fun x => (kI x, x.Count)) = m.filter fun p => p.2 != 0 := by
      rw [List.map_map]
      conv => rhs; rw [← List.map_id (m.filter fun p => p.2 != 0)]
      exact List.map_congr_left (fun p hp => hback p (List.mem_filter.1 hp).1)
    rw [h2] at h1
    exact h1
  have hnd3 : (keysM (ys.map fun x => (kI x, x.Count))).Nodup := by
    have h1 : (keysM (m.filter fun p => p.2 != 0)).Nodup := hnm.sublist (List.Sublist.map _ List.filter_sublist)
    exact (hp3.map (fun p : List Int × Int => p.1)).nodup_iff.2 h1
  have hasc : Asc (ys.map fun x => (kI x, x.Count)) := by
    refine List.pairwise_iff_getElem.2 ?_
    intro i j hi hj hij
    simp only [List.length_map] at hi hj
    simp only [List.getElem_map]
    have h1 := hso i j hij hj
    rw [List.getD_eq_getElem?_getD, List.getD_eq_getElem?_getD, List.getElem?_eq_getElem hi, List.getElem?_eq_getElem hj] at h1
    simp only [Option.getD_some] at h1
    have hne : kI ys[i] ≠ kI ys[j] := by
      intro e
      have h2 : (keysM (ys.map fun x => (kI x, x.Count)))[i]'(by simp [keysM]; exact hi) = (keysM (ys.map fun x => (kI x, x.Count)))[j]'(by simp [keysM]; exact hj) := by simpa [keysM] using e
      exact absurd h2 (List.pairwise_iff_getElem.1 hnd3 i j (by simp [keysM]; exact hi) (by simp [keysM]; exact hj) hij)
    simp only [ltI, Bool.or_eq_false_iff, Bool.and_eq_false_iff, decide_eq_false_iff_not] at h1
    have hne' : ¬ (ys[i].Key = ys[j].Key ∧ ys[i].Val = ys[j].Val) := fun ⟨a, b⟩ => hne (by simp [kI, a, b])
    simp only [kI, ltK, Bool.or_eq_true, Bool.and_eq_true, decide_eq_true_eq]
    omega
  have hg : (ys.map fun x => (kI x, x.Count)) = gathM (chI xs) := by
    unfold gathM
    rw [hM]
    have hpp := hp3.trans (sortM_perm (m.filter fun p => p.2 != 0)).symm
    refine asc_eq hpp hasc (sortM_asc (n := 3) (hnm.sublist (List.Sublist.map _ List.filter_sublist)) (fun p hp => hm.1 p (List.mem_filter.1 hp).1))
  unfold gathI
  rw [← hg, List.map_map]
  conv => lhs; rw [← List.map_id ys]
  exact List.map_congr_left (fun x _ => by cases x; rfl)
end Go.Proofs.Ytopcofkpggefkaa

namespace Go.Proofs.Ytopcofkpggefkaa
open Go Go.Sort Go.RowKit Go.Lib

theorem op14 : (o14 0).op = .load 44 (.tmp 6) ∧ (o14 0).dst = some 45 ∧ (o14 0).guard = none ∧ (o14 1).op = .makeInterface 44 (.tmp 45) ∧ (o14 1).dst = some 46 ∧ (o14 1).guard = none ∧
    (o14 2).op = .makeFunc (.func 135) #[] #[.tmp 6] ∧ (o14 2).dst = some 47 ∧ (o14 2).guard = none ∧ (o14 3).op = .call ⟨.value (.func 134), #[.tmp 46, .tmp 47], #[20, 136]⟩ ∧ (o14 3).dst = some 48 ∧ (o14 3).guard = none := by
  refine ⟨by kernel_rfl, by kernel_rfl, by kernel_rfl, by kernel_rfl, by kernel_rfl, by kernel_rfl, by kernel_rfl, by kernel_rfl, by kernel_rfl, by kernel_rfl, by kernel_rfl, by kernel_rfl⟩
theorem at14 : (opsOf (nav C0 [1, 1, 1, 1, 1, 0]))[0]? = some (o14 0) ∧ (opsOf (nav C0 [1, 1, 1, 1, 1, 0]))[1]? = some (o14 1) ∧ (opsOf (nav C0 [1, 1, 1, 1, 1, 0]))[2]? = some (o14 2) ∧ (opsOf (nav C0 [1, 1, 1, 1, 1, 0]))[3]? = some (o14 3) ∧
    List.range (opsOf (nav C0 [1, 1, 1, 1, 1, 0])).size = [0, 1, 2, 3] := ⟨by kernel_rfl, by kernel_rfl, by kernel_rfl, by kernel_rfl, by kernel_rfl⟩
noncomputable def fnS : Func := (Try.prog.funcs[134]?).getD default
theorem fnS_ok : Try.prog.funcs[134]? = some fnS ∧ (fnS.name == "runtime.NumGoroutine") = false ∧ fnS.body.isNone = false := ⟨by kernel_rfl, by kernel_rfl, by kernel_rfl⟩
theorem tdT : TDok Try.prog 44 ⟨.slice 64, 1, [.nl .item], none, false⟩ := ttg_ok.td _ _ (by kernel_rfl)

theorem exec_call2 {P : Program} {a : Act} {w : World} {o : Oper} {f x y t u : Nat} {fn : Func} (hop : o.op = .call ⟨.value (.func f), #[.tmp x, .tmp y], #[t, u]⟩) (hfn : P.funcs[f]? = some fn) (hname : (fn.name == "runtime.NumGoroutine") = false) (hbody : fn.body.isNone = false) :
    (execOp a.eval o).run P w = .ok (.enter f #[a.tmps.getD x undef, a.tmps.getD y undef]) w := by
  obtain ⟨dst, op, ty, pos, aft, gd⟩ := o
  simp only [] at hop
  subst hop
  have hname' : ¬ fn.name = "runtime.NumGoroutine" := by simpa using hname
  have hbody' : ¬ fn.body = none := by intro e; rw [e] at hbody; simp at hbody
  simp [execOp, resolve, Act.eval, Deferred.ofValue, invoke, callFunc, hfn, hname', hbody']

theorem load_slice {a : Act} {w : World} {o : Oper} (hop : o.op = .load 44 (.tmp 6)) {Bs : Nat} {sl : Value} (hx : a.tmps.getD 6 undef = .pointer (some ⟨Bs, 0, none⟩)) (hb : Blk w Bs [sl]) : (execOp a.eval o).run Try.prog w = .ok (.value sl) w :=
  exec_load hop hx tdT rfl (by rw [hb.cell]; rfl)

set_option maxRecDepth 20000 in
theorem sorting {out : List Item} (hlen : out.length ≤ 1099511627776) {Q : Exit → Act → World → Prop} {B : Nat} {W0 : World} {F0 : Fz} (hL : Live F0 W0) {a : Act} {w : World} (hs : MS ⟨50, none, []⟩ B [] W0 F0 [] (E2 out) a w)
    (hQ : ∀ ys a w, ys.Perm out → (∀ i j, i < j → j < ys.length → ltI (ys.getD j ⟨0, 0, 0⟩) (ys.getD i ⟨0, 0, 0⟩) = false) → MS ⟨50, none, []⟩ B [] W0 F0 [] (E2 ys) a w → Q .normal a w) : (nav C0 [1, 1, 1, 1, 1, 0]).wp Try.prog Q a w := by
  obtain ⟨p0, d0, g0, p1, d1, g1, p2, d2, g2, p3, d3, g3⟩ := op14
  obtain ⟨Bs, sl, h6, hB, hBs, hcase⟩ := box_facts (s := 6) hs rfl
  have hsz : a.tmps.size = 50 := hs.sim.tmps.size
  refine wpHand (by kernel_rfl) at14.2.2.2.2 ?_
  rw [wpOps_cons]
  refine wpOp_of at14.1 g0 ?_
  refine wp_value (load_slice p0 h6 hB) ?_
  rw [d0, wpOps_cons]
  refine wpOp_of at14.2.1 g1 ?_
  refine wp_value (exec_makeInterface p1 (e := 64) (by kernel_rfl)) ?_
  rw [d1, wpOps_cons]
  refine wpOp_of at14.2.2.1 g2 ?_
  refine wp_value (exec_makeFunc p2) ?_
  rw [d2, wpOps_cons]
  refine wpOp_of at14.2.2.2.1 g3 ?_
  have e45 : (a.put (some 45) sl).tmps.getD 45 undef = sl := by rw [getD_set a 45 sl (by omega), if_pos rfl]
  rw [e45]
  generalize ha1 : a.put (some 45) sl = a1
  have s1 : a1.tmps.size = 50 := by rw [← ha1, put_size, hsz]
  have t1 : a1.tmps.getD 6 undef = .pointer (some ⟨Bs, 0, none⟩) := by rw [← ha1, getD_set a 45 sl (by omega), if_neg (by omega)]; exact h6
  have df1 : a1.defers = [] := by rw [← ha1]; exact hs.sim.defers
  generalize ha2 : a1.put (some 46) (.iface 44 sl) = a2
  have s2 : a2.tmps.size = 50 := by rw [← ha2, put_size, s1]
  have t2 : a2.tmps.getD 6 undef = .pointer (some ⟨Bs, 0, none⟩) := by rw [← ha2, getD_set a1 46 _ (by omega), if_neg (by omega)]; exact t1
  have v2 : a2.tmps.getD 46 undef = .iface 44 sl := by rw [← ha2, getD_set a1 46 _ (by omega), if_pos rfl]
  have df2 : a2.defers = [] := by rw [← ha2]; exact df1
  rw [t2]
  generalize ha3 : a2.put (some 47) (.func (.func 135) #[] #[.pointer (some ⟨Bs, 0, none⟩)]) = a3
  have s3 : a3.tmps.size = 50 := by rw [← ha3, put_size, s2]
  have t3 : a3.tmps.getD 6 undef = .pointer (some ⟨Bs, 0, none⟩) := by rw [← ha3, getD_set a2 47 _ (by omega), if_neg (by omega)]; exact t2
  have v3 : a3.tmps.getD 46 undef = .iface 44 sl := by rw [← ha3, getD_set a2 47 _ (by omega), if_neg (by omega)]; exact v2
  have u3 : a3.tmps.getD 47 undef = .func (.func 135) #[] #[.pointer (some ⟨Bs, 0, none⟩)] := by rw [← ha3, getD_set a2 47 _ (by omega), if_pos rfl]
  have df3 : a3.defers = [] := by rw [← ha3]; exact df2
  unfold Oper.wp
  rw [exec_call2 p3 fnS_ok.1 fnS_ok.2.1 fnS_ok.2.2, Oper.upon_enter, v3, u3]
  have s4 : ∀ v, (a3.put (some 48) v).tmps.size = 50 := fun v => by rw [put_size, s3]
  have t4 : ∀ v, (a3.put (some 48) v).tmps.getD 6 undef = .pointer (some ⟨Bs, 0, none⟩) := fun v => by rw [getD_set a3 48 _ (by omega), if_neg (by omega)]; exact t3
  rcases hcase with ⟨rfl, rfl⟩ | ⟨blk, cap, cs, rfl, hb, hcl, hcap, hbl, hne, hcs⟩
  · have hK : Try.prog.funcs.findIdx? (·.name == "internal/reflectlite" ++ ".Swapper$" ++ toString (Lib.swapperK 0 svE 25)) = some 158 := by
      rw [show Lib.swapperK 0 svE 25 = 1 by kernel_rfl]; kernel_rfl
    refine (Any.sort_Slice_tiny sl6 44 64 svT svE (by kernel_rfl) (by kernel_rfl) (by kernel_rfl) (by kernel_rfl) 25 (fun _ => by kernel_rfl) none 0 0 (by omega) 158 hK (.func 135) #[] _ w).mono ?_
    rintro e w' ⟨rfl, os, rfl⟩
    show wpOps _ _ _ _ _ _
    rw [d3]
    refine wpOps_nil _ (hQ [] _ _ (.refl _) (fun i j _ h => by simp at h) ?_)
    have hg : Grow (fun _ _ => False) w (fun _ _ => False) (grow w os) := ⟨rfl, rfl, rfl, by show w.heap.size ≤ (w.heap ++ os).size; simp, fun k hk => grow_heap hk, fun _ _ h => h, fun _ _ h => .inl h⟩
    obtain ⟨F, ow, hx⟩ := hs.sim.rep
    have hx' : SimX B [] F0 (E2 []) (fun n => a.tmps.getD n undef) (grow w os) F ow := hx.grow hs.sim.base ⟨hg.os, hg.tape, hg.output, hg.size, hg.block, fun _ _ h => h, fun _ _ h => .inl h⟩ (fun b o h => by
      rw [cell_of_heap (grow_heap ((show Live F w from hx.live).lt h))]; exact hx.live b o h)
    have hsim : Sim ⟨50, none, []⟩ B [] w F0 (E2 []) a (grow w os) := ⟨hs.sim.defers, hs.sim.tmps, hs.sim.base, hs.sim.f0, ⟨rfl, rfl, rfl, hg.size, fun k hk _ => grow_heap (Nat.lt_of_lt_of_le hk hs.sim.base), fun k o hk _ => by
      rw [grow_heap (Array.getElem?_eq_some_iff.1 hk).1]; exact hk⟩, F, ow, hx'⟩
    have hms := hs.of_sim hsim
    refine hms.tmps (D := [45, 46, 47, 48]) (by kernel_rfl) (fun d hd => ?_) rfl (by rw [show (a3.put (some 48) _).defers = a3.defers from rfl]; exact df3) (by rw [s4, hsz]) (fun n hn => ?_)
    · simp at hd
      rcases hd with rfl | rfl | rfl | rfl <;> exact ⟨rfl, rfl⟩
    · simp at hn
      rw [getD_set a3 48 _ (by omega), if_neg (by omega), ← ha3, getD_set a2 47 _ (by omega), if_neg (by omega), ← ha2, getD_set a1 46 _ (by omega), if_neg (by omega), ← ha1, getD_set a 45 _ (by omega), if_neg (by omega)]
  · have hH := holds_of hb hcl hcs
    have hd : out.toArray.size = out.length := by simp
    have hsort := sortI blk 0 cap Bs out.toArray (by rw [hd]; omega) w hH hb.lt (by rw [hd, hB.cell]; rfl) hB.lt (Ne.symm hne)
    rw [hd] at hsort
    refine hsort.mono ?_
    rintro e w' ⟨rfl, d', n, os, hp, hso, rfl⟩
    show wpOps _ _ _ _ _ _
    rw [d3]
    have hp : d'.toList.Perm out := by simpa using hp
    have hback := sorted_back (a' := a3.put (some 48) (.tuple #[])) (s := 6) (ys := d'.toList) (n := n) (os := os) hs hL hB hBs hb hcl hcap hbl hne hH hp.length_eq df3 (s4 _) (t4 _)
    rw [Array.toArray_toList] at hback
    refine wpOps_nil _ (hQ d'.toList _ _ hp (fun i j hij hj => ?_) hback)
    have hj' : j < d'.size := by simpa using hj
    have := hso i j hij hj'
    rw [getElem!_pos d' j hj', getElem!_pos d' i (by omega)] at this
    rw [List.getD_eq_getElem?_getD, List.getD_eq_getElem?_getD, List.getElem?_eq_getElem hj, List.getElem?_eq_getElem (show i < d'.toList.length by simp; omega)]
    simpa using this
end Go.Proofs.Ytopcofkpggefkaa

namespace Go.Proofs.Ytopcofkpggefkaa
open Go

theorem op1 : (o1 0).op = .makeMap 134 none ∧ (o1 0).dst = some 9 ∧ (o1 0).guard = none ∧ (o1 1).op = .assign (.tmp 9) ∧ (o1 1).dst = some 3 ∧ (o1 1).guard = none ∧
    (o8 0).op = .move (.tmp 3) ∧ (o8 0).dst = some 30 ∧ (o8 0).guard = none ∧ (o8 1).op = .range 134 (.tmp 30) ∧ (o8 1).dst = some 31 ∧ (o8 1).guard = none := by
  refine ⟨by kernel_rfl, by kernel_rfl, by kernel_rfl, by kernel_rfl, by kernel_rfl, by kernel_rfl, by kernel_rfl, by kernel_rfl, by kernel_rfl, by kernel_rfl, by kernel_rfl, by kernel_rfl⟩
theorem at1 : (opsOf (nav C0 [1, 0]))[0]? = some (o1 0) ∧ (opsOf (nav C0 [1, 0]))[1]? = some (o1 1) ∧ List.range (opsOf (nav C0 [1, 0])).size = [0, 1] ∧
    (opsOf (nav C0 [1, 1, 1, 1, 0, 0]))[0]? = some (o8 0) ∧ (opsOf (nav C0 [1, 1, 1, 1, 0, 0]))[1]? = some (o8 1) ∧ List.range (opsOf (nav C0 [1, 1, 1, 1, 0, 0])).size = [0, 1] := ⟨by kernel_rfl, by kernel_rfl, by kernel_rfl, by kernel_rfl, by kernel_rfl, by kernel_rfl⟩

set_option maxRecDepth 20000 in
set_option maxHeartbeats 800000 in
theorem con_impl_gathered : Con Try.prog 107 s_impl_gathered := by
  refine con_of ttg_ok (fn := Try.f107) (c := C0) (by kernel_rfl) (by kernel_rfl) (by kernel_rfl) (rs := [.tmp 2]) (by kernel_rfl) (by kernel_rfl) (fun _ => rfl) ?_
  intro x hx fr hfB hfL hIO a w hs
  obtain ⟨B, IoB, W0, F0⟩ := fr
  have hIO : IoB = [] := hIO rfl
  subst hIO
  obtain ⟨xs, u⟩ := x
  have hlim : lim (lenI .item xs) 1 := hx
  obtain ⟨p0, d0, g0, p1, d1, g1, p80, d80, g80, p81, d81, g81⟩ := op1
  have hms : MS ⟨50, none, []⟩ B [] W0 F0 [] [(0, .v .sh (.lst .item xs))] a w := (MS.of hs hfB).forget (by kernel_rfl) rfl (fun p h => by cases h) (fun p h => by cases h)
  refine wpSeq (c1 := nav C0 [0]) (c2 := nav C0 [1]) (by kernel_rfl) ?_
  refine MS.regC gg (keep := [0]) (e' := [(0, .v .sh (.lst .item xs))]) (ps := []) (by kernel_rfl) trivial hms (fun a w hs => ?_)
  refine wpSeq (c1 := nav C0 [1, 0]) (c2 := nav C0 [1, 1]) (by kernel_rfl) ?_
  refine wpHand (by kernel_rfl) at1.2.2.1 ?_
  rw [wpOps_cons]
  refine wpOp_of at1.1 g0 ?_
  refine wp_value (exec_makeMap p0) ?_
  rw [d0, wpOps_cons]
  have h1 := hs.alloc (d := 9) (by kernel_rfl) (v := .map (some w.heap.size)) (o := .map #[] 0) rfl
  refine wpOp_of at1.2.1 g1 ?_
  refine wp_value (exec_assign p1) ?_
  rw [d1, h1.k (s := 9) (v := .map (some w.heap.size)) (by simp)]
  have h2 := h1.val (d := 3) (by kernel_rfl) (v := .map (some w.heap.size)) (av := .dead) rfl (fun _ _ => trivial)
  have h3 : MS (N1 w.heap.size) B [] W0 F0 [(w.heap.size, mapObj [])] [(0, .v .sh (.lst .item xs))] _ _ := (h2.weak (Weak.cast (pat := [(0, .same)]) (by kernel_rfl) (by kernel_rfl))).forget rfl rfl (fun p hp => by simp at hp ⊢; simp [hp]) (fun p hp => hp)
  generalize w.heap.size = r at h3
  clear h1 h2
  refine wpOps_nil _ ?_
  show (nav C0 [1, 1]).wp _ _ _ _
  generalize w.alloc (.map #[] 0) = w1 at h3 ⊢
  generalize (a.put (some 9) _).put (some 3) _ = a1 at h3 ⊢
  refine wpSeq (c1 := nav C0 [1, 1, 0]) (c2 := nav C0 [1, 1, 1]) (by kernel_rfl) ?_
  refine wpSeq (c1 := nav C0 [1, 1, 0, 0]) (c2 := nav C0 [1, 1, 0, 1]) (by kernel_rfl) ?_
  refine MS.regC gg (keep := [10, 11, 12]) (e' := EL xs 0) (ps := []) (by kernel_rfl) trivial h3 (fun a w hs => ?_)
  refine loop1 hlim hs (fun a w hs => ?_)
  show (nav C0 [1, 1, 1]).wp _ _ a w
  refine wpSeq (c1 := nav C0 [1, 1, 1, 0]) (c2 := nav C0 [1, 1, 1, 1]) (by kernel_rfl) ?_
  refine MS.regC gg (keep := [6]) (e' := E2 []) (ps := []) (by kernel_rfl) trivial hs (fun a w hs => ?_)
  refine wpSeq (c1 := nav C0 [1, 1, 1, 1, 0]) (c2 := nav C0 [1, 1, 1, 1, 1]) (by kernel_rfl) ?_
  refine wpSeq (c1 := nav C0 [1, 1, 1, 1, 0, 0]) (c2 := nav C0 [1, 1, 1, 1, 0, 1]) (by kernel_rfl) ?_
  refine wpHand (by kernel_rfl) at1.2.2.2.2.2 ?_
  rw [wpOps_cons]
  refine wpOp_of at1.2.2.2.1 g80 ?_
  refine wp_value (exec_move p80) ?_
  rw [d80, wpOps_cons, hs.k (s := 3) (v := .map (some r)) (by simp)]
  have h4 := hs.val (d := 30) (by kernel_rfl) (v := .map (some r)) (av := .dead) rfl (fun _ _ => trivial)
  refine wpOp_of at1.2.2.2.2.1 g81 ?_
  refine wp_value (exec_range p81 (by rw [h4.k (s := 30) (v := .map (some r)) (by simp)]; exact range_run (K := 64) (E := 3) (by kernel_rfl) (h4.o (r := r) (o := mapObj (accM (chI xs))) (by simp)))) ?_
  rw [d81]
  have hlt : r < w.heap.size := (Array.getElem?_eq_some_iff.1 (h4.o (r := r) (o := mapObj (accM (chI xs))) (by simp))).1
  have h5 := h4.alloc (d := 31) (by kernel_rfl) (v := .pointer (some ⟨w.heap.size, 0, none⟩)) (o := itObj r (accM (chI xs)) []) rfl
  have h6 : MS (N2 w.heap.size) B [] W0 F0 [(w.heap.size, itObj r (accM (chI xs)) []), (r, mapObj (accM (chI xs)))] (E2 []) _ _ := (h5.weak (Weak.cast (pat := [(6, .same)]) (by kernel_rfl) (by kernel_rfl))).forget rfl rfl (fun p hp => by simp at hp ⊢; simp [hp]) (fun p hp => hp)
  refine wpOps_nil _ ?_
  show (nav C0 [1, 1, 1, 1, 0, 1]).wp _ _ _ _
  have hml : (accM (chI xs)).length ≤ 1099511627775 := by
    have h1 := length_accM (chI xs)
    have h2 : (chI xs).length = xs.length := by simp [chI]
    have h3 : (xs.length : Int) + 1 ≤ 1099511627776 := hlim
    omega
  refine loop2 (keyd_acc xs).2 hml (by omega) h6 (fun S a w hnd hlt hall hs => ?_)
  show (nav C0 [1, 1, 1, 1, 1]).wp _ _ a w
  refine wpSeq (c1 := nav C0 [1, 1, 1, 1, 1, 0]) (c2 := nav C0 [1, 1, 1, 1, 1, 1]) (by kernel_rfl) ?_
  have hol : (outI (accM (chI xs)) S).length ≤ 1099511627776 := by
    have h1 := outI_le (accM (chI xs)) S
    have h2 := nodup_le hnd hlt
    omega
  refine sorting hol hfL (hs.forget rfl rfl (fun p h => by cases h) (fun p h => by cases h)) (fun ys a w hp hso hs => ?_)
  have hy := out_eq hnd hlt hall hp hso
  subst hy
  show (nav C0 [1, 1, 1, 1, 1, 1]).wp _ _ a w
  refine wpSeq (c1 := nav C0 [1, 1, 1, 1, 1, 1, 0]) (c2 := nav C0 [1, 1, 1, 1, 1, 1, 1]) (by kernel_rfl) ?_
  refine MS.regC gg (keep := [2]) (e' := [(2, .v .fr (.lst .item (gathI xs)))]) (ps := []) (by kernel_rfl) trivial hs (fun a w hs => ?_)
  refine wpRet (by kernel_rfl) ?_
  refine ⟨[(2, .v .fr (.lst .item (gathI xs)))], ?_, ?_⟩
  · exact (hs.forget (N' := ⟨(Try.f107).ntmps, none, []⟩) (obs' := []) (by kernel_rfl) rfl (fun p h => by cases h) (fun p h => by cases h)).to
  · exact ⟨rfl, trivial⟩
end Go.Proofs.Ytopcofkpggefkaa

namespace Go.Proofs.Ytopcofkpggefkaa
open Go Go.Shelf Go.RowKit Go.Lib Go.Sort

/-- Some draws on, some new blocks behind. -/
structure Ln where
  n : Nat
  os : Array Obj
instance : Add Ln := ⟨fun a b => ⟨a.n + b.n, a.os ++ b.os⟩⟩
instance : OfNat Ln 0 := ⟨⟨0, #[]⟩⟩
def later (w : World) (x : Ln) : World := grow (Sort.ahead w x.n) x.os

theorem later_later (w : World) (x y : Ln) : later (later w x) y = later w (x + y) := by
  show grow (Sort.ahead (grow (Sort.ahead w x.n) x.os) y.n) y.os = grow (Sort.ahead w (x.n + y.n)) (x.os ++ y.os)
  rw [ahead_grow, grow_grow, ahead_ahead]
theorem later_zero (w : World) : later w 0 = w := by
  show grow (Sort.ahead w 0) #[] = w
  rw [grow_empty]; rfl
theorem size_later (w : World) (x : Ln) : w.heap.size ≤ (later w x).heap.size := by
  show w.heap.size ≤ (grow (Sort.ahead w x.n) x.os).heap.size
  rw [size_grow]; exact Nat.le_add_right _ _
theorem cell?_later {w : World} {a : Addr} (h : a.block < w.heap.size) (x : Ln) : (later w x).cell? a = w.cell? a := cell?_grow _ _ _ h

section
variable {P : Program} {α : Type} [Inhabited α] {enc : α → List Value} {k : Nat} {w w0 W : World} {blk off : Nat} {d dk X : Array α}

theorem later_swk (n : Nat) (dk : Array α) (os : Array Obj) (x : Ln) : later (sortWorldK enc k w0 blk off n dk os) x = sortWorldK enc k w0 blk off (n + x.n) dk (os ++ x.os) := by
  unfold sortWorldK
  show grow (Sort.ahead (grow (putRowK enc k (Sort.ahead w0 n) blk off dk) os) x.n) x.os = _
  rw [ahead_grow, grow_grow]
  have := putRowK_drewN enc k w0 n x.n blk off dk
  rw [← this]; rfl
theorem SWK_later (h : SWK enc k w0 blk off dk W) (x : Ln) : SWK enc k w0 blk off dk (later W x) := by
  obtain ⟨n, os, rfl⟩ := h
  exact ⟨_, _, later_swk n dk os x⟩
theorem holdsK_later (h : HoldsK enc k w blk off d) (hb : blk < w.heap.size) (x : Ln) : HoldsK enc k (later w x) blk off d :=
  holdsK_grow enc k _ _ blk off d hb (holdsK_ahead enc k w x.n blk off d h)

/-- What is asked of 'less': in every world that the sort passes through it answers; it may draw; it may lay blocks. -/
def LessReadsK (P : Program) (g : Nat) (lb : Array Value) (enc : α → List Value) (k : Nat) (lt : α → α → Bool) (blk off size : Nat) (w : World) : Prop :=
  ∀ (m : Nat) (os : Array Obj) (dk : Array α), dk.size = size → ∀ i j : Nat, i < size → j < size →
    Calls P g (#[.int .i64 i, .int .i64 j] ++ lb) (sortWorldK enc k w blk off m dk os) fun e w' => e = .returned (.bool (lt dk[i]! dk[j]!)) ∧ ∃ q, w' = later (sortWorldK enc k w blk off m dk os) q

variable {g : Nat} {lb : Array Value} {lt : α → α → Bool} {size : Nat}
theorem LessReadsK.grow (h : LessReadsK P g lb enc k lt blk off size w) (hblk : blk < w.heap.size) (os0 : Array Obj) :
    LessReadsK P g lb enc k lt blk off size (Sort.grow w os0) := fun m os dk hs i j hi hj => by
  have e : sortWorldK enc k (Sort.grow w os0) blk off m dk os = sortWorldK enc k w blk off m dk (os0 ++ os) := by
    unfold sortWorldK; rw [ahead_grow, putRowK_grow enc k (Sort.ahead w m) _ blk off _ hblk, grow_grow]
  rw [e]; exact h m _ dk hs i j hi hj
theorem LessReadsK.on (h : LessReadsK P g lb enc k lt blk off size w) (hblk : blk < w.heap.size) (n : Nat) (dk : Array α) (os : Array Obj) (hs : dk.size = size) :
    LessReadsK P g lb enc k lt blk off size (sortWorldK enc k w blk off n dk os) := fun m os' dk' hs' i j hi hj => by
  rw [sortWorldK_on enc k w blk off n m dk dk' os os' hblk (hs'.trans hs.symm)]; exact h _ _ dk' hs' i j hi hj
theorem SWK_less (h : SWK enc k w0 blk off dk W) (hL : LessReadsK P g lb enc k lt blk off size w0) (hs : dk.size = size) (i j : Nat) (hi : i < size) (hj : j < size) :
    Calls P g (#[.int .i64 i, .int .i64 j] ++ lb) W fun e w' => e = .returned (.bool (lt dk[i]! dk[j]!)) ∧ ∃ q, w' = later W q := by
  obtain ⟨n, os, rfl⟩ := h
  exact hL n os dk hs i j hi hj
theorem SWK_lessReads (h : SWK enc k w0 blk off dk W) (hL : LessReadsK P g lb enc k lt blk off size w0) (hblk : blk < w0.heap.size) (hs : dk.size = size) : LessReadsK P g lb enc k lt blk off size W := by
  obtain ⟨n, os, rfl⟩ := h
  exact hL.on hblk n dk os hs

/-- The row laid behind a function's own box. -/
theorem later_alloc (enc : α → List Value) (k : Nat) (w : World) (o : Obj) (blk off : Nat) (x : Ln) (X : Array α) (hblk : blk < w.heap.size) :
    later (putRowK enc k (w.alloc o) blk off X) x = sortWorldK enc k w blk off x.n X (#[o] ++ x.os) := by
  unfold sortWorldK
  rw [alloc_eq_grow, putRowK_grow enc k w _ blk off X hblk]
  show grow (Sort.ahead (grow (putRowK enc k w blk off X) #[o]) x.n) x.os = _
  rw [ahead_grow, grow_grow]
  have := putRowK_drewN enc k w 0 x.n blk off X
  rw [Nat.zero_add] at this
  rw [← this]; rfl
theorem lessAt (h : LessReadsK P g lb enc k lt blk off size w) (o : Obj) (hblk : blk < w.heap.size) (hX : X.size = size) (x : Ln) (i j : Nat) (hi : i < size) (hj : j < size) :
    Calls P g (#[.int .i64 i, .int .i64 j] ++ lb) (later (putRowK enc k (w.alloc o) blk off X) x) fun e w' => e = .returned (.bool (lt X[i]! X[j]!)) ∧ ∃ q, w' = later (putRowK enc k (w.alloc o) blk off X) (x + q) := by
  have := h x.n (#[o] ++ x.os) X hX i j hi hj
  rw [← later_alloc enc k w o blk off x X hblk] at this
  exact this.mono fun e w' ⟨he, q, hq⟩ => ⟨he, q, hq.trans (later_later _ _ _)⟩
theorem swap_worldFK (enc : α → List Value) (k : Nat) (hk : ∀ x, (enc x).length = k) (w : World) (blk off : Nat) (hblk : blk < w.heap.size) (dk : Array α) (n : Ln) (i j : Nat) (hi : i < dk.size) (hj : j < dk.size) :
    ((later (putRowK enc k w blk off dk) n).setCells blk (off + i * k) (enc dk[j]!)).setCells blk (off + j * k) (enc dk[i]!) = later (putRowK enc k w blk off (swp dk i j)) n := by
  have h1 : blk < (Sort.ahead (putRowK enc k w blk off dk) n.n).heap.size := by
    show blk < (putRowK enc k w blk off dk).heap.size
    rw [size_putRowK]; exact hblk
  show ((grow (Sort.ahead (putRowK enc k w blk off dk) n.n) n.os).setCells _ _ _).setCells _ _ _ = grow (Sort.ahead (putRowK enc k w blk off (swp dk i j)) n.n) n.os
  rw [setCells_grow _ _ _ _ _ h1, setCells_grow _ _ _ _ _ (by rw [size_setCells]; exact h1)]
  rw [show Sort.ahead (putRowK enc k w blk off dk) n.n = (putRowK enc k w blk off dk).drewN n.n from rfl, setCells_drewN, setCells_drewN, putRowK_swp enc k hk w blk off dk i j hi hj]
  rfl
theorem swapAt {sf : Nat} {sb : Array Value} (hswap : SwapSwapsK P sf sb enc k blk off size) (hk : ∀ x, (enc x).length = k) (hH : HoldsK enc k w blk off d) (hblk : blk < w.heap.size) (hd : d.size = size) (hX : X.size = size) (x : Ln) (i j : Nat) (hi : i < size) (hj : j < size) :
    (callFunc sf (#[.int .i64 i, .int .i64 j] ++ sb)).run P (later (putRowK enc k w blk off X) x) = .ok (.value (.tuple #[])) (later (putRowK enc k w blk off (swp X i j)) x) := by
  rw [hswap _ X (holdsK_later (holdsK_putRowK enc k _ blk off d X hH (hX.trans hd.symm)) (by rw [size_putRowK]; exact hblk) x) hX i j hi hj]
  rw [swap_worldFK enc k hk w blk off hblk X x i j (by omega) (by omega)]
theorem boxAt {o : Obj} {kk : Nat} {v : Value} (h : (w.alloc o).cell? ⟨w.heap.size, kk, none⟩ = some v) (hblk : blk < w.heap.size) (x : Ln) :
    (later (putRowK enc k (w.alloc o) blk off X) x).cell? ⟨w.heap.size, kk, none⟩ = some v := by
  rw [cell?_later (by rw [size_putRowK, alloc_eq_grow, size_grow]; show w.heap.size < w.heap.size + 1; omega), cell?_putRowK_other enc k _ blk off X _ (by show w.heap.size ≠ blk; omega)]
  exact h
theorem self0 (hH : HoldsK enc k w blk off d) : w = later (putRowK enc k w blk off d) 0 := by
  rw [later_zero, putRowK_self enc k w blk off d hH]
end
end Go.Proofs.Ytopcofkpggefkaa

namespace Go.Proofs.Ytopcofkpggefkaa
open Go Go.Shelf Go.RowKit Go.Lib Go.Sort
variable {P : Program} {ρ : Ren} {α : Type} [Inhabited α]

set_option maxHeartbeats 2000000 in
set_option maxRecDepth 100000 in
theorem Any.insertionSort_func_cells (L : LaysGg.n26 P ρ) (enc : α → List Value) (k : Nat) (hk : ∀ x, (enc x).length = k) (lt : α → α → Bool) (g : Nat) (lb : Array Value) (sf : Nat) (sb : Array Value) (blk off a b : Nat) (d : Array α) (w : World)
    (eg : ∀ args w, (callFunc g args).run P w = .ok (.enter g args) w) (hless : LessReadsK P g lb enc k lt blk off d.size w) (hswap : SwapSwapsK P sf sb enc k blk off d.size)
    (hH : HoldsK enc k w blk off d) (hblk : blk < w.heap.size) (hab : a ≤ b) (hb : b ≤ d.size) (hsz : d.size < 4611686018427387904) :
    Calls P (ρ.f 26) #[.agg #[.func (.func g) #[] lb, .func (.func sf) #[] sb], .int .i64 a, .int .i64 b] w fun e w' =>
      e = .returned (.tuple #[]) ∧ ∃ n, w' = (later (putRowK enc k (w.alloc (.cells #[.func (.func g) #[] lb, .func (.func sf) #[] sb] (ρ.t 44))) blk off (Sort.insertionSort lt d a b)) n) := by
  have mixed := L.mixed; have t0 := L.t0; have a0 := L.a0; have z0 := L.z0; have v0 := L.v0; have t3 := L.t3; have a3 := L.a3; have z3 := L.z3; have v3 := L.v3; have t4 := L.t4; have a4 := L.a4; have z4 := L.z4; have v4 := L.v4; have t26 := L.t26; have a26 := L.a26; have z26 := L.z26; have v26 := L.v26; have t37 := L.t37; have a37 := L.a37; have z37 := L.z37; have v37 := L.v37; have t44 := L.t44; have a44 := L.a44; have z44 := L.z44; have v44 := L.v44
  have u44 := run_underlying L.t44
  have hH1 : HoldsK enc k (w.alloc (.cells #[.func (.func g) #[] lb, .func (.func sf) #[] sb] (ρ.t 44))) blk off d := by rw [alloc_eq_grow]; exact holdsK_grow enc k w _ blk off d hblk hH
  have hblk1 : blk < (w.alloc (.cells #[.func (.func g) #[] lb, .func (.func sf) #[] sb] (ρ.t 44))).heap.size := by rw [alloc_eq_grow, size_grow]; omega
  go_enter L.f26, BodyGg.n26_ntmps ρ
  go_wp2
  go_loopw [6] (fun vi wr => ∃ (i : Nat) (n : Ln) (dk : Array α), vi = .int .i64 i ∧ a < i ∧ i ≤ b + 1 ∧ dk.size = d.size ∧ wr = (later (putRowK enc k (w.alloc (.cells #[.func (.func g) #[] lb, .func (.func sf) #[] sb] (ρ.t 44))) blk off dk) n) ∧
      insOuter lt a b i dk = insOuter lt a b (a + 1) d) (fun vi _ => b + 1 - (intOf vi).toNat)
  case atStart => exact ⟨a + 1, 0, d, by go_num, by omega, by omega, rfl, self0 hH1, rfl⟩
  case round =>
    obtain ⟨i, n, dk, rfl, hai, hib, hsk, hwr, hO⟩ := hrel
    have HO : Hid (insOuter lt a b i dk = insOuter lt a b (a + 1) d) := hO
    clear hO
    go_wp2
    · -- i < b: the inner loop
      go_loopw [7] (fun vj wr2 => ∃ (j : Nat) (m : Ln) (dj : Array α), vj = .int .i64 j ∧ a ≤ j ∧ j ≤ i ∧ dj.size = d.size ∧ wr2 = (later (putRowK enc k (w.alloc (.cells #[.func (.func g) #[] lb, .func (.func sf) #[] sb] (ρ.t 44))) blk off dj) m) ∧
          insInner lt a j dj = insInner lt a i dk) (fun vj _ => (intOf vj).toNat)
      case atStart => exact ⟨i, n, dk, rfl, by omega, Nat.le_refl _, hsk, rfl, rfl⟩
      case round =>
        obtain ⟨j, m, dj, rfl, haj, hji, hsj, hw2, hI⟩ := hrel
        have hlt : i < b := by assumption
        have c0 : ∀ q, (later wr q).cell? ⟨w.heap.size, 0, none⟩ = some (.func (.func g) #[] lb) := fun q => by rw [hw2, later_later]; exact boxAt (by simp) hblk _
        have c1 : ∀ q, (later wr q).cell? ⟨w.heap.size, 1, none⟩ = some (.func (.func sf) #[] sb) := fun q => by rw [hw2, later_later]; exact boxAt (by simp) hblk _
        have c0' : wr.cell? ⟨w.heap.size, 0, none⟩ = some (.func (.func g) #[] lb) := by have := c0 0; rwa [later_zero] at this
        have HW : Hid (wr = (later (putRowK enc k (w.alloc (.cells #[.func (.func g) #[] lb, .func (.func sf) #[] sb] (ρ.t 44))) blk off dj) m)) := hw2
        have HI : Hid (insInner lt a j dj = insInner lt a i dk) := hI
        have HH1 : Aside _ := hH1
        clear hw2 hI hH hH1
        have out : (j ≤ a ∨ lt dj[j]! dj[j - 1]! = false) → ∀ q, ∃ i' n' dk', Value.int .i64 ((i : Int) + 1) = .int .i64 (i' : Nat) ∧ a < i' ∧ i' ≤ b + 1 ∧ dk'.size = d.size ∧
            (later wr q) = (later (putRowK enc k (w.alloc (.cells #[.func (.func g) #[] lb, .func (.func sf) #[] sb] (ρ.t 44))) blk off dk') n') ∧ insOuter lt a b i' dk' = insOuter lt a b (a + 1) d := fun hs q =>
          ⟨i + 1, m + q, dj, by go_num, by omega, by omega, hsj, by rw [HW.out, later_later],
            by rw [← HO.out, insOuter_go _ _ _ _ _ hlt, ← HI.out, insInner_stop _ _ _ _ hs]⟩
        have OUT : Hid _ := out
        clear out
        by_cases hja : a < j
        · have hSW : SWK enc k w blk off dj wr := by rw [HW.out, later_alloc enc k w _ blk off m dj hblk]; exact ⟨_, _, rfl⟩
          have hl := SWK_less hSW hless hsj j (j - 1) (by omega) (by omega)
          clear hSW
          rw [show (((j - 1 : Nat) : Int)) = (j : Int) - 1 by omega] at hl
          cases hlv : lt dj[j]! dj[j - 1]! with
          | true =>
            rw [hlv] at hl
            go_wp2_with (go_at_fn g; refine hl.mono ?_; rintro e w' ⟨rfl, q, rfl⟩)
            have hs := swapAt hswap hk HH1.out hblk1 rfl hsj (m + q) j (j - 1) (by omega) (by omega)
            rw [← later_later, ← HW.out] at hs
            rw [show (((j - 1 : Nat) : Int)) = (j : Int) - 1 by omega] at hs
            rw [hs, Oper.upon_value]
            go_wp2
            go_roundw
            case rel =>
              (repeat apply Exists.intro)
              refine ⟨⟨j - 1, m + q, swp dj j (j - 1), by congr 1 <;> omega, by omega, by omega, by rw [size_swp]; exact hsj, ?_, ?_⟩, by rw [decide_eq_true hlt, show ((j - 1 : Nat) : Int) = (j : Int) - 1 by omega]⟩
              · rfl
              · rw [← HI.out, insInner_go lt a j dj hja hlv]
            case measure => simp [intOf]; omega
          | false =>
            rw [hlv] at hl
            go_wp2_with (go_at_fn g; refine hl.mono ?_; rintro e w' ⟨rfl, q, rfl⟩)
            go_roundw
            case rel => exact OUT.out (Or.inr hlv) q
            case measure => simp [intOf]; omega
        · go_wp2
          go_roundw
          case rel => have h0 := OUT.out (Or.inl (by omega)) 0; rw [later_zero] at h0; exact h0
          case measure => simp [intOf]; omega
    · -- the outer loop is at its end
      have hge : ¬ i < b := by assumption
      go_end0
      exact ⟨rfl, n, by unfold Sort.insertionSort; rw [← HO.out, insOuter_stop _ _ _ _ _ hge]⟩

theorem Any.insertionSort_func_cells_w (L : LaysGg.n26 P ρ) (enc : α → List Value) (k : Nat) (hk : ∀ x, (enc x).length = k) (lt : α → α → Bool) (g : Nat) (lb : Array Value) (sf : Nat) (sb : Array Value) (blk off a b : Nat) (d : Array α) (w : World)
    (eg : ∀ args w, (callFunc g args).run P w = .ok (.enter g args) w) (hless : LessReadsK P g lb enc k lt blk off d.size w) (hswap : SwapSwapsK P sf sb enc k blk off d.size)
    (hH : HoldsK enc k w blk off d) (hblk : blk < w.heap.size) (hab : a ≤ b) (hb : b ≤ d.size) (hsz : d.size < 4611686018427387904) :
    Calls P (ρ.f 26) #[.agg #[.func (.func g) #[] lb, .func (.func sf) #[] sb], .int .i64 a, .int .i64 b] w fun e w' => e = .returned (.tuple #[]) ∧ ∃ n os, w' = sortWorldK enc k w blk off n (Sort.insertionSort lt d a b) os :=
  (Any.insertionSort_func_cells L enc k hk lt g lb sf sb blk off a b d w eg hless hswap hH hblk hab hb hsz).mono fun _ _ ⟨he, n, hw⟩ => ⟨he, n.n, _, hw.trans (later_alloc enc k w _ blk off n _ hblk)⟩
end Go.Proofs.Ytopcofkpggefkaa

namespace Go.Proofs.Ytopcofkpggefkaa
open Go Go.Shelf Go.RowKit Go.Lib Go.Sort
variable {P : Program} {ρ : Ren} {α : Type} [Inhabited α]

theorem holds_later {β : Type} [Inhabited β] {e : β → Value} {w : World} {blk off : Nat} {d : Array β} (h : Holds e w blk off d) (hb : blk < w.heap.size) (x : Ln) : Holds e (later w x) blk off d :=
  holds_grow e _ _ blk off d hb (holds_ahead e w x.n blk off d h)

theorem counter_same' (W : World) (o : Obj) (q : Ln) (cb co s : Nat) (hS : Holds (Value.int .i64) W cb co (one s)) (_hcb : cb < W.heap.size) : later (W.alloc o) q = sortWorld (Value.int .i64) W cb co q.n (one s) (#[o] ++ q.os) := by
  unfold sortWorld
  rw [putRow_self _ _ _ _ _ (holds_ahead _ W q.n cb co _ hS), alloc_eq_grow]
  show grow (Sort.ahead (grow W #[o]) q.n) q.os = _
  rw [ahead_grow, grow_grow]
theorem counter_succ' (W : World) (o : Obj) (q : Ln) (cb co s : Nat) (hS : Holds (Value.int .i64) W cb co (one s)) (hcb : cb < W.heap.size) :
    (later (W.alloc o) q).setCell ⟨cb, co, none⟩ (.int .i64 ((s : Int) + 1)) = sortWorld (Value.int .i64) W cb co q.n (one (s + 1)) (#[o] ++ q.os) := by
  have h := counter_succ W o q.n cb co s hS hcb
  have e : later (W.alloc o) q = grow ((W.alloc o).drewN q.n) q.os := rfl
  have hb : cb < ((W.alloc o).drewN q.n).heap.size := by
    show cb < (W.alloc o).heap.size
    rw [alloc_eq_grow, size_grow]; omega
  rw [e, setCell_eq, mapBlock_grow _ _ _ _ hb, ← setCell_eq, h]
  unfold sortWorld
  rw [grow_grow]

set_option maxHeartbeats 1000000 in
set_option maxRecDepth 100000 in
theorem Any.order2_func_cells (L : LaysGg.n39 P ρ) (enc : α → List Value) (k : Nat) (_hk : ∀ x, (enc x).length = k) (lt : α → α → Bool) (g : Nat) (lb : Array Value) (sfn : Fn) (sa sb : Array Value) (blk off : Nat) (w0 W : World) (d : Array α) (a b cb co s : Nat)
    (eg : ∀ args w, (callFunc g args).run P w = .ok (.enter g args) w) (hL : LessReadsK P g lb enc k lt blk off d.size w0) (hW : SWK enc k w0 blk off d W) (ha : a < d.size) (hb : b < d.size)
    (hS : Holds (Value.int .i64) W cb co (one s)) (hcb : cb < W.heap.size) (hs : s < 4611686018427387904) :
    Calls P (ρ.f 39) #[.agg #[.func (.func g) #[] lb, .func sfn sa sb], .int .i64 a, .int .i64 b, .pointer (some ⟨cb, co, none⟩)] W fun e w' =>
      e = .returned (.tuple #[.int .i64 (order2 lt d a b s).1, .int .i64 (order2 lt d a b s).2.1]) ∧ ∃ n os, w' = sortWorld (Value.int .i64) W cb co n (one (order2 lt d a b s).2.2) os := by
  have mixed := L.mixed; have t0 := L.t0; have a0 := L.a0; have z0 := L.z0; have v0 := L.v0; have t3 := L.t3; have a3 := L.a3; have z3 := L.z3; have v3 := L.v3; have t4 := L.t4; have a4 := L.a4; have z4 := L.z4; have v4 := L.v4; have t26 := L.t26; have a26 := L.a26; have z26 := L.z26; have v26 := L.v26; have t37 := L.t37; have a37 := L.a37; have z37 := L.z37; have v37 := L.v37; have t44 := L.t44; have a44 := L.a44; have z44 := L.z44; have v44 := L.v44; have t64 := L.t64; have a64 := L.a64; have z64 := L.z64; have v64 := L.v64
  have u44 := run_underlying L.t44
  obtain ⟨cs, fs⟩ := one_cell hS
  have hl := SWK_less (hW.alloc (.cells #[.func (.func g) #[] lb, .func sfn sa sb] (ρ.t 44))) hL rfl b a hb ha
  have hc1 : cb < (W.alloc (.cells #[.func (.func g) #[] lb, .func sfn sa sb] (ρ.t 44))).heap.size := by rw [alloc_eq_grow, size_grow]; omega
  have hSq : ∀ q : Ln, Holds (Value.int .i64) (later (W.alloc (.cells #[.func (.func g) #[] lb, .func sfn sa sb] (ρ.t 44))) q) cb co (one s) := fun q => holds_later (by rw [alloc_eq_grow]; exact holds_grow _ W _ cb co _ hcb hS) hc1 q
  have csq : ∀ q : Ln, (later (W.alloc (.cells #[.func (.func g) #[] lb, .func sfn sa sb] (ρ.t 44))) q).cell? ⟨cb, co, none⟩ = some (.int .i64 s) := fun q => (one_cell (hSq q)).1
  have fsq : ∀ q : Ln, (later (W.alloc (.cells #[.func (.func g) #[] lb, .func sfn sa sb] (ρ.t 44))) q).frozen? ⟨cb, co, none⟩ = false := fun q => (one_cell (hSq q)).2
  clear hSq
  go_enter L.f39, BodyGg.n39_ntmps ρ
  cases hlv : lt d[b]! d[a]! with
  | true =>
    rw [hlv] at hl
    have e2 : order2 lt d a b s = (b, a, s + 1) := by simp [order2, hlv]
    go_wp2_with (go_at_fn g; refine hl.mono ?_; rintro e w' ⟨rfl, q, rfl⟩)
    go_ret2
    rw [e2]
    exact ⟨rfl, _, _, counter_succ' W _ q cb co s hS hcb⟩
  | false =>
    rw [hlv] at hl
    have e2 : order2 lt d a b s = (a, b, s) := by simp [order2, hlv]
    go_wp2_with (go_at_fn g; refine hl.mono ?_; rintro e w' ⟨rfl, q, rfl⟩)
    go_ret2
    rw [e2]
    exact ⟨rfl, _, _, counter_same' W _ q cb co s hS hcb⟩

set_option maxHeartbeats 1000000 in
set_option maxRecDepth 100000 in
theorem Any.median_func_cells (L : LaysGg.n38 P ρ) (enc : α → List Value) (k : Nat) (hk : ∀ x, (enc x).length = k) (lt : α → α → Bool) (g : Nat) (lb : Array Value) (sfn : Fn) (sa sb : Array Value) (blk off : Nat) (w0 W : World) (d : Array α) (a b c cb co s : Nat)
    (eg : ∀ args w, (callFunc g args).run P w = .ok (.enter g args) w) (hL : LessReadsK P g lb enc k lt blk off d.size w0) (hW : SWK enc k w0 blk off d W) (ha : a < d.size) (hb : b < d.size) (hc : c < d.size)
    (hS : Holds (Value.int .i64) W cb co (one s)) (hcb0 : w0.heap.size ≤ cb) (hcb : cb < W.heap.size) (hs : s + 3 < 4611686018427387904) :
    Calls P (ρ.f 38) #[.agg #[.func (.func g) #[] lb, .func sfn sa sb], .int .i64 a, .int .i64 b, .int .i64 c, .pointer (some ⟨cb, co, none⟩)] W fun e w' =>
      e = .returned (.int .i64 (median lt d a b c s).1) ∧ ∃ n os, w' = sortWorld (Value.int .i64) W cb co n (one (median lt d a b c s).2) os := by
  have mixed := L.mixed; have t0 := L.t0; have a0 := L.a0; have z0 := L.z0; have v0 := L.v0; have t3 := L.t3; have a3 := L.a3; have z3 := L.z3; have v3 := L.v3; have t4 := L.t4; have a4 := L.a4; have z4 := L.z4; have v4 := L.v4; have t26 := L.t26; have a26 := L.a26; have z26 := L.z26; have v26 := L.v26; have t37 := L.t37; have a37 := L.a37; have z37 := L.z37; have v37 := L.v37; have t44 := L.t44; have a44 := L.a44; have z44 := L.z44; have v44 := L.v44; have t64 := L.t64; have a64 := L.a64; have z64 := L.z64; have v64 := L.v64; have t67 := L.t67; have a67 := L.a67; have z67 := L.z67; have v67 := L.v67
  have u44 := run_underlying L.t44
  have e39 : ∀ args w, (callFunc (ρ.f 39) args).run P w = .ok (.enter (ρ.f 39) args) w := enters_of L.f39 (by kernel_rfl) rfl
  have l1 := order2_lt' lt d s ha hb
  have s1 := order2_swaps' lt d a b s
  have l2 := order2_lt' lt d (order2 lt d a b s).2.2 l1.2 hc
  have s2 := order2_swaps' lt d (order2 lt d a b s).2.1 c (order2 lt d a b s).2.2
  -- W1: this function's own box laid. EVERY WORLD FROM THERE ON IS KEPT FLAT: 'sortWorld .. W1 cb co n (one t) os'
  have hW1 := hW.alloc (.cells #[.func (.func g) #[] lb, .func sfn sa sb] (ρ.t 44))
  have hS1 : Holds (Value.int .i64) (W.alloc (.cells #[.func (.func g) #[] lb, .func sfn sa sb] (ρ.t 44))) cb co (one s) := by rw [alloc_eq_grow]; exact holds_grow _ W _ cb co _ hcb hS
  have hc1 : cb < (W.alloc (.cells #[.func (.func g) #[] lb, .func sfn sa sb] (ρ.t 44))).heap.size := by rw [alloc_eq_grow, size_grow]; omega
  have step : ∀ (n : Nat) (os : Array Obj) (t a' b' : Nat), a' < d.size → b' < d.size → t < 4611686018427387904 →
      Calls P (ρ.f 39) #[.agg #[.func (.func g) #[] lb, .func sfn sa sb], .int .i64 a', .int .i64 b', .pointer (some ⟨cb, co, none⟩)] (sortWorld (Value.int .i64) (W.alloc (.cells #[.func (.func g) #[] lb, .func sfn sa sb] (ρ.t 44))) cb co n (one t) os) fun e w' =>
        e = .returned (.tuple #[.int .i64 (order2 lt d a' b' t).1, .int .i64 (order2 lt d a' b' t).2.1]) ∧ ∃ n' os', w' = sortWorld (Value.int .i64) (W.alloc (.cells #[.func (.func g) #[] lb, .func sfn sa sb] (ρ.t 44))) cb co n' (one (order2 lt d a' b' t).2.2) os' := fun n os t a' b' ha' hb' ht =>
    (Any.order2_func_cells (P := P) (ρ := ρ) { L with } enc k hk lt g lb sfn sa sb blk off w0 _ d a' b' cb co t eg hL (hW1.counter cb co n _ os hcb0) ha' hb' (holds_sortWorld _ _ cb co n (one s) _ os hc1 hS1 rfl) (lt_sortWorld _ _ cb co n _ os hc1) ht).mono
      fun _ _ ⟨he, n', os', hw⟩ => ⟨he, _, _, hw.trans (sortWorld_on _ _ cb co n n' _ _ os os' hc1 rfl)⟩
  have step0 := step 0 #[] s a b ha hb (by omega)
  rw [sortWorld_start _ _ cb co _ hS1] at step0
  have bx : ∀ (kx : Nat) (v : Value), (W.alloc (.cells #[.func (.func g) #[] lb, .func sfn sa sb] (ρ.t 44))).cell? ⟨W.heap.size, kx, none⟩ = some v → ∀ n t os, (sortWorld (Value.int .i64) (W.alloc (.cells #[.func (.func g) #[] lb, .func sfn sa sb] (ρ.t 44))) cb co n (one t) os).cell? ⟨W.heap.size, kx, none⟩ = some v := fun kx v h n t os => by
    unfold sortWorld
    rw [cell?_grow _ _ _ (by show W.heap.size < (putRow _ _ _ _ _).heap.size; rw [size_putRow]; show W.heap.size < (W.alloc _).heap.size; rw [alloc_eq_grow, size_grow]; simp), cell?_putRow_other _ _ cb co _ _ (Or.inl (by show W.heap.size ≠ cb; omega))]; exact h
  have bx0 := bx 0 (.func (.func g) #[] lb) (by simp)
  have bx1 := bx 1 (.func sfn sa sb) (by simp)
  clear hS hS1 hL hW hW1 bx
  go_enter L.f38, BodyGg.n38_ntmps ρ
  go_wp2_with (go_at_fn_of (ρ.f 39) (Value.int .i64 (b : Int)); refine step0.mono ?_; rintro e w' ⟨rfl, n1, os1, rfl⟩)
  go_wp2_with (go_at_fn_of (ρ.f 39) (Value.int .i64 (c : Int)); refine (step n1 os1 _ _ c l1.2 hc (by omega)).mono ?_; rintro e w' ⟨rfl, n2, os2, rfl⟩)
  go_wp2_with (go_at_fn_of (ρ.f 39) (Value.int .i64 ((order2 lt d a b s).1 : Int)); refine (step n2 os2 _ _ _ l1.1 l2.1 (by omega)).mono ?_; rintro e w' ⟨rfl, n3, os3, rfl⟩)
  go_ret
  exact ⟨rfl, _, _, sortWorld_alloc _ W _ cb co _ _ _ hcb⟩

set_option maxHeartbeats 1000000 in
set_option maxRecDepth 100000 in
theorem Any.medianAdjacent_func_cells (L : LaysGg.n37 P ρ) (enc : α → List Value) (k : Nat) (hk : ∀ x, (enc x).length = k) (lt : α → α → Bool) (g : Nat) (lb : Array Value) (sfn : Fn) (sa sb : Array Value) (blk off : Nat) (w0 W : World) (d : Array α) (a cb co s : Nat)
    (eg : ∀ args w, (callFunc g args).run P w = .ok (.enter g args) w) (hL : LessReadsK P g lb enc k lt blk off d.size w0) (hW : SWK enc k w0 blk off d W) (ha1 : 1 ≤ a) (ha2 : a + 1 < d.size) (hsz : d.size < 4611686018427387904)
    (hS : Holds (Value.int .i64) W cb co (one s)) (hcb0 : w0.heap.size ≤ cb) (hcb : cb < W.heap.size) (hs : s + 3 < 4611686018427387904) :
    Calls P (ρ.f 37) #[.agg #[.func (.func g) #[] lb, .func sfn sa sb], .int .i64 a, .pointer (some ⟨cb, co, none⟩)] W fun e w' =>
      e = .returned (.int .i64 (medianAdjacent lt d a s).1) ∧ ∃ n os, w' = sortWorld (Value.int .i64) W cb co n (one (medianAdjacent lt d a s).2) os := by
  have mixed := L.mixed; have t0 := L.t0; have a0 := L.a0; have z0 := L.z0; have v0 := L.v0; have t3 := L.t3; have a3 := L.a3; have z3 := L.z3; have v3 := L.v3; have t4 := L.t4; have a4 := L.a4; have z4 := L.z4; have v4 := L.v4; have t26 := L.t26; have a26 := L.a26; have z26 := L.z26; have v26 := L.v26; have t37 := L.t37; have a37 := L.a37; have z37 := L.z37; have v37 := L.v37; have t44 := L.t44; have a44 := L.a44; have z44 := L.z44; have v44 := L.v44; have t64 := L.t64; have a64 := L.a64; have z64 := L.z64; have v64 := L.v64; have t67 := L.t67; have a67 := L.a67; have z67 := L.z67; have v67 := L.v67
  have u44 := run_underlying L.t44
  have e38 : ∀ args w, (callFunc (ρ.f 38) args).run P w = .ok (.enter (ρ.f 38) args) w := enters_of L.f38 (by kernel_rfl) rfl
  have hm := Any.median_func_cells (P := P) (ρ := ρ) { L with } enc k hk lt g lb sfn sa sb blk off w0 _ d (a - 1) a (a + 1) cb co s eg hL (hW.alloc (.cells #[.func (.func g) #[] lb, .func sfn sa sb] (ρ.t 44))) (by omega) (by omega) ha2
    (by rw [alloc_eq_grow]; exact holds_grow _ W _ cb co _ hcb hS) hcb0 (by rw [alloc_eq_grow, size_grow]; omega) hs
  rw [show ((a - 1 : Nat) : Int) = (a : Int) - 1 by omega, show ((a + 1 : Nat) : Int) = (a : Int) + 1 by omega] at hm
  clear hS hL hW
  go_enter L.f37, BodyGg.n37_ntmps ρ
  go_wp2_with (go_at_fn (ρ.f 38); refine hm.mono ?_; rintro e w' ⟨rfl, n, os, rfl⟩)
  go_ret
  exact ⟨rfl, _, _, sortWorld_alloc _ W _ cb co _ _ _ hcb⟩
end Go.Proofs.Ytopcofkpggefkaa

namespace Go.Proofs.Ytopcofkpggefkaa
open Go Go.Shelf Go.RowKit Go.Lib Go.Sort
variable {P : Program} {ρ : Ren} {α : Type} [Inhabited α]

theorem pivot_world_func_cells (L : LaysGg.n29 P ρ) (enc : α → List Value) (k : Nat) (hk : ∀ x, (enc x).length = k) (lt : α → α → Bool) (g : Nat) (lb : Array Value) (sfn : Fn) (sa sb : Array Value) (blk off : Nat) (W : World) (d : Array α)
    (eg : ∀ args w, (callFunc g args).run P w = .ok (.enter g args) w) (hless : LessReadsK P g lb enc k lt blk off d.size W) (hH : HoldsK enc k W blk off d) (hsz : d.size < 4611686018427387904) :
    ∃ Wc : Nat → Nat → Array Obj → World,
      ((W.alloc (.cells #[.func (.func g) #[] lb, .func sfn sa sb] (ρ.t 44))).alloc (.cells #[.int .i64 0] (ρ.t 3))) = Wc 0 0 #[] ∧
      (∀ N S os, (Wc N S os).cell? ⟨W.heap.size + 1, 0, none⟩ = some (.int .i64 S)) ∧
      (∀ N S os, (Wc N S os).cell? ⟨W.heap.size, 0, none⟩ = some (.func (.func g) #[] lb)) ∧
      (∀ N S os, (Wc N S os).cell? ⟨W.heap.size, 1, none⟩ = some (.func sfn sa sb)) ∧
      (∀ N S os, ∃ n os', Wc N S os = grow (Sort.ahead W n) os') ∧
      (∀ x s N os, 1 ≤ x → x + 1 < d.size → s + 3 < 4611686018427387904 → Calls P (ρ.f 37) #[.agg #[.func (.func g) #[] lb, .func sfn sa sb], .int .i64 x, .pointer (some ⟨W.heap.size + 1, 0, none⟩)] (Wc N s os) fun e w' => e = .returned (.int .i64 (medianAdjacent lt d x s).1) ∧ ∃ N' os', w' = Wc N' (medianAdjacent lt d x s).2 os') ∧
      (∀ x y z s N os, x < d.size → y < d.size → z < d.size → s + 3 < 4611686018427387904 → Calls P (ρ.f 38) #[.agg #[.func (.func g) #[] lb, .func sfn sa sb], .int .i64 x, .int .i64 y, .int .i64 z, .pointer (some ⟨W.heap.size + 1, 0, none⟩)] (Wc N s os) fun e w' => e = .returned (.int .i64 (median lt d x y z s).1) ∧ ∃ N' os', w' = Wc N' (median lt d x y z s).2 os') := by
  have hS2 : Holds (Value.int .i64) ((W.alloc (.cells #[.func (.func g) #[] lb, .func sfn sa sb] (ρ.t 44))).alloc (.cells #[.int .i64 0] (ρ.t 3))) (W.heap.size + 1) 0 (one 0) := fun j hj => by
    have : j = 0 := by simp at hj; omega
    subst this
    exact ⟨by rw [World.cell?_alloc_at _ _ _ _ (by simp)]; rfl, World.frozen?_alloc_at _ _ _ _ (by simp)⟩
  have hc2 : W.heap.size + 1 < (((W.alloc (.cells #[.func (.func g) #[] lb, .func sfn sa sb] (ρ.t 44))).alloc (.cells #[.int .i64 0] (ρ.t 3)))).heap.size := by simp
  have hW2 : SWK enc k W blk off d ((W.alloc (.cells #[.func (.func g) #[] lb, .func sfn sa sb] (ρ.t 44))).alloc (.cells #[.int .i64 0] (ρ.t 3))) := ((SWK.start hH).alloc _).alloc _
  have hh := fun N S os => holds_sortWorld (Value.int .i64) ((W.alloc (.cells #[.func (.func g) #[] lb, .func sfn sa sb] (ρ.t 44))).alloc (.cells #[.int .i64 0] (ρ.t 3))) (W.heap.size + 1) 0 N (one 0) (one S) os hc2 hS2 rfl
  have bx : ∀ (kx : Nat) (v : Value), (((W.alloc (.cells #[.func (.func g) #[] lb, .func sfn sa sb] (ρ.t 44))).alloc (.cells #[.int .i64 0] (ρ.t 3)))).cell? ⟨W.heap.size, kx, none⟩ = some v → ∀ N S os, (sortWorld (Value.int .i64) ((W.alloc (.cells #[.func (.func g) #[] lb, .func sfn sa sb] (ρ.t 44))).alloc (.cells #[.int .i64 0] (ρ.t 3))) (W.heap.size + 1) 0 N (one S) os).cell? ⟨W.heap.size, kx, none⟩ = some v := fun kx v h N S os => by
    unfold sortWorld
    rw [cell?_grow _ _ _ (by show W.heap.size < (putRow _ _ _ _ _).heap.size; rw [size_putRow]; show W.heap.size < (((W.alloc (.cells #[.func (.func g) #[] lb, .func sfn sa sb] (ρ.t 44))).alloc (.cells #[.int .i64 0] (ρ.t 3)))).heap.size; simp; omega), cell?_putRow_other _ _ _ 0 _ _ (Or.inl (by show W.heap.size ≠ W.heap.size + 1; omega))]; exact h
  refine ⟨fun N S os => sortWorld (Value.int .i64) ((W.alloc (.cells #[.func (.func g) #[] lb, .func sfn sa sb] (ρ.t 44))).alloc (.cells #[.int .i64 0] (ρ.t 3))) (W.heap.size + 1) 0 N (one S) os, (sortWorld_start _ _ _ 0 _ hS2).symm, fun N S os => (one_cell (hh N S os)).1,
    bx 0 _ (by rw [World.cell?_alloc_past _ _ _ (by simp)]; simp), bx 1 _ (by rw [World.cell?_alloc_past _ _ _ (by simp)]; simp), fun N S os => ?_, fun x s N os h1 h2 hs => ?_, fun x y z s N os hx hy hz hs => ?_⟩
  · show ∃ n os', sortWorld _ _ _ _ _ _ _ = _
    unfold sortWorld
    rw [alloc_eq_grow, alloc_eq_grow, grow_grow, ahead_grow]
    obtain ⟨os', _, e⟩ := putRow_grow_new (Value.int .i64) (Sort.ahead W N) (#[.cells #[.func (.func g) #[] lb, .func sfn sa sb] (ρ.t 44)] ++ #[.cells #[.int .i64 0] (ρ.t 3)]) (W.heap.size + 1) 0 (one S) (by show W.heap.size ≤ _; omega)
    exact ⟨N, _, by rw [e, grow_grow]⟩
  · exact (Any.medianAdjacent_func_cells (P := P) (ρ := ρ) { L with } enc k hk lt g lb sfn sa sb blk off W _ d x (W.heap.size + 1) 0 s eg hless (hW2.counter _ 0 N _ os (by omega)) h1 h2 hsz (hh N s os) (by omega) (lt_sortWorld _ _ _ 0 N _ os hc2) hs).mono
      fun _ _ ⟨he, n', os', hw⟩ => ⟨he, _, _, hw.trans (sortWorld_on _ _ _ 0 N n' _ _ os os' hc2 rfl)⟩
  · exact (Any.median_func_cells (P := P) (ρ := ρ) { L with } enc k hk lt g lb sfn sa sb blk off W _ d x y z (W.heap.size + 1) 0 s eg hless (hW2.counter _ 0 N _ os (by omega)) hx hy hz (hh N s os) (by omega) (lt_sortWorld _ _ _ 0 N _ os hc2) hs).mono
      fun _ _ ⟨he, n', os', hw⟩ => ⟨he, _, _, hw.trans (sortWorld_on _ _ _ 0 N n' _ _ os os' hc2 rfl)⟩

set_option maxHeartbeats 2000000 in
set_option maxRecDepth 100000 in

theorem Any.choosePivot_func_cells (L : LaysGg.n29 P ρ) (enc : α → List Value) (k : Nat) (hk : ∀ x, (enc x).length = k) (lt : α → α → Bool) (g : Nat) (lb : Array Value) (sfn : Fn) (sa sb : Array Value) (blk off a b : Nat) (W : World) (d : Array α)
    (eg : ∀ args w, (callFunc g args).run P w = .ok (.enter g args) w) (hless : LessReadsK P g lb enc k lt blk off d.size W) (hH : HoldsK enc k W blk off d) (hab : a < b) (hb : b ≤ d.size) (hsz : d.size < 4611686018427387904) :
    Calls P (ρ.f 29) #[.agg #[.func (.func g) #[] lb, .func sfn sa sb], .int .i64 a, .int .i64 b] W fun e w' =>
      e = .returned (.tuple #[.int .i64 (choosePivot lt d a b).1, .int .i64 (hintCode (choosePivot lt d a b).2)]) ∧ ∃ n os, w' = grow (Sort.ahead W n) os := by
  obtain ⟨Wc, hW0, cS, b0, b1, hG, MA, MD⟩ := pivot_world_func_cells L enc k hk lt g lb sfn sa sb blk off W d eg hless hH hsz
  clear hH hless
  have mixed := L.mixed; have t0 := L.t0; have a0 := L.a0; have z0 := L.z0; have v0 := L.v0; have t3 := L.t3; have a3 := L.a3; have z3 := L.z3; have v3 := L.v3; have t4 := L.t4; have a4 := L.a4; have z4 := L.z4; have v4 := L.v4; have t26 := L.t26; have a26 := L.a26; have z26 := L.z26; have v26 := L.v26; have t37 := L.t37; have a37 := L.a37; have z37 := L.z37; have v37 := L.v37; have t44 := L.t44; have a44 := L.a44; have z44 := L.z44; have v44 := L.v44; have t53 := L.t53; have a53 := L.a53; have z53 := L.z53; have v53 := L.v53; have t64 := L.t64; have a64 := L.a64; have z64 := L.z64; have v64 := L.v64; have t67 := L.t67; have a67 := L.a67; have z67 := L.z67; have v67 := L.v67
  have u44 := run_underlying L.t44
  have e37 : ∀ args w, (callFunc (ρ.f 37) args).run P w = .ok (.enter (ρ.f 37) args) w := enters_of L.f37 (by kernel_rfl) rfl
  have e38 : ∀ args w, (callFunc (ρ.f 38) args).run P w = .ok (.enter (ρ.f 38) args) w := enters_of L.f38 (by kernel_rfl) rfl
  rw [choosePivot_eq]
  obtain ⟨I, hI⟩ : ∃ I : Nat, I = a + (b - a) / 4 * 1 := ⟨_, rfl⟩
  obtain ⟨J, hJ⟩ : ∃ J : Nat, J = a + (b - a) / 4 * 2 := ⟨_, rfl⟩
  obtain ⟨K, hK⟩ : ∃ K : Nat, K = a + (b - a) / 4 * 3 := ⟨_, rfl⟩
  have eI : ((a : Int) + ((b : Int) - (a : Int)) / 4) = (I : Int) := by omega
  have eJ : ((a : Int) + ((b : Int) - (a : Int)) / 4 * 2) = (J : Int) := by omega
  have eK : ((a : Int) + ((b : Int) - (a : Int)) / 4 * 3) = (K : Int) := by omega
  by_cases h8 : b - a ≥ 8
  · by_cases h50 : b - a ≥ 50
    · -- THE NINTHER
      obtain ⟨i1, s1, h1⟩ : ∃ i1 s1, medianAdjacent lt d I 0 = (i1, s1) := ⟨_, _, rfl⟩
      obtain ⟨j1, s2, h2⟩ : ∃ j1 s2, medianAdjacent lt d J s1 = (j1, s2) := ⟨_, _, rfl⟩
      obtain ⟨k1, s3, h3⟩ : ∃ k1 s3, medianAdjacent lt d K s2 = (k1, s3) := ⟨_, _, rfl⟩
      obtain ⟨p, s, h4⟩ : ∃ p s, median lt d i1 j1 k1 s3 = (p, s) := ⟨_, _, rfl⟩
      have hraw : rawPivot lt d a b = (p, s) := by simp only [rawPivot, if_pos h8, if_pos h50, ← hI, ← hJ, ← hK, h1, h2, h3, h4]
      have m1 := medianAdjacent_mem lt d I 0; rw [h1] at m1
      have m2 := medianAdjacent_mem lt d J s1; rw [h2] at m2
      have m3 := medianAdjacent_mem lt d K s2; rw [h3] at m3
      have n1 := medianAdjacent_count lt d I 0; rw [h1] at n1
      have n2 := medianAdjacent_count lt d J s1; rw [h2] at n2
      have n3 := medianAdjacent_count lt d K s2; rw [h3] at n3
      simp only [] at m1 m2 m3 n1 n2 n3
      have c1 : Calls P (ρ.f 37) #[.agg #[.func (.func g) #[] lb, .func sfn sa sb], .int .i64 (I : Int), .pointer (some ⟨W.heap.size + 1, 0, none⟩)] (Wc 0 0 #[]) fun e w' => e = .returned (.int .i64 (i1 : Int)) ∧ ∃ N' os', w' = Wc N' s1 os' := by
        have h := MA I 0 0 #[] (by omega) (by omega) (by omega); rw [h1] at h; exact h
      have c2 : ∀ N os, Calls P (ρ.f 37) #[.agg #[.func (.func g) #[] lb, .func sfn sa sb], .int .i64 (J : Int), .pointer (some ⟨W.heap.size + 1, 0, none⟩)] (Wc N s1 os) fun e w' => e = .returned (.int .i64 (j1 : Int)) ∧ ∃ N' os', w' = Wc N' s2 os' := fun N os => by
        have h := MA J s1 N os (by omega) (by omega) (by omega); rw [h2] at h; exact h
      have c3 : ∀ N os, Calls P (ρ.f 37) #[.agg #[.func (.func g) #[] lb, .func sfn sa sb], .int .i64 (K : Int), .pointer (some ⟨W.heap.size + 1, 0, none⟩)] (Wc N s2 os) fun e w' => e = .returned (.int .i64 (k1 : Int)) ∧ ∃ N' os', w' = Wc N' s3 os' := fun N os => by
        have h := MA K s2 N os (by omega) (by omega) (by omega); rw [h3] at h; exact h
      have c4 : ∀ N os, Calls P (ρ.f 38) #[.agg #[.func (.func g) #[] lb, .func sfn sa sb], .int .i64 (i1 : Int), .int .i64 (j1 : Int), .int .i64 (k1 : Int), .pointer (some ⟨W.heap.size + 1, 0, none⟩)] (Wc N s3 os) fun e w' => e = .returned (.int .i64 (p : Int)) ∧ ∃ N' os', w' = Wc N' s os' := fun N os => by
        have h := MD i1 j1 k1 s3 N os (by omega) (by omega) (by omega) (by omega); rw [h4] at h; exact h
      rw [hraw]
      obtain ⟨Hc, hHc⟩ : ∃ Hc : Int, Hc = hintCode (hintOf s) := ⟨_, rfl⟩
      have hh0 : s = 0 → Hc = 1 := fun h => by rw [hHc, h]; rfl
      have hh12 : s = 12 → Hc = 2 := fun h => by rw [hHc, h]; rfl
      have hhx : s ≠ 0 → s ≠ 12 → Hc = 0 := fun h1 h2 => by rw [hHc]; unfold hintOf; rw [if_neg h1, if_neg h2]; rfl
      show Calls P (ρ.f 29) _ W fun e w' => e = .returned (.tuple #[.int .i64 (p : Int), .int .i64 (hintCode (hintOf s))]) ∧ ∃ n os, w' = grow (Sort.ahead W n) os
      rw [← hHc]
      clear hHc hraw
      clear h1 h2 h3 h4 MA MD hI hJ hK m1 m2 m3
      go_enter L.f29, BodyGg.n29_ntmps ρ
      go_wp2_with (first
        | (go_at_fn_of (ρ.f 37) (Value.int .i64 (I : Int)); refine c1.mono ?_; rintro e w' ⟨rfl, N1, o1, rfl⟩)
        | (go_at_fn_of (ρ.f 37) (Value.int .i64 (J : Int)); refine (c2 _ _).mono ?_; rintro e w' ⟨rfl, N2, o2, rfl⟩)
        | (go_at_fn_of (ρ.f 37) (Value.int .i64 (K : Int)); refine (c3 _ _).mono ?_; rintro e w' ⟨rfl, N3, o3, rfl⟩)
        | (go_at_fn (ρ.f 38); refine (c4 _ _).mono ?_; rintro e w' ⟨rfl, N4, o4, rfl⟩))
      all_goals
        go_ret2
        refine ⟨?_, hG _ _ _⟩
        first
          | (have e0 : (s : Int) = 0 := of_beq_int (by assumption)
             rw [hh0 (by omega)]; rfl)
          | (have e1 : (s : Int) = 12 := of_beq_int (by assumption)
             rw [hh12 (by omega)]; rfl)
          | (have e0 : (s : Int) ≠ 0 := of_bne_int (by assumption)
             have e1 : (s : Int) ≠ 12 := of_bne_int (by assumption)
             rw [hhx (by omega) (by omega)]; rfl)
          | (rw [hh0 (by omega)]; rfl)
    · -- THE MEDIAN OF THREE
      obtain ⟨p, s, h4⟩ : ∃ p s, median lt d I J K 0 = (p, s) := ⟨_, _, rfl⟩
      have hraw : rawPivot lt d a b = (p, s) := by simp only [rawPivot, if_pos h8, if_neg h50, ← hI, ← hJ, ← hK, h4]
      have c4 : Calls P (ρ.f 38) #[.agg #[.func (.func g) #[] lb, .func sfn sa sb], .int .i64 (I : Int), .int .i64 (J : Int), .int .i64 (K : Int), .pointer (some ⟨W.heap.size + 1, 0, none⟩)] (Wc 0 0 #[]) fun e w' => e = .returned (.int .i64 (p : Int)) ∧ ∃ N' os', w' = Wc N' s os' := by
        have h := MD I J K 0 0 #[] (by omega) (by omega) (by omega) (by omega); rw [h4] at h; exact h
      rw [hraw]
      obtain ⟨Hc, hHc⟩ : ∃ Hc : Int, Hc = hintCode (hintOf s) := ⟨_, rfl⟩
      have hh0 : s = 0 → Hc = 1 := fun h => by rw [hHc, h]; rfl
      have hh12 : s = 12 → Hc = 2 := fun h => by rw [hHc, h]; rfl
      have hhx : s ≠ 0 → s ≠ 12 → Hc = 0 := fun h1 h2 => by rw [hHc]; unfold hintOf; rw [if_neg h1, if_neg h2]; rfl
      show Calls P (ρ.f 29) _ W fun e w' => e = .returned (.tuple #[.int .i64 (p : Int), .int .i64 (hintCode (hintOf s))]) ∧ ∃ n os, w' = grow (Sort.ahead W n) os
      rw [← hHc]
      clear hHc hraw
      clear h4 MA MD hI hJ hK
      go_enter L.f29, BodyGg.n29_ntmps ρ
      go_wp2_with (first | (go_at_fn (ρ.f 38); refine c4.mono ?_; rintro e w' ⟨rfl, N4, o4, rfl⟩))
      all_goals
        go_ret2
        refine ⟨?_, hG _ _ _⟩
        first
          | (have e0 : (s : Int) = 0 := of_beq_int (by assumption)
             rw [hh0 (by omega)]; rfl)
          | (have e1 : (s : Int) = 12 := of_beq_int (by assumption)
             rw [hh12 (by omega)]; rfl)
          | (have e0 : (s : Int) ≠ 0 := of_bne_int (by assumption)
             have e1 : (s : Int) ≠ 12 := of_bne_int (by assumption)
             rw [hhx (by omega) (by omega)]; rfl)
          | (rw [hh0 (by omega)]; rfl)
  · -- FEWER THAN EIGHT: the middle; nothing is counted
    obtain ⟨p, hp⟩ : ∃ p : Nat, p = J := ⟨_, rfl⟩
    obtain ⟨s, hs⟩ : ∃ s : Nat, s = 0 := ⟨_, rfl⟩
    have hraw : rawPivot lt d a b = (p, s) := by simp only [rawPivot, if_neg h8, ← hJ, hp, hs]
    rw [hraw]
    obtain ⟨Hc, hHc⟩ : ∃ Hc : Int, Hc = hintCode (hintOf s) := ⟨_, rfl⟩
    have hh0 : s = 0 → Hc = 1 := fun h => by rw [hHc, h]; rfl
    have hh12 : s = 12 → Hc = 2 := fun h => by rw [hHc, h]; rfl
    have hhx : s ≠ 0 → s ≠ 12 → Hc = 0 := fun h1 h2 => by rw [hHc]; unfold hintOf; rw [if_neg h1, if_neg h2]; rfl
    show Calls P (ρ.f 29) _ W fun e w' => e = .returned (.tuple #[.int .i64 (p : Int), .int .i64 (hintCode (hintOf s))]) ∧ ∃ n os, w' = grow (Sort.ahead W n) os
    rw [← hHc]
    clear hHc hraw
    subst hp
    clear MA MD hI hJ hK
    have hW0' : ((W.alloc (.cells #[.func (.func g) #[] lb, .func sfn sa sb] (ρ.t 44))).alloc (.cells #[.int .i64 0] (ρ.t 3))) = Wc 0 s #[] := by rw [hs]; exact hW0
    clear hW0
    go_enter L.f29, BodyGg.n29_ntmps ρ
    go_wp2
    all_goals
      go_ret2
      refine ⟨?_, hG _ _ _⟩
      first
        | (have e0 : (s : Int) = 0 := of_beq_int (by assumption)
           rw [hh0 (by omega)]; rfl)
        | (have e1 : (s : Int) = 12 := of_beq_int (by assumption)
           rw [hh12 (by omega)]; rfl)
        | (have e0 : (s : Int) ≠ 0 := of_bne_int (by assumption)
           have e1 : (s : Int) ≠ 12 := of_bne_int (by assumption)
           rw [hhx (by omega) (by omega)]; rfl)
        | (rw [hh0 (by omega)]; rfl)
end Go.Proofs.Ytopcofkpggefkaa

namespace Go.Proofs.Ytopcofkpggefkaa
open Go Go.Shelf Go.RowKit Go.Lib Go.Sort
variable {P : Program} {ρ : Ren} {α : Type} [Inhabited α]

set_option maxHeartbeats 6400000 in
set_option maxRecDepth 100000 in
theorem Any.partitionEqual_func_cells (L : LaysGg.n32 P ρ) (enc : α → List Value) (k : Nat) (hk : ∀ x, (enc x).length = k) (lt : α → α → Bool) (g : Nat) (lb : Array Value) (sf : Nat) (sb : Array Value) (blk off a b pivot : Nat) (d : Array α) (W : World)
    (eg : ∀ args w, (callFunc g args).run P w = .ok (.enter g args) w) (hless : LessReadsK P g lb enc k lt blk off d.size W) (hswap : SwapSwapsK P sf sb enc k blk off d.size)
    (hH : HoldsK enc k W blk off d) (hblk : blk < W.heap.size) (hap : a ≤ pivot) (hpb : pivot < b) (hb : b ≤ d.size) (hsz : d.size < 4611686018427387904) :
    Calls P (ρ.f 32) #[.agg #[.func (.func g) #[] lb, .func (.func sf) #[] sb], .int .i64 a, .int .i64 b, .int .i64 pivot] W fun e w' =>
      e = .returned (.int .i64 (Sort.partitionEqual lt d a b pivot).1) ∧ ∃ n, w' = (later (putRowK enc k (W.alloc (.cells #[.func (.func g) #[] lb, .func (.func sf) #[] sb] (ρ.t 44))) blk off (Sort.partitionEqual lt d a b pivot).2) n) := by
  have mixed := L.mixed; have t0 := L.t0; have a0 := L.a0; have z0 := L.z0; have v0 := L.v0; have t3 := L.t3; have a3 := L.a3; have z3 := L.z3; have v3 := L.v3; have t4 := L.t4; have a4 := L.a4; have z4 := L.z4; have v4 := L.v4; have t26 := L.t26; have a26 := L.a26; have z26 := L.z26; have v26 := L.v26; have t37 := L.t37; have a37 := L.a37; have z37 := L.z37; have v37 := L.v37; have t44 := L.t44; have a44 := L.a44; have z44 := L.z44; have v44 := L.v44
  have u44 := run_underlying L.t44
  have hla : a < d.size := by omega
  have hlp : pivot < d.size := by omega
  have hHB : HoldsK enc k (W.alloc (.cells #[.func (.func g) #[] lb, .func (.func sf) #[] sb] (ρ.t 44))) blk off d := by rw [alloc_eq_grow]; exact holdsK_grow enc k W _ blk off d hblk hH
  have swB : ∀ (dk : Array α) (n : Ln), SWK enc k W blk off dk (later (putRowK enc k (W.alloc (.cells #[.func (.func g) #[] lb, .func (.func sf) #[] sb] (ρ.t 44))) blk off dk) n) := fun dk n => by rw [later_alloc enc k W _ blk off n dk hblk]; exact ⟨_, _, rfl⟩
  have hblkB : blk < (W.alloc (.cells #[.func (.func g) #[] lb, .func (.func sf) #[] sb] (ρ.t 44))).heap.size := by rw [alloc_eq_grow, size_grow]; omega
  have b0 : ∀ (dk : Array α) (n : Ln), (later (putRowK enc k (W.alloc (.cells #[.func (.func g) #[] lb, .func (.func sf) #[] sb] (ρ.t 44))) blk off dk) n).cell? ⟨W.heap.size, 0, none⟩ = some (.func (.func g) #[] lb) := fun dk n => boxAt (by simp) hblk n
  have b1 : ∀ (dk : Array α) (n : Ln), (later (putRowK enc k (W.alloc (.cells #[.func (.func g) #[] lb, .func (.func sf) #[] sb] (ρ.t 44))) blk off dk) n).cell? ⟨W.heap.size, 1, none⟩ = some (.func (.func sf) #[] sb) := fun dk n => boxAt (by simp) hblk n
  obtain ⟨E0, hE0⟩ : ∃ E0 : Nat → List Value, ∀ t, E0 t = enc d[t]! := ⟨fun t => enc d[t]!, fun _ => rfl⟩
  have hs0 : (callFunc sf (#[.int .i64 a, .int .i64 pivot] ++ sb)).run P (W.alloc (.cells #[.func (.func g) #[] lb, .func (.func sf) #[] sb] (ρ.t 44))) = .ok (.value (.tuple #[])) ((((W.alloc (.cells #[.func (.func g) #[] lb, .func (.func sf) #[] sb] (ρ.t 44)))).setCells blk (off + a * k) (E0 pivot)).setCells blk (off + pivot * k) (E0 a)) := by
    rw [hE0, hE0]; exact hswap _ d hHB rfl a pivot hla hlp
  have A0 : Hid (∀ t, E0 t = enc d[t]!) := hE0
  have AH : Hid (HoldsK enc k (W.alloc (.cells #[.func (.func g) #[] lb, .func (.func sf) #[] sb] (ρ.t 44))) blk off d) := hHB
  clear hE0 hHB
  go_enter L.f32, BodyGg.n32_ntmps ρ
  go_wp2
  -- THE 'for {'
  go_loopw [9, 10] (fun vi vj wr => ∃ (i j : Nat) (n : Ln) (dk : Array α), vi = .int .i64 i ∧ vj = .int .i64 j ∧ a < i ∧ i ≤ j + 1 ∧ j < b ∧ dk.size = d.size ∧ wr = (later (putRowK enc k (W.alloc (.cells #[.func (.func g) #[] lb, .func (.func sf) #[] sb] (ρ.t 44))) blk off dk) n) ∧
      Sort.partEqLoop lt a i j dk = Sort.partEqLoop lt a (a + 1) (b - 1) (Sort.swp d a pivot))
    (fun vi vj _ => (intOf vj).toNat + 1 - (intOf vi).toNat)
  case atStart =>
    refine ⟨a + 1, b - 1, 0, Sort.swp d a pivot, by go_num, by go_num, by omega, by omega, by omega, size_swp _ _ _, ?_, rfl⟩
    rw [A0.out a, A0.out pivot, later_zero, alloc_eq_grow]
    show _ = putRowK enc k (W.alloc (.cells #[.func (.func g) #[] lb, .func (.func sf) #[] sb] (ρ.t 44))) blk off (Sort.swp d a pivot)
    rw [alloc_eq_grow, putRowK_grow enc k W _ blk off _ hblk, ← putRowK_swp enc k hk W blk off d a pivot hla hlp, putRowK_self enc k W blk off d hH, setCells_grow _ _ _ _ _ hblk, setCells_grow _ _ _ _ _ (by simpa using hblk)]
  case round =>
    obtain ⟨i, j, n, dk, rfl, rfl, hai, hij, hjb, hs, hw, heq⟩ := hrel
    clear hs0 A0 AH
    rename World => W1
    have hSW1 : ∀ m, SWK enc k W blk off dk (later W1 m) := fun m => by rw [hw]; exact SWK_later (swB dk n) m
    have c0 : ∀ m, (later W1 m).cell? ⟨W.heap.size, 0, none⟩ = some (.func (.func g) #[] lb) := fun m => by rw [hw, later_later]; exact b0 dk _
    have c1 : ∀ m, (later W1 m).cell? ⟨W.heap.size, 1, none⟩ = some (.func (.func sf) #[] sb) := fun m => by rw [hw, later_later]; exact b1 dk _
    have AW : Hid (W1 = (later (putRowK enc k (W.alloc (.cells #[.func (.func g) #[] lb, .func (.func sf) #[] sb] (ρ.t 44))) blk off dk) n)) := hw
    have AE : Hid (Sort.partEqLoop lt a i j dk = Sort.partEqLoop lt a (a + 1) (b - 1) (Sort.swp d a pivot)) := heq
    clear hw heq
    go_wp2
    -- THE UPWARD SCAN
    go_loopw [9] (fun vi w1 => ∃ (i' : Nat) (n1 : Ln), vi = .int .i64 i' ∧ i ≤ i' ∧ i' ≤ j + 1 ∧ w1 = (later W1 n1) ∧
        Hid (Sort.scanUp (fun x => !lt dk[a]! x) dk j i' = Sort.scanUp (fun x => !lt dk[a]! x) dk j i))
      (fun vi _ => j + 1 - (intOf vi).toNat)
    case atStart => exact ⟨i, 0, rfl, Nat.le_refl _, hij, (later_zero _).symm, rfl⟩
    case round =>
      obtain ⟨i', n1, rfl, hii, hij', hw1, hsc⟩ := hrel
      have d0 : wr.cell? ⟨W.heap.size, 0, none⟩ = some (.func (.func g) #[] lb) := by rw [hw1]; exact c0 n1
      have hSWr : SWK enc k W blk off dk wr := by rw [hw1]; exact hSW1 n1
      have HW1 : Hid (wr = (later W1 n1)) := hw1
      clear hw1
      by_cases hle : i' ≤ j
      · have hl := SWK_less hSWr hless hs a i' (by omega) (by omega)
        clear hSWr
        cases hlv : lt dk[a]! dk[i']! with
        | false =>
          -- it goes on: i++
          rw [hlv] at hl
          go_wp2_with (go_at_fn g; refine hl.mono ?_; rintro e w' ⟨rfl, nq, rfl⟩)
          go_roundw
          case rel => exact ⟨i' + 1, n1 + nq, by go_num, by omega, by omega, by rw [HW1.out, later_later], (scanUp_go (fun x => !lt dk[a]! x) dk j i' hle (by simp [hlv])).symm.trans hsc.out⟩
          case measure => simp [intOf]; omega
        | true =>
          -- it stops: the test has failed
          rw [hlv] at hl
          have hi2 : Hid (i' = Sort.scanUp (fun x => !lt dk[a]! x) dk j i) := (scanUp_end (fun x => !lt dk[a]! x) dk j i' (Or.inr (by simp [hlv]))).symm.trans hsc.out
          go_wp2_with (go_at_fn g; refine hl.mono ?_; rintro e w' ⟨rfl, nq, rfl⟩)
          -- THE DOWNWARD SCAN
          have hw2 : (later wr nq) = (later W1 (n1 + nq)) := by rw [HW1.out, later_later]
          clear d0 HW1 hsc
          go_loopw [10] (fun vj w2 => ∃ (j' : Nat) (n2 : Ln), vj = .int .i64 j' ∧ j' ≤ j ∧ i' ≤ j' + 1 ∧ w2 = (later W1 n2) ∧
              Hid (Sort.scanDown (fun x => lt dk[a]! x) dk i' j' = Sort.scanDown (fun x => lt dk[a]! x) dk i' j))
            (fun vj _ => (intOf vj).toNat)
          case atStart => exact ⟨j, n1 + nq, rfl, Nat.le_refl _, hij', hw2, rfl⟩
          case round =>
            clear hw2
            obtain ⟨j', n2, rfl, hjj, hij2, hw2, hsd⟩ := hrel
            have d0 : wr.cell? ⟨W.heap.size, 0, none⟩ = some (.func (.func g) #[] lb) := by rw [hw2]; exact c0 n2
            have d1 : ∀ q, (later wr q).cell? ⟨W.heap.size, 1, none⟩ = some (.func (.func sf) #[] sb) := fun q => by rw [hw2, later_later]; exact c1 _
            have hSWr : SWK enc k W blk off dk wr := by rw [hw2]; exact hSW1 n2
            have HW2 : Hid (wr = (later W1 n2)) := hw2
            clear hw2
            by_cases hle2 : i' ≤ j'
            · have hl := SWK_less hSWr hless hs a j' (by omega) (by omega)
              cases hlv2 : lt dk[a]! dk[j']! with
              | true =>
                -- it goes on: j--
                rw [hlv2] at hl
                go_wp2_with (go_at_fn g; refine hl.mono ?_; rintro e w' ⟨rfl, nq, rfl⟩)
                go_roundw
                case rel => exact ⟨j' - 1, n2 + nq, by go_num, by omega, by omega, by rw [HW2.out, later_later], (scanDown_go (fun x => lt dk[a]! x) dk i' j' hle2 (by omega) hlv2).symm.trans hsd.out⟩
                case measure => simp [intOf]; omega
              | false =>
                -- it stops: the exchange; i++; j--
                rw [hlv2] at hl
                have hj2 : Hid (j' = Sort.scanDown (fun x => lt dk[a]! x) dk i' j) := (scanDown_end (fun x => lt dk[a]! x) dk i' j' (Or.inr hlv2)).symm.trans hsd.out
                have hlt3 := scans_lt lt a i j dk (by omega) hi2.out hj2.out hle2
                obtain ⟨Ek, hEk⟩ : ∃ Ek : Nat → List Value, ∀ t, Ek t = enc dk[t]! := ⟨fun t => enc dk[t]!, fun _ => rfl⟩
                have hsw : ∀ q, (callFunc sf (#[.int .i64 i', .int .i64 j'] ++ sb)).run P (later wr q) = .ok (.value (.tuple #[])) (((later wr q).setCells blk (off + i' * k) (Ek j')).setCells blk (off + j' * k) (Ek i')) := fun q => by
                  rw [hEk, hEk]; exact hswap (later wr q) dk ((SWK_later hSWr q).holds hblk hH hs) hs i' j' (by omega) (by omega)
                have AK : Hid (∀ t, Ek t = enc dk[t]!) := hEk
                clear hEk hsd hSWr
                go_wp2_with (go_at_fn g; refine hl.mono ?_; rintro e w' ⟨rfl, nq, rfl⟩)
                go_roundw
                case rel =>
                  refine ⟨i' + 1, j' - 1, n + (n2 + nq), Sort.swp dk i' j', by go_num, by go_num, by omega, by omega, by omega, by rw [size_swp]; exact hs, ?_, ?_⟩
                  · rw [HW2.out, AW.out, later_later, later_later, AK.out i', AK.out j']
                    exact swap_worldFK enc k hk _ blk off hblkB dk _ i' j' (by omega) (by omega)
                  · rw [← AE.out]; exact (partEq_go lt a i j dk hi2.out hj2.out (by omega)).symm
                case measure => simp [intOf]; omega
            · -- it stops: i > j: break; return i
              have hj2 : Hid (j' = Sort.scanDown (fun x => lt dk[a]! x) dk i' j) := (scanDown_end (fun x => lt dk[a]! x) dk i' j' (Or.inl hle2)).symm.trans hsd.out
              clear hsd
              go_wp2
              go_ret
              have e := partEq_break lt a i j dk hi2.out hj2.out (by omega)
              refine ⟨?_, n + n2, ?_⟩
              · unfold Sort.partitionEqual; rw [← AE.out, e]; rfl
              · unfold Sort.partitionEqual; rw [← AE.out, e, HW2.out, AW.out, later_later]
      · -- it stops: i > j
        clear hSWr
        have hi2 : Hid (i' = Sort.scanUp (fun x => !lt dk[a]! x) dk j i) := (scanUp_end (fun x => !lt dk[a]! x) dk j i' (Or.inl hle)).symm.trans hsc.out
        go_wp2
        -- THE DOWNWARD SCAN
        have hw2 : wr = (later W1 (n1)) := by exact HW1.out
        clear d0 HW1 hsc
        go_loopw [10] (fun vj w2 => ∃ (j' : Nat) (n2 : Ln), vj = .int .i64 j' ∧ j' ≤ j ∧ i' ≤ j' + 1 ∧ w2 = (later W1 n2) ∧
            Hid (Sort.scanDown (fun x => lt dk[a]! x) dk i' j' = Sort.scanDown (fun x => lt dk[a]! x) dk i' j))
          (fun vj _ => (intOf vj).toNat)
        case atStart => exact ⟨j, n1, rfl, Nat.le_refl _, hij', hw2, rfl⟩
        case round =>
          clear hw2
          obtain ⟨j', n2, rfl, hjj, hij2, hw2, hsd⟩ := hrel
          have d0 : wr.cell? ⟨W.heap.size, 0, none⟩ = some (.func (.func g) #[] lb) := by rw [hw2]; exact c0 n2
          have d1 : ∀ q, (later wr q).cell? ⟨W.heap.size, 1, none⟩ = some (.func (.func sf) #[] sb) := fun q => by rw [hw2, later_later]; exact c1 _
          have hSWr : SWK enc k W blk off dk wr := by rw [hw2]; exact hSW1 n2
          have HW2 : Hid (wr = (later W1 n2)) := hw2
          clear hw2
          by_cases hle2 : i' ≤ j'
          · exfalso; omega      -- the upward scan has run past j, and j' ≤ j
          · -- it stops: i > j: break; return i
            have hj2 : Hid (j' = Sort.scanDown (fun x => lt dk[a]! x) dk i' j) := (scanDown_end (fun x => lt dk[a]! x) dk i' j' (Or.inl hle2)).symm.trans hsd.out
            clear hsd
            go_wp2
            go_ret
            have e := partEq_break lt a i j dk hi2.out hj2.out (by omega)
            refine ⟨?_, n + n2, ?_⟩
            · unfold Sort.partitionEqual; rw [← AE.out, e]; rfl
            · unfold Sort.partitionEqual; rw [← AE.out, e, HW2.out, AW.out, later_later]

set_option maxHeartbeats 12800000 in
set_option maxRecDepth 100000 in
theorem Any.partition_func_cells (L : LaysGg.n33 P ρ) (enc : α → List Value) (k : Nat) (hk : ∀ x, (enc x).length = k) (lt : α → α → Bool) (g : Nat) (lb : Array Value) (sf : Nat) (sb : Array Value) (blk off a b pivot : Nat) (d : Array α) (W : World)
    (eg : ∀ args w, (callFunc g args).run P w = .ok (.enter g args) w) (hless : LessReadsK P g lb enc k lt blk off d.size W) (hswap : SwapSwapsK P sf sb enc k blk off d.size)
    (hH : HoldsK enc k W blk off d) (hblk : blk < W.heap.size) (hap : a ≤ pivot) (hpb : pivot < b) (hb : b ≤ d.size) (hsz : d.size < 4611686018427387904) :
    Calls P (ρ.f 33) #[.agg #[.func (.func g) #[] lb, .func (.func sf) #[] sb], .int .i64 a, .int .i64 b, .int .i64 pivot] W fun e w' =>
      e = .returned (.tuple #[.int .i64 (Sort.partition lt d a b pivot).1, .bool (Sort.partition lt d a b pivot).2.1]) ∧ ∃ n, w' = (later (putRowK enc k (W.alloc (.cells #[.func (.func g) #[] lb, .func (.func sf) #[] sb] (ρ.t 44))) blk off (Sort.partition lt d a b pivot).2.2) n) := by
  have mixed := L.mixed; have t0 := L.t0; have a0 := L.a0; have z0 := L.z0; have v0 := L.v0; have t3 := L.t3; have a3 := L.a3; have z3 := L.z3; have v3 := L.v3; have t4 := L.t4; have a4 := L.a4; have z4 := L.z4; have v4 := L.v4; have t26 := L.t26; have a26 := L.a26; have z26 := L.z26; have v26 := L.v26; have t37 := L.t37; have a37 := L.a37; have z37 := L.z37; have v37 := L.v37; have t44 := L.t44; have a44 := L.a44; have z44 := L.z44; have v44 := L.v44
  have u44 := run_underlying L.t44
  have hla : a < d.size := by omega
  have hlp : pivot < d.size := by omega
  have hHB : HoldsK enc k (W.alloc (.cells #[.func (.func g) #[] lb, .func (.func sf) #[] sb] (ρ.t 44))) blk off d := by rw [alloc_eq_grow]; exact holdsK_grow enc k W _ blk off d hblk hH
  have swB : ∀ (dk : Array α) (n : Ln), SWK enc k W blk off dk (later (putRowK enc k (W.alloc (.cells #[.func (.func g) #[] lb, .func (.func sf) #[] sb] (ρ.t 44))) blk off dk) n) := fun dk n => by rw [later_alloc enc k W _ blk off n dk hblk]; exact ⟨_, _, rfl⟩
  have hblkB : blk < (W.alloc (.cells #[.func (.func g) #[] lb, .func (.func sf) #[] sb] (ρ.t 44))).heap.size := by rw [alloc_eq_grow, size_grow]; omega
  have b0 : ∀ (dk : Array α) (n : Ln), (later (putRowK enc k (W.alloc (.cells #[.func (.func g) #[] lb, .func (.func sf) #[] sb] (ρ.t 44))) blk off dk) n).cell? ⟨W.heap.size, 0, none⟩ = some (.func (.func g) #[] lb) := fun dk n => boxAt (by simp) hblk n
  have b1 : ∀ (dk : Array α) (n : Ln), (later (putRowK enc k (W.alloc (.cells #[.func (.func g) #[] lb, .func (.func sf) #[] sb] (ρ.t 44))) blk off dk) n).cell? ⟨W.heap.size, 1, none⟩ = some (.func (.func sf) #[] sb) := fun dk n => boxAt (by simp) hblk n
  -- THE FIRST ROUND's STATE UNDER THE NAMES THAT EVERY ROUND USES; the world behind the first exchange a variable
  obtain ⟨i, hi⟩ : ∃ i : Nat, i = a + 1 := ⟨_, rfl⟩
  obtain ⟨j, hj⟩ : ∃ j : Nat, j = b - 1 := ⟨_, rfl⟩
  obtain ⟨dk, hdk⟩ : ∃ dk : Array α, dk = Sort.swp d a pivot := ⟨_, rfl⟩
  obtain ⟨n, hn⟩ : ∃ n : Ln, n = 0 := ⟨_, rfl⟩
  have hs : dk.size = d.size := by rw [hdk]; exact size_swp _ _ _
  have hai : a < i := by omega
  have hij : i ≤ j + 1 := by omega
  have hjb : j < b := by omega
  obtain ⟨W1, hW1⟩ : ∃ W1 : World, W1 = (((W.alloc (.cells #[.func (.func g) #[] lb, .func (.func sf) #[] sb] (ρ.t 44)))).setCells blk (off + a * k) (enc d[pivot]!)).setCells blk (off + pivot * k) (enc d[a]!) := ⟨_, rfl⟩
  have hs0 : (callFunc sf (#[.int .i64 a, .int .i64 pivot] ++ sb)).run P (W.alloc (.cells #[.func (.func g) #[] lb, .func (.func sf) #[] sb] (ρ.t 44))) = .ok (.value (.tuple #[])) W1 := by rw [hW1]; exact hswap _ d hHB rfl a pivot hla hlp
  have hw : W1 = (later (putRowK enc k (W.alloc (.cells #[.func (.func g) #[] lb, .func (.func sf) #[] sb] (ρ.t 44))) blk off dk) n) := by
    have e := swap_worldFK enc k hk (W.alloc (.cells #[.func (.func g) #[] lb, .func (.func sf) #[] sb] (ρ.t 44))) blk off hblkB d 0 a pivot hla hlp
    rw [later_zero, later_zero, putRowK_self _ _ _ blk off d hHB] at e
    rw [hW1, hdk, hn, later_zero]; exact e
  have hSW1 : ∀ m, SWK enc k W blk off dk (later W1 m) := fun m => by rw [hw]; exact SWK_later (swB dk n) m
  have c0 : ∀ m, (later W1 m).cell? ⟨W.heap.size, 0, none⟩ = some (.func (.func g) #[] lb) := fun m => by rw [hw, later_later]; exact b0 dk _
  have c1 : ∀ m, (later W1 m).cell? ⟨W.heap.size, 1, none⟩ = some (.func (.func sf) #[] sb) := fun m => by rw [hw, later_later]; exact b1 dk _
  have AW : Hid (W1 = (later (putRowK enc k (W.alloc (.cells #[.func (.func g) #[] lb, .func (.func sf) #[] sb] (ρ.t 44))) blk off dk) n)) := hw
  have Hi : Hid (i = a + 1) := hi
  have Hj : Hid (j = b - 1) := hj
  have Hdk : Hid (dk = Sort.swp d a pivot) := hdk
  clear hw hW1 hHB hn hi hj hdk
  go_enter L.f33, BodyGg.n33_ntmps ρ
  go_wp2
  rw [show ((a : Int) + 1) = (i : Int) by have := Hi.out; omega, show ((b : Int) - 1) = (j : Int) by have := Hj.out; omega]
  -- THE UPWARD SCAN
  go_loopw [10] (fun vi w1 => ∃ (i' : Nat) (n1 : Ln), vi = .int .i64 i' ∧ i ≤ i' ∧ i' ≤ j + 1 ∧ w1 = (later W1 n1) ∧
      Hid (Sort.scanUp (fun x => lt x dk[a]!) dk j i' = Sort.scanUp (fun x => lt x dk[a]!) dk j i))
    (fun vi _ => j + 1 - (intOf vi).toNat)
  case atStart => exact ⟨i, 0, rfl, Nat.le_refl _, hij, (later_zero _).symm, rfl⟩
  case round =>
    obtain ⟨i', n1, rfl, hii, hij', hw1, hsc⟩ := hrel
    have d0 : wr.cell? ⟨W.heap.size, 0, none⟩ = some (.func (.func g) #[] lb) := by rw [hw1]; exact c0 n1
    have hSWr : SWK enc k W blk off dk wr := by rw [hw1]; exact hSW1 n1
    have HW1 : Hid (wr = (later W1 n1)) := hw1
    clear hw1
    by_cases hle : i' ≤ j
    · have hl := SWK_less hSWr hless hs i' a (by omega) (by omega)
      clear hSWr
      cases hlv : lt dk[i']! dk[a]! with
      | true =>
        -- it goes on: i++
        rw [hlv] at hl
        go_wp2_with (go_at_fn g; refine hl.mono ?_; rintro e w' ⟨rfl, nq, rfl⟩)
        go_roundw
        case rel => exact ⟨i' + 1, n1 + nq, by go_num, by omega, by omega, by rw [HW1.out, later_later], (scanUp_go (fun x => lt x dk[a]!) dk j i' hle hlv).symm.trans hsc.out⟩
        case measure => simp [intOf]; omega
      | false =>
        -- it stops: the test has failed
        rw [hlv] at hl
        have hi2 : Hid (i' = Sort.scanUp (fun x => lt x dk[a]!) dk j i) := (scanUp_end (fun x => lt x dk[a]!) dk j i' (Or.inr hlv)).symm.trans hsc.out
        go_wp2_with (go_at_fn g; refine hl.mono ?_; rintro e w' ⟨rfl, nq, rfl⟩)
        -- THE DOWNWARD SCAN
        have hw2 : (later wr nq) = (later W1 (n1 + nq)) := by rw [HW1.out, later_later]
        clear d0 HW1 hsc
        go_loopw [11] (fun vj w2 => ∃ (j' : Nat) (n2 : Ln), vj = .int .i64 j' ∧ j' ≤ j ∧ i' ≤ j' + 1 ∧ w2 = (later W1 n2) ∧
            Hid (Sort.scanDown (fun x => !lt x dk[a]!) dk i' j' = Sort.scanDown (fun x => !lt x dk[a]!) dk i' j))
          (fun vj _ => (intOf vj).toNat)
        case atStart => exact ⟨j, n1 + nq, rfl, Nat.le_refl _, hij', hw2, rfl⟩
        case round =>
          clear hw2
          obtain ⟨j', n2, rfl, hjj, hij2, hw2, hsd⟩ := hrel
          have d0 : wr.cell? ⟨W.heap.size, 0, none⟩ = some (.func (.func g) #[] lb) := by rw [hw2]; exact c0 n2
          have d1 : ∀ q, (later wr q).cell? ⟨W.heap.size, 1, none⟩ = some (.func (.func sf) #[] sb) := fun q => by rw [hw2, later_later]; exact c1 _
          have hSWr : SWK enc k W blk off dk wr := by rw [hw2]; exact hSW1 n2
          have HW2 : Hid (wr = (later W1 n2)) := hw2
          clear hw2
          by_cases hle2 : i' ≤ j'
          · have hl := SWK_less hSWr hless hs j' a (by omega) (by omega)
            cases hlv2 : lt dk[j']! dk[a]! with
            | false =>
              -- it goes on: j--
              rw [hlv2] at hl
              go_wp2_with (go_at_fn g; refine hl.mono ?_; rintro e w' ⟨rfl, nq, rfl⟩)
              go_roundw
              case rel => exact ⟨j' - 1, n2 + nq, by go_num, by omega, by omega, by rw [HW2.out, later_later], (scanDown_go (fun x => !lt x dk[a]!) dk i' j' hle2 (by omega) (by simp [hlv2])).symm.trans hsd.out⟩
              case measure => simp [intOf]; omega
            | true =>
              -- it stops: the exchange; i++; j--
              rw [hlv2] at hl
              have hj2 : Hid (j' = Sort.scanDown (fun x => !lt x dk[a]!) dk i' j) := (scanDown_end (fun x => !lt x dk[a]!) dk i' j' (Or.inr (by simp [hlv2]))).symm.trans hsd.out
              have hlt3 := part_scans_lt lt a i j dk (by omega) hi2.out hj2.out hle2
              obtain ⟨Ek, hEk⟩ : ∃ Ek : Nat → List Value, ∀ t, Ek t = enc dk[t]! := ⟨fun t => enc dk[t]!, fun _ => rfl⟩
              have hsw : ∀ q, (callFunc sf (#[.int .i64 i', .int .i64 j'] ++ sb)).run P (later wr q) = .ok (.value (.tuple #[])) (((later wr q).setCells blk (off + i' * k) (Ek j')).setCells blk (off + j' * k) (Ek i')) := fun q => by
                rw [hEk, hEk]; exact hswap (later wr q) dk ((SWK_later hSWr q).holds hblk hH hs) hs i' j' (by omega) (by omega)
              have AK : Hid (∀ t, Ek t = enc dk[t]!) := hEk
              clear hEk hsd hSWr
              go_wp2_with (go_at_fn g; refine hl.mono ?_; rintro e w' ⟨rfl, nq, rfl⟩)
              -- THE 'for {'  (the first round's test 'i > j' stands in a slot as 'decide (j' < i')': laid as 'false' AHEAD of the loop, or the rounds' frames part there)
              rw [decide_eq_false (show ¬ j' < i' by omega)]
              obtain ⟨I0, hI0⟩ : ∃ I0 : Nat, I0 = i' + 1 := ⟨_, rfl⟩
              obtain ⟨J0, hJ0⟩ : ∃ J0 : Nat, J0 = j' - 1 := ⟨_, rfl⟩
              obtain ⟨D0, hD0⟩ : ∃ D0 : Array α, D0 = Sort.swp dk i' j' := ⟨_, rfl⟩
              have PF : Hid (Sort.partition lt d a b pivot = ((Sort.partLoop lt a I0 J0 D0).1, false, Sort.swp (Sort.partLoop lt a I0 J0 D0).2 (Sort.partLoop lt a I0 J0 D0).1 a)) := by
                rw [hI0, hJ0, hD0]; exact part_first_go lt d a b pivot Hi.out Hj.out Hdk.out hi2.out hj2.out (by omega)
              go_loopw [10, 11] (fun vi vj wr => ∃ (i j : Nat) (n : Ln) (dk : Array α), vi = .int .i64 i ∧ vj = .int .i64 j ∧ a < i ∧ i ≤ j + 1 ∧ j < b ∧ dk.size = d.size ∧ wr = (later (putRowK enc k (W.alloc (.cells #[.func (.func g) #[] lb, .func (.func sf) #[] sb] (ρ.t 44))) blk off dk) n) ∧
                  Sort.partLoop lt a i j dk = Sort.partLoop lt a I0 J0 D0)
                (fun vi vj _ => (intOf vj).toNat + 1 - (intOf vi).toNat)
              case atStart =>
                refine ⟨i' + 1, j' - 1, n + (n2 + nq), Sort.swp dk i' j', by go_num, by go_num, by omega, by omega, by omega, by rw [size_swp]; exact hs, ?_, by rw [hI0, hJ0, hD0]⟩
                rw [HW2.out, AW.out, later_later, later_later, AK.out i', AK.out j']
                exact swap_worldFK enc k hk _ blk off hblkB dk _ i' j' (by omega) (by omega)
              case round =>
                clear hI0 hJ0 hD0 hsw AK HW2 hj2 hi2 hlt3 d0 d1 hl c0 c1 hSW1 AW Hi Hj Hdk hs
                obtain ⟨i, j, n, dk, rfl, rfl, hai, hij, hjb, hs, hw, heq⟩ := hrel
                rename World => W1
                have hSW1 : ∀ m, SWK enc k W blk off dk (later W1 m) := fun m => by rw [hw]; exact SWK_later (swB dk n) m
                have c0 : ∀ m, (later W1 m).cell? ⟨W.heap.size, 0, none⟩ = some (.func (.func g) #[] lb) := fun m => by rw [hw, later_later]; exact b0 dk _
                have c1 : ∀ m, (later W1 m).cell? ⟨W.heap.size, 1, none⟩ = some (.func (.func sf) #[] sb) := fun m => by rw [hw, later_later]; exact b1 dk _
                have AW : Hid (W1 = (later (putRowK enc k (W.alloc (.cells #[.func (.func g) #[] lb, .func (.func sf) #[] sb] (ρ.t 44))) blk off dk) n)) := hw
                have AE : Hid (Sort.partLoop lt a i j dk = Sort.partLoop lt a I0 J0 D0) := heq
                clear hw heq
                go_wp2
                -- THE UPWARD SCAN
                go_loopw [10] (fun vi w1 => ∃ (i' : Nat) (n1 : Ln), vi = .int .i64 i' ∧ i ≤ i' ∧ i' ≤ j + 1 ∧ w1 = (later W1 n1) ∧
                    Hid (Sort.scanUp (fun x => lt x dk[a]!) dk j i' = Sort.scanUp (fun x => lt x dk[a]!) dk j i))
                  (fun vi _ => j + 1 - (intOf vi).toNat)
                case atStart => exact ⟨i, 0, rfl, Nat.le_refl _, hij, (later_zero _).symm, rfl⟩
                case round =>
                  obtain ⟨i', n1, rfl, hii, hij', hw1, hsc⟩ := hrel
                  have d0 : wr.cell? ⟨W.heap.size, 0, none⟩ = some (.func (.func g) #[] lb) := by rw [hw1]; exact c0 n1
                  have hSWr : SWK enc k W blk off dk wr := by rw [hw1]; exact hSW1 n1
                  have HW1 : Hid (wr = (later W1 n1)) := hw1
                  clear hw1
                  by_cases hle : i' ≤ j
                  · have hl := SWK_less hSWr hless hs i' a (by omega) (by omega)
                    clear hSWr
                    cases hlv : lt dk[i']! dk[a]! with
                    | true =>
                      -- it goes on: i++
                      rw [hlv] at hl
                      go_wp2_with (go_at_fn g; refine hl.mono ?_; rintro e w' ⟨rfl, nq, rfl⟩)
                      go_roundw
                      case rel => exact ⟨i' + 1, n1 + nq, by go_num, by omega, by omega, by rw [HW1.out, later_later], (scanUp_go (fun x => lt x dk[a]!) dk j i' hle hlv).symm.trans hsc.out⟩
                      case measure => simp [intOf]; omega
                    | false =>
                      -- it stops: the test has failed
                      rw [hlv] at hl
                      have hi2 : Hid (i' = Sort.scanUp (fun x => lt x dk[a]!) dk j i) := (scanUp_end (fun x => lt x dk[a]!) dk j i' (Or.inr hlv)).symm.trans hsc.out
                      go_wp2_with (go_at_fn g; refine hl.mono ?_; rintro e w' ⟨rfl, nq, rfl⟩)
                      -- THE DOWNWARD SCAN
                      have hw2 : (later wr nq) = (later W1 (n1 + nq)) := by rw [HW1.out, later_later]
                      clear d0 HW1 hsc
                      go_loopw [11] (fun vj w2 => ∃ (j' : Nat) (n2 : Ln), vj = .int .i64 j' ∧ j' ≤ j ∧ i' ≤ j' + 1 ∧ w2 = (later W1 n2) ∧
                          Hid (Sort.scanDown (fun x => !lt x dk[a]!) dk i' j' = Sort.scanDown (fun x => !lt x dk[a]!) dk i' j))
                        (fun vj _ => (intOf vj).toNat)
                      case atStart => exact ⟨j, n1 + nq, rfl, Nat.le_refl _, hij', hw2, rfl⟩
                      case round =>
                        clear hw2
                        obtain ⟨j', n2, rfl, hjj, hij2, hw2, hsd⟩ := hrel
                        have d0 : wr.cell? ⟨W.heap.size, 0, none⟩ = some (.func (.func g) #[] lb) := by rw [hw2]; exact c0 n2
                        have d1 : ∀ q, (later wr q).cell? ⟨W.heap.size, 1, none⟩ = some (.func (.func sf) #[] sb) := fun q => by rw [hw2, later_later]; exact c1 _
                        have hSWr : SWK enc k W blk off dk wr := by rw [hw2]; exact hSW1 n2
                        have HW2 : Hid (wr = (later W1 n2)) := hw2
                        clear hw2
                        by_cases hle2 : i' ≤ j'
                        · have hl := SWK_less hSWr hless hs j' a (by omega) (by omega)
                          cases hlv2 : lt dk[j']! dk[a]! with
                          | false =>
                            -- it goes on: j--
                            rw [hlv2] at hl
                            go_wp2_with (go_at_fn g; refine hl.mono ?_; rintro e w' ⟨rfl, nq, rfl⟩)
                            go_roundw
                            case rel => exact ⟨j' - 1, n2 + nq, by go_num, by omega, by omega, by rw [HW2.out, later_later], (scanDown_go (fun x => !lt x dk[a]!) dk i' j' hle2 (by omega) (by simp [hlv2])).symm.trans hsd.out⟩
                            case measure => simp [intOf]; omega
                          | true =>
                            -- it stops: the exchange; i++; j--
                            rw [hlv2] at hl
                            have hj2 : Hid (j' = Sort.scanDown (fun x => !lt x dk[a]!) dk i' j) := (scanDown_end (fun x => !lt x dk[a]!) dk i' j' (Or.inr (by simp [hlv2]))).symm.trans hsd.out
                            have hlt3 := part_scans_lt lt a i j dk (by omega) hi2.out hj2.out hle2
                            obtain ⟨Ek, hEk⟩ : ∃ Ek : Nat → List Value, ∀ t, Ek t = enc dk[t]! := ⟨fun t => enc dk[t]!, fun _ => rfl⟩
                            have hsw : ∀ q, (callFunc sf (#[.int .i64 i', .int .i64 j'] ++ sb)).run P (later wr q) = .ok (.value (.tuple #[])) (((later wr q).setCells blk (off + i' * k) (Ek j')).setCells blk (off + j' * k) (Ek i')) := fun q => by
                              rw [hEk, hEk]; exact hswap (later wr q) dk ((SWK_later hSWr q).holds hblk hH hs) hs i' j' (by omega) (by omega)
                            have AK : Hid (∀ t, Ek t = enc dk[t]!) := hEk
                            clear hEk hsd hSWr
                            go_wp2_with (go_at_fn g; refine hl.mono ?_; rintro e w' ⟨rfl, nq, rfl⟩)
                            go_roundw
                            case rel =>
                              refine ⟨i' + 1, j' - 1, n + (n2 + nq), Sort.swp dk i' j', by go_num, by go_num, by omega, by omega, by omega, by rw [size_swp]; exact hs, ?_, ?_⟩
                              · rw [HW2.out, AW.out, later_later, later_later, AK.out i', AK.out j']
                                exact swap_worldFK enc k hk _ blk off hblkB dk _ i' j' (by omega) (by omega)
                              · rw [← AE.out]; exact (part_go lt a i j dk hi2.out hj2.out (by omega)).symm
                            case measure => simp [intOf]; omega
                        · -- it stops: i > j
                          have hj2 : Hid (j' = Sort.scanDown (fun x => !lt x dk[a]!) dk i' j) := (scanDown_end (fun x => !lt x dk[a]!) dk i' j' (Or.inl hle2)).symm.trans hsd.out
                          obtain ⟨Ek, hEk⟩ : ∃ Ek : Nat → List Value, ∀ t, Ek t = enc dk[t]! := ⟨fun t => enc dk[t]!, fun _ => rfl⟩
                          have hsw : (callFunc sf (#[.int .i64 j', .int .i64 a] ++ sb)).run P wr = .ok (.value (.tuple #[])) ((wr.setCells blk (off + j' * k) (Ek a)).setCells blk (off + a * k) (Ek j')) := by
                            rw [hEk, hEk]; exact hswap wr dk (hSWr.holds hblk hH hs) hs j' a (by omega) (by omega)
                          have d1' : wr.cell? ⟨W.heap.size, 1, none⟩ = some (.func (.func sf) #[] sb) := (by have h0 := d1 0; rwa [later_zero] at h0)
                          have AK : Hid (∀ t, Ek t = enc dk[t]!) := hEk
                          clear hEk hsd hSWr
                          go_wp2
                          go_ret2
                          have e := part_break lt a i j dk hi2.out hj2.out (by omega)
                          rw [PF.out, ← AE.out, e]
                          refine ⟨rfl, n + n2, ?_⟩
                          rw [HW2.out, AW.out, later_later, AK.out j', AK.out a]
                          exact swap_worldFK enc k hk _ blk off hblkB dk _ j' a (by omega) (by omega)
                  · -- it stops: i > j
                    clear hSWr
                    have hi2 : Hid (i' = Sort.scanUp (fun x => lt x dk[a]!) dk j i) := (scanUp_end (fun x => lt x dk[a]!) dk j i' (Or.inl hle)).symm.trans hsc.out
                    go_wp2
                    -- THE DOWNWARD SCAN
                    have hw2 : wr = (later W1 (n1)) := by exact HW1.out
                    clear d0 HW1 hsc
                    go_loopw [11] (fun vj w2 => ∃ (j' : Nat) (n2 : Ln), vj = .int .i64 j' ∧ j' ≤ j ∧ i' ≤ j' + 1 ∧ w2 = (later W1 n2) ∧
                        Hid (Sort.scanDown (fun x => !lt x dk[a]!) dk i' j' = Sort.scanDown (fun x => !lt x dk[a]!) dk i' j))
                      (fun vj _ => (intOf vj).toNat)
                    case atStart => exact ⟨j, n1, rfl, Nat.le_refl _, hij', hw2, rfl⟩
                    case round =>
                      clear hw2
                      obtain ⟨j', n2, rfl, hjj, hij2, hw2, hsd⟩ := hrel
                      have d0 : wr.cell? ⟨W.heap.size, 0, none⟩ = some (.func (.func g) #[] lb) := by rw [hw2]; exact c0 n2
                      have d1 : ∀ q, (later wr q).cell? ⟨W.heap.size, 1, none⟩ = some (.func (.func sf) #[] sb) := fun q => by rw [hw2, later_later]; exact c1 _
                      have hSWr : SWK enc k W blk off dk wr := by rw [hw2]; exact hSW1 n2
                      have HW2 : Hid (wr = (later W1 n2)) := hw2
                      clear hw2
                      by_cases hle2 : i' ≤ j'
                      · exfalso; omega      -- the upward scan has run past j, and j' ≤ j
                      · -- it stops: i > j
                        have hj2 : Hid (j' = Sort.scanDown (fun x => !lt x dk[a]!) dk i' j) := (scanDown_end (fun x => !lt x dk[a]!) dk i' j' (Or.inl hle2)).symm.trans hsd.out
                        obtain ⟨Ek, hEk⟩ : ∃ Ek : Nat → List Value, ∀ t, Ek t = enc dk[t]! := ⟨fun t => enc dk[t]!, fun _ => rfl⟩
                        have hsw : (callFunc sf (#[.int .i64 j', .int .i64 a] ++ sb)).run P wr = .ok (.value (.tuple #[])) ((wr.setCells blk (off + j' * k) (Ek a)).setCells blk (off + a * k) (Ek j')) := by
                          rw [hEk, hEk]; exact hswap wr dk (hSWr.holds hblk hH hs) hs j' a (by omega) (by omega)
                        have d1' : wr.cell? ⟨W.heap.size, 1, none⟩ = some (.func (.func sf) #[] sb) := (by have h0 := d1 0; rwa [later_zero] at h0)
                        have AK : Hid (∀ t, Ek t = enc dk[t]!) := hEk
                        clear hEk hsd hSWr
                        go_wp2
                        go_ret2
                        have e := part_break lt a i j dk hi2.out hj2.out (by omega)
                        rw [PF.out, ← AE.out, e]
                        refine ⟨rfl, n + n2, ?_⟩
                        rw [HW2.out, AW.out, later_later, AK.out j', AK.out a]
                        exact swap_worldFK enc k hk _ blk off hblkB dk _ j' a (by omega) (by omega)
          · -- it stops: i > j
            have hj2 : Hid (j' = Sort.scanDown (fun x => !lt x dk[a]!) dk i' j) := (scanDown_end (fun x => !lt x dk[a]!) dk i' j' (Or.inl hle2)).symm.trans hsd.out
            obtain ⟨Ek, hEk⟩ : ∃ Ek : Nat → List Value, ∀ t, Ek t = enc dk[t]! := ⟨fun t => enc dk[t]!, fun _ => rfl⟩
            have hsw : (callFunc sf (#[.int .i64 j', .int .i64 a] ++ sb)).run P wr = .ok (.value (.tuple #[])) ((wr.setCells blk (off + j' * k) (Ek a)).setCells blk (off + a * k) (Ek j')) := by
              rw [hEk, hEk]; exact hswap wr dk (hSWr.holds hblk hH hs) hs j' a (by omega) (by omega)
            have d1' : wr.cell? ⟨W.heap.size, 1, none⟩ = some (.func (.func sf) #[] sb) := (by have h0 := d1 0; rwa [later_zero] at h0)
            have AK : Hid (∀ t, Ek t = enc dk[t]!) := hEk
            clear hEk hsd hSWr
            go_wp2
            go_ret2
            have e := part_first_break lt d a b pivot Hi.out Hj.out Hdk.out hi2.out hj2.out (by omega)
            rw [e]
            refine ⟨rfl, n + n2, ?_⟩
            rw [HW2.out, AW.out, later_later, AK.out j', AK.out a]
            exact swap_worldFK enc k hk _ blk off hblkB dk _ j' a (by omega) (by omega)
    · -- it stops: i > j
      clear hSWr
      have hi2 : Hid (i' = Sort.scanUp (fun x => lt x dk[a]!) dk j i) := (scanUp_end (fun x => lt x dk[a]!) dk j i' (Or.inl hle)).symm.trans hsc.out
      go_wp2
      -- THE DOWNWARD SCAN
      have hw2 : wr = (later W1 (n1)) := by exact HW1.out
      clear d0 HW1 hsc
      go_loopw [11] (fun vj w2 => ∃ (j' : Nat) (n2 : Ln), vj = .int .i64 j' ∧ j' ≤ j ∧ i' ≤ j' + 1 ∧ w2 = (later W1 n2) ∧
          Hid (Sort.scanDown (fun x => !lt x dk[a]!) dk i' j' = Sort.scanDown (fun x => !lt x dk[a]!) dk i' j))
        (fun vj _ => (intOf vj).toNat)
      case atStart => exact ⟨j, n1, rfl, Nat.le_refl _, hij', hw2, rfl⟩
      case round =>
        clear hw2
        obtain ⟨j', n2, rfl, hjj, hij2, hw2, hsd⟩ := hrel
        have d0 : wr.cell? ⟨W.heap.size, 0, none⟩ = some (.func (.func g) #[] lb) := by rw [hw2]; exact c0 n2
        have d1 : ∀ q, (later wr q).cell? ⟨W.heap.size, 1, none⟩ = some (.func (.func sf) #[] sb) := fun q => by rw [hw2, later_later]; exact c1 _
        have hSWr : SWK enc k W blk off dk wr := by rw [hw2]; exact hSW1 n2
        have HW2 : Hid (wr = (later W1 n2)) := hw2
        clear hw2
        by_cases hle2 : i' ≤ j'
        · exfalso; omega      -- the upward scan has run past j, and j' ≤ j
        · -- it stops: i > j
          have hj2 : Hid (j' = Sort.scanDown (fun x => !lt x dk[a]!) dk i' j) := (scanDown_end (fun x => !lt x dk[a]!) dk i' j' (Or.inl hle2)).symm.trans hsd.out
          obtain ⟨Ek, hEk⟩ : ∃ Ek : Nat → List Value, ∀ t, Ek t = enc dk[t]! := ⟨fun t => enc dk[t]!, fun _ => rfl⟩
          have hsw : (callFunc sf (#[.int .i64 j', .int .i64 a] ++ sb)).run P wr = .ok (.value (.tuple #[])) ((wr.setCells blk (off + j' * k) (Ek a)).setCells blk (off + a * k) (Ek j')) := by
            rw [hEk, hEk]; exact hswap wr dk (hSWr.holds hblk hH hs) hs j' a (by omega) (by omega)
          have d1' : wr.cell? ⟨W.heap.size, 1, none⟩ = some (.func (.func sf) #[] sb) := (by have h0 := d1 0; rwa [later_zero] at h0)
          have AK : Hid (∀ t, Ek t = enc dk[t]!) := hEk
          clear hEk hsd hSWr
          go_wp2
          go_ret2
          have e := part_first_break lt d a b pivot Hi.out Hj.out Hdk.out hi2.out hj2.out (by omega)
          rw [e]
          refine ⟨rfl, n + n2, ?_⟩
          rw [HW2.out, AW.out, later_later, AK.out j', AK.out a]
          exact swap_worldFK enc k hk _ blk off hblkB dk _ j' a (by omega) (by omega)

theorem Any.partitionEqual_func_cells_w (L : LaysGg.n32 P ρ) (enc : α → List Value) (k : Nat) (hk : ∀ x, (enc x).length = k) (lt : α → α → Bool) (g : Nat) (lb : Array Value) (sf : Nat) (sb : Array Value) (blk off a b pivot : Nat) (d : Array α) (W : World)
    (eg : ∀ args w, (callFunc g args).run P w = .ok (.enter g args) w) (hless : LessReadsK P g lb enc k lt blk off d.size W) (hswap : SwapSwapsK P sf sb enc k blk off d.size)
    (hH : HoldsK enc k W blk off d) (hblk : blk < W.heap.size) (hap : a ≤ pivot) (hpb : pivot < b) (hb : b ≤ d.size) (hsz : d.size < 4611686018427387904) :
    Calls P (ρ.f 32) #[.agg #[.func (.func g) #[] lb, .func (.func sf) #[] sb], .int .i64 a, .int .i64 b, .int .i64 pivot] W fun e w' => e = .returned (.int .i64 (Sort.partitionEqual lt d a b pivot).1) ∧ ∃ n os, w' = sortWorldK enc k W blk off n (Sort.partitionEqual lt d a b pivot).2 os :=
  (Any.partitionEqual_func_cells L enc k hk lt g lb sf sb blk off a b pivot d W eg hless hswap hH hblk hap hpb hb hsz).mono fun _ _ ⟨he, n, hw⟩ => ⟨he, n.n, _, hw.trans (later_alloc enc k W _ blk off n _ hblk)⟩

theorem Any.partition_func_cells_w (L : LaysGg.n33 P ρ) (enc : α → List Value) (k : Nat) (hk : ∀ x, (enc x).length = k) (lt : α → α → Bool) (g : Nat) (lb : Array Value) (sf : Nat) (sb : Array Value) (blk off a b pivot : Nat) (d : Array α) (W : World)
    (eg : ∀ args w, (callFunc g args).run P w = .ok (.enter g args) w) (hless : LessReadsK P g lb enc k lt blk off d.size W) (hswap : SwapSwapsK P sf sb enc k blk off d.size)
    (hH : HoldsK enc k W blk off d) (hblk : blk < W.heap.size) (hap : a ≤ pivot) (hpb : pivot < b) (hb : b ≤ d.size) (hsz : d.size < 4611686018427387904) :
    Calls P (ρ.f 33) #[.agg #[.func (.func g) #[] lb, .func (.func sf) #[] sb], .int .i64 a, .int .i64 b, .int .i64 pivot] W fun e w' => e = .returned (.tuple #[.int .i64 (Sort.partition lt d a b pivot).1, .bool (Sort.partition lt d a b pivot).2.1]) ∧ ∃ n os, w' = sortWorldK enc k W blk off n (Sort.partition lt d a b pivot).2.2 os :=
  (Any.partition_func_cells L enc k hk lt g lb sf sb blk off a b pivot d W eg hless hswap hH hblk hap hpb hb hsz).mono fun _ _ ⟨he, n, hw⟩ => ⟨he, n.n, _, hw.trans (later_alloc enc k W _ blk off n _ hblk)⟩
end Go.Proofs.Ytopcofkpggefkaa

namespace Go.Proofs.Ytopcofkpggefkaa
open Go Go.Shelf Go.RowKit Go.Lib Go.Sort
variable {P : Program} {ρ : Ren} {α : Type} [Inhabited α]

set_option maxHeartbeats 16000000 in
set_option maxRecDepth 1000000 in
theorem Any.partialInsertionSort_func_cells (L : LaysGg.n31 P ρ) (enc : α → List Value) (k : Nat) (hk : ∀ x, (enc x).length = k) (lt : α → α → Bool) (g : Nat) (lb : Array Value) (sf : Nat) (sb : Array Value) (blk off a b : Nat) (d : Array α) (w : World)
    (eg : ∀ args w, (callFunc g args).run P w = .ok (.enter g args) w) (hless : LessReadsK P g lb enc k lt blk off d.size w) (hswap : SwapSwapsK P sf sb enc k blk off d.size)
    (hH : HoldsK enc k w blk off d) (hblk : blk < w.heap.size) (hab : a < b) (hb : b ≤ d.size) (hsz : d.size < 4611686018427387904) :
    Calls P (ρ.f 31) #[.agg #[.func (.func g) #[] lb, .func (.func sf) #[] sb], .int .i64 a, .int .i64 b] w fun e w' =>
      e = .returned (.bool (Sort.partialInsertionSort lt d a b).2) ∧ ∃ n, w' = (later (putRowK enc k (w.alloc (.cells #[.func (.func g) #[] lb, .func (.func sf) #[] sb] (ρ.t 44))) blk off (Sort.partialInsertionSort lt d a b).1) n) := by
  have mixed := L.mixed; have t0 := L.t0; have a0 := L.a0; have z0 := L.z0; have v0 := L.v0; have t3 := L.t3; have a3 := L.a3; have z3 := L.z3; have v3 := L.v3; have t4 := L.t4; have a4 := L.a4; have z4 := L.z4; have v4 := L.v4; have t26 := L.t26; have a26 := L.a26; have z26 := L.z26; have v26 := L.v26; have t37 := L.t37; have a37 := L.a37; have z37 := L.z37; have v37 := L.v37; have t44 := L.t44; have a44 := L.a44; have z44 := L.z44; have v44 := L.v44
  have u44 := run_underlying L.t44
  have hH1 : HoldsK enc k (w.alloc (.cells #[.func (.func g) #[] lb, .func (.func sf) #[] sb] (ρ.t 44))) blk off d := by rw [alloc_eq_grow]; exact holdsK_grow enc k w _ blk off d hblk hH
  -- 'data' lies in a block of its own: its two cells, whatever the row holds, however many draws on
  have c0 : ∀ (m : Ln) (X : Array α), (later (putRowK enc k (w.alloc (.cells #[.func (.func g) #[] lb, .func (.func sf) #[] sb] (ρ.t 44))) blk off X) m).cell? ⟨w.heap.size, 0, none⟩ = some (.func (.func g) #[] lb) := fun m X => boxAt (by simp) hblk m
  have c1 : ∀ (m : Ln) (X : Array α), (later (putRowK enc k (w.alloc (.cells #[.func (.func g) #[] lb, .func (.func sf) #[] sb] (ρ.t 44))) blk off X) m).cell? ⟨w.heap.size, 1, none⟩ = some (.func (.func sf) #[] sb) := fun m X => boxAt (by simp) hblk m
  -- 'less' at (j, j-1), 'swap' at (j, j-1): whatever the row holds, however many draws on: IN THE FORM IN WHICH THE WALK MEETS THEM
  have hblk1 : blk < (w.alloc (.cells #[.func (.func g) #[] lb, .func (.func sf) #[] sb] (ρ.t 44))).heap.size := by rw [alloc_eq_grow, size_grow]; omega
  have hlAt : ∀ (X : Array α) (j : Nat) (v : Bool), X.size = d.size → 1 ≤ j → j < d.size → lt X[j]! X[j - 1]! = v → ∀ m, Calls P g (#[.int .i64 (j : Int), .int .i64 ((j : Int) - 1)] ++ lb) (later (putRowK enc k (w.alloc (.cells #[.func (.func g) #[] lb, .func (.func sf) #[] sb] (ρ.t 44))) blk off X) m) fun e w' => e = .returned (.bool v) ∧ ∃ q, w' = (later (putRowK enc k (w.alloc (.cells #[.func (.func g) #[] lb, .func (.func sf) #[] sb] (ρ.t 44))) blk off X) (m + q)) := fun X j v hX h1 hj hv m => by
    have hl := lessAt hless (.cells #[.func (.func g) #[] lb, .func (.func sf) #[] sb] (ρ.t 44)) hblk hX m j (j - 1) hj (by omega)
    rw [hv, show ((j - 1 : Nat) : Int) = (j : Int) - 1 by omega] at hl
    exact hl
  have hsAt : ∀ (X : Array α) (j : Nat), X.size = d.size → 1 ≤ j → j < d.size → ∀ m, (callFunc sf (#[.int .i64 (j : Int), .int .i64 ((j : Int) - 1)] ++ sb)).run P (later (putRowK enc k (w.alloc (.cells #[.func (.func g) #[] lb, .func (.func sf) #[] sb] (ρ.t 44))) blk off X) m) = .ok (.value (.tuple #[])) (later (putRowK enc k (w.alloc (.cells #[.func (.func g) #[] lb, .func (.func sf) #[] sb] (ρ.t 44))) blk off (swp X j (j - 1))) m) := fun X j hX h1 hj m => by
    have := swapAt hswap hk hH1 hblk1 rfl hX m j (j - 1) hj (by omega)
    rw [show ((j - 1 : Nat) : Int) = (j : Int) - 1 by omega] at this
    exact this
  have HL : Aside _ := hlAt
  have HS : Aside _ := hsAt
  have HST : Hid ((w.alloc (.cells #[.func (.func g) #[] lb, .func (.func sf) #[] sb] (ρ.t 44))) = (later (putRowK enc k (w.alloc (.cells #[.func (.func g) #[] lb, .func (.func sf) #[] sb] (ρ.t 44))) blk off d) 0)) := self0 hH1
  clear hlAt hsAt hless hswap hH hH1
  go_enter L.f31, BodyGg.n31_ntmps ρ
  go_wp2
  go_loopg [7, 8] 5 (fun g1 vi vs wr => ∃ (i s : Nat) (n : Ln) (dk : Array α), vi = .int .i64 i ∧ vs = .int .i64 s ∧ s ≤ 5 ∧ 5 - s ≤ g1 ∧ a < i ∧ i ≤ b ∧ dk.size = d.size ∧ wr = (later (putRowK enc k (w.alloc (.cells #[.func (.func g) #[] lb, .func (.func sf) #[] sb] (ρ.t 44))) blk off dk) n) ∧ Hid (partialIns lt a b (5 - s) i dk = partialIns lt a b 5 (a + 1) d))
  case atStart => exact ⟨a + 1, 0, 0, d, by go_num, rfl, by omega, by omega, by omega, by omega, rfl, HST.out, rfl⟩
  case round =>
    obtain ⟨i, s, n, dk, rfl, rfl, hs5, hg1, hai, hib, hsk, rfl, HO⟩ := hrel
    by_cases hs : s < 5
    · have hsz5 : (s : Int) < 5 := by omega
      go_wp2
      -- the scan: 'for i < b && !data.Less(i, i-1) { i++ }'
      go_loopg [7] (b - i) (fun g2 vi wr2 => ∃ (kx : Nat) (m : Ln), vi = .int .i64 kx ∧ i ≤ kx ∧ kx ≤ b ∧ b - kx ≤ g2 ∧ wr2 = (later (putRowK enc k (w.alloc (.cells #[.func (.func g) #[] lb, .func (.func sf) #[] sb] (ρ.t 44))) blk off dk) m) ∧ Hid (scanSorted lt dk b kx = scanSorted lt dk b i))
      case atStart => exact ⟨i, n, rfl, Nat.le_refl _, hib, Nat.le_refl _, rfl, rfl⟩
      case round =>
        obtain ⟨kx, m, rfl, hik, hkb, hg2, rfl, HSc⟩ := hrel
        by_cases hkb' : kx < b
        · have hkz : (kx : Int) < (b : Int) := by omega
          cases hlv : lt dk[kx]! dk[kx - 1]! with
          | false =>
            have hl := HL.out dk kx false hsk (by omega) (by omega) hlv
            go_wp2_with (go_at_fn g; refine (hl _).mono ?_; rintro e w' ⟨rfl, q, rfl⟩)
            go_roundg (b - (kx + 1))
            case measure => omega
            case rel => exact ⟨kx + 1, _, by go_num, by omega, by omega, Nat.le_refl _, rfl, (show Hid _ from by rw [← HSc.out, scanSorted_go lt dk b kx hkb' hlv]; exact rfl)⟩
          | true =>
            -- a pair out of order, at kx
            have hl := HL.out dk kx true hsk (by omega) (by omega) hlv
            have HK : Hid (scanSorted lt dk b i = kx) := by show _ = _; rw [← HSc.out, scanSorted_stop lt dk b kx (Or.inr hlv)]
            have hkne : ((kx : Int) == (b : Int)) = false := beq_eq_false_iff_ne.2 (by omega)
            by_cases h50 : b - a < 50
            · have h50z : (b : Int) - (a : Int) < 50 := by omega
              go_wp2_with (go_at_fn g; refine (hl _).mono ?_; rintro e w' ⟨rfl, q, rfl⟩)
              have hv : Sort.partialInsertionSort lt d a b = (dk, false) := by
                unfold Sort.partialInsertionSort
                rw [← HO.out, pi_short lt a b s i dk hs (by rw [HK.out]; omega) h50]
              rw [hv]
              go_ret
              exact ⟨rfl, _, rfl⟩
            · have h50z : ¬ ((b : Int) - (a : Int) < 50) := by omega
              have hs1 := HS.out dk kx hsk (by omega) (by omega)
              have hX1 : (swp dk kx (kx - 1)).size = d.size := by rw [size_swp]; exact hsk
              by_cases hka : kx - a ≥ 2
              · -- i - a >= 2: the smaller one goes down
                have hkaz : (2 : Int) ≤ (kx : Int) - (a : Int) := by omega
                go_wp2_with (go_at_fn g; refine (hl _).mono ?_; rintro e w' ⟨rfl, q, rfl⟩)
                go_loopg [9] (kx - 1) (fun g3 vj wr3 => ∃ (j : Nat) (m2 : Ln) (dj : Array α), vj = .int .i64 j ∧ j ≤ kx - 1 ∧ j ≤ g3 ∧ dj.size = d.size ∧ wr3 = (later (putRowK enc k (w.alloc (.cells #[.func (.func g) #[] lb, .func (.func sf) #[] sb] (ρ.t 44))) blk off dj) m2) ∧ Hid (shiftDown lt j dj = shiftDown lt (kx - 1) (swp dk kx (kx - 1))))
                case atStart => exact ⟨kx - 1, _, (swp dk kx (kx - 1)), by congr 1; omega, Nat.le_refl _, Nat.le_refl _, hX1, rfl, rfl⟩
                case round =>
                  obtain ⟨j, m2, dj, rfl, hjk, hg3, hsj, rfl, HDn⟩ := hrel
                  by_cases hj1 : 1 ≤ j
                  · have hj1z : (1 : Int) ≤ (j : Int) := by omega
                    cases hlv2 : lt dj[j]! dj[j - 1]! with
                    | true =>
                      have hl2 := HL.out dj j true hsj hj1 (by omega) hlv2
                      have hs2 := HS.out dj j hsj hj1 (by omega)
                      go_wp2_with (go_at_fn g; refine (hl2 _).mono ?_; rintro e w' ⟨rfl, q, rfl⟩)
                      go_roundg (j - 1)
                      case measure => omega
                      case rel => exact ⟨j - 1, _, swp dj j (j - 1), by congr 1; omega, by omega, Nat.le_refl _, by rw [size_swp]; exact hsj, rfl, (show Hid _ from by rw [← HDn.out, shiftDown_go lt j dj hj1 hlv2]; exact rfl)⟩
                    | false =>
                      -- break
                      have hl2 := HL.out dj j false hsj hj1 (by omega) hlv2
                      have HD : Hid (fixDown lt a kx (swp dk kx (kx - 1)) = dj) := by show _ = _; unfold fixDown; rw [if_pos hka, ← HDn.out, shiftDown_stop lt j dj (Or.inr hlv2)]
                      by_cases hbk : b - kx ≥ 2
                      · -- b - i >= 2: the greater one goes up
                        have hbkz : (2 : Int) ≤ (b : Int) - (kx : Int) := by omega
                        go_wp2_with (go_at_fn g; refine (hl2 _).mono ?_; rintro e w' ⟨rfl, q, rfl⟩)
                        go_loopg [10] (b - (kx + 1)) (fun g4 vj wr4 => ∃ (ju : Nat) (m3 : Ln) (du : Array α), vj = .int .i64 ju ∧ kx + 1 ≤ ju ∧ ju ≤ b ∧ b - ju ≤ g4 ∧ du.size = d.size ∧ wr4 = (later (putRowK enc k (w.alloc (.cells #[.func (.func g) #[] lb, .func (.func sf) #[] sb] (ρ.t 44))) blk off du) m3) ∧ Hid (shiftUp lt b ju du = shiftUp lt b (kx + 1) dj))
                        case atStart => exact ⟨kx + 1, _, dj, by go_num, Nat.le_refl _, by omega, Nat.le_refl _, hsj, rfl, rfl⟩
                        case round =>
                          obtain ⟨ju, m3, du, rfl, hkj, hjb, hg4, hsu, rfl, HU⟩ := hrel
                          by_cases hjb' : ju < b
                          · have hjz : (ju : Int) < (b : Int) := by omega
                            cases hlv3 : lt du[ju]! du[ju - 1]! with
                            | true =>
                              have hl3 := HL.out du ju true hsu (by omega) (by omega) hlv3
                              have hs3 := HS.out du ju hsu (by omega) (by omega)
                              go_wp2_with (go_at_fn g; refine (hl3 _).mono ?_; rintro e w' ⟨rfl, q, rfl⟩)
                              go_roundg (b - (ju + 1))
                              case measure => omega
                              case rel => exact ⟨ju + 1, _, swp du ju (ju - 1), by go_num, by omega, by omega, Nat.le_refl _, by rw [size_swp]; exact hsu, rfl, (show Hid _ from by rw [← HU.out, shiftUp_go lt b ju du hjb' hlv3]; exact rfl)⟩
                            | false =>
                              have hl3 := HL.out du ju false hsu (by omega) (by omega) hlv3
                              go_wp2_with (go_at_fn g; refine (hl3 _).mono ?_; rintro e w' ⟨rfl, q, rfl⟩)
                              go_roundg (5 - (s + 1))
                              case measure => omega
                              case rel => exact ⟨kx, s + 1, _, du, rfl, by go_num, by omega, Nat.le_refl _, by omega, by omega, hsu, rfl, (show Hid _ from by rw [← HO.out, pi_go lt a b s i kx dk hs HK.out (by omega) h50, HD.out, show fixUp lt b kx dj = du from by unfold fixUp; rw [if_pos hbk, ← HU.out, shiftUp_stop lt b ju du (Or.inr hlv3)]]; exact rfl)⟩
                          · have hjz : ¬ (ju : Int) < (b : Int) := by omega
                            go_wp2
                            go_roundg (5 - (s + 1))
                            case measure => omega
                            case rel => exact ⟨kx, s + 1, _, du, rfl, by go_num, by omega, Nat.le_refl _, by omega, by omega, hsu, rfl, (show Hid _ from by rw [← HO.out, pi_go lt a b s i kx dk hs HK.out (by omega) h50, HD.out, show fixUp lt b kx dj = du from by unfold fixUp; rw [if_pos hbk, ← HU.out, shiftUp_stop lt b ju du (Or.inl hjb')]]; exact rfl)⟩
                      · have hbkz : ¬ (2 : Int) ≤ (b : Int) - (kx : Int) := by omega
                        go_wp2_with (go_at_fn g; refine (hl2 _).mono ?_; rintro e w' ⟨rfl, q, rfl⟩)
                        go_roundg (5 - (s + 1))
                        case measure => omega
                        case rel => exact ⟨kx, s + 1, _, dj, rfl, by go_num, by omega, Nat.le_refl _, by omega, by omega, hsj, rfl, (show Hid _ from by rw [← HO.out, pi_go lt a b s i kx dk hs HK.out (by omega) h50, HD.out, show fixUp lt b kx dj = dj from by unfold fixUp; rw [if_neg hbk]]; exact rfl)⟩
                  · have hj1z : ¬ (1 : Int) ≤ (j : Int) := by omega
                    have HD : Hid (fixDown lt a kx (swp dk kx (kx - 1)) = dj) := by show _ = _; unfold fixDown; rw [if_pos hka, ← HDn.out, shiftDown_stop lt j dj (Or.inl (by omega))]
                    by_cases hbk : b - kx ≥ 2
                    · -- b - i >= 2: the greater one goes up
                      have hbkz : (2 : Int) ≤ (b : Int) - (kx : Int) := by omega
                      go_wp2
                      go_loopg [10] (b - (kx + 1)) (fun g4 vj wr4 => ∃ (ju : Nat) (m3 : Ln) (du : Array α), vj = .int .i64 ju ∧ kx + 1 ≤ ju ∧ ju ≤ b ∧ b - ju ≤ g4 ∧ du.size = d.size ∧ wr4 = (later (putRowK enc k (w.alloc (.cells #[.func (.func g) #[] lb, .func (.func sf) #[] sb] (ρ.t 44))) blk off du) m3) ∧ Hid (shiftUp lt b ju du = shiftUp lt b (kx + 1) dj))
                      case atStart => exact ⟨kx + 1, _, dj, by go_num, Nat.le_refl _, by omega, Nat.le_refl _, hsj, rfl, rfl⟩
                      case round =>
                        obtain ⟨ju, m3, du, rfl, hkj, hjb, hg4, hsu, rfl, HU⟩ := hrel
                        by_cases hjb' : ju < b
                        · have hjz : (ju : Int) < (b : Int) := by omega
                          cases hlv3 : lt du[ju]! du[ju - 1]! with
                          | true =>
                            have hl3 := HL.out du ju true hsu (by omega) (by omega) hlv3
                            have hs3 := HS.out du ju hsu (by omega) (by omega)
                            go_wp2_with (go_at_fn g; refine (hl3 _).mono ?_; rintro e w' ⟨rfl, q, rfl⟩)
                            go_roundg (b - (ju + 1))
                            case measure => omega
                            case rel => exact ⟨ju + 1, _, swp du ju (ju - 1), by go_num, by omega, by omega, Nat.le_refl _, by rw [size_swp]; exact hsu, rfl, (show Hid _ from by rw [← HU.out, shiftUp_go lt b ju du hjb' hlv3]; exact rfl)⟩
                          | false =>
                            have hl3 := HL.out du ju false hsu (by omega) (by omega) hlv3
                            go_wp2_with (go_at_fn g; refine (hl3 _).mono ?_; rintro e w' ⟨rfl, q, rfl⟩)
                            go_roundg (5 - (s + 1))
                            case measure => omega
                            case rel => exact ⟨kx, s + 1, _, du, rfl, by go_num, by omega, Nat.le_refl _, by omega, by omega, hsu, rfl, (show Hid _ from by rw [← HO.out, pi_go lt a b s i kx dk hs HK.out (by omega) h50, HD.out, show fixUp lt b kx dj = du from by unfold fixUp; rw [if_pos hbk, ← HU.out, shiftUp_stop lt b ju du (Or.inr hlv3)]]; exact rfl)⟩
                        · have hjz : ¬ (ju : Int) < (b : Int) := by omega
                          go_wp2
                          go_roundg (5 - (s + 1))
                          case measure => omega
                          case rel => exact ⟨kx, s + 1, _, du, rfl, by go_num, by omega, Nat.le_refl _, by omega, by omega, hsu, rfl, (show Hid _ from by rw [← HO.out, pi_go lt a b s i kx dk hs HK.out (by omega) h50, HD.out, show fixUp lt b kx dj = du from by unfold fixUp; rw [if_pos hbk, ← HU.out, shiftUp_stop lt b ju du (Or.inl hjb')]]; exact rfl)⟩
                    · have hbkz : ¬ (2 : Int) ≤ (b : Int) - (kx : Int) := by omega
                      go_wp2
                      go_roundg (5 - (s + 1))
                      case measure => omega
                      case rel => exact ⟨kx, s + 1, _, dj, rfl, by go_num, by omega, Nat.le_refl _, by omega, by omega, hsj, rfl, (show Hid _ from by rw [← HO.out, pi_go lt a b s i kx dk hs HK.out (by omega) h50, HD.out, show fixUp lt b kx dj = dj from by unfold fixUp; rw [if_neg hbk]]; exact rfl)⟩
              · have hkaz : ¬ (2 : Int) ≤ (kx : Int) - (a : Int) := by omega
                have HD : Hid (fixDown lt a kx (swp dk kx (kx - 1)) = (swp dk kx (kx - 1))) := by show _ = _; unfold fixDown; rw [if_neg hka]
                by_cases hbk : b - kx ≥ 2
                · -- b - i >= 2: the greater one goes up
                  have hbkz : (2 : Int) ≤ (b : Int) - (kx : Int) := by omega
                  go_wp2_with (go_at_fn g; refine (hl _).mono ?_; rintro e w' ⟨rfl, q, rfl⟩)
                  go_loopg [10] (b - (kx + 1)) (fun g4 vj wr4 => ∃ (ju : Nat) (m3 : Ln) (du : Array α), vj = .int .i64 ju ∧ kx + 1 ≤ ju ∧ ju ≤ b ∧ b - ju ≤ g4 ∧ du.size = d.size ∧ wr4 = (later (putRowK enc k (w.alloc (.cells #[.func (.func g) #[] lb, .func (.func sf) #[] sb] (ρ.t 44))) blk off du) m3) ∧ Hid (shiftUp lt b ju du = shiftUp lt b (kx + 1) (swp dk kx (kx - 1))))
                  case atStart => exact ⟨kx + 1, _, (swp dk kx (kx - 1)), by go_num, Nat.le_refl _, by omega, Nat.le_refl _, hX1, rfl, rfl⟩
                  case round =>
                    obtain ⟨ju, m3, du, rfl, hkj, hjb, hg4, hsu, rfl, HU⟩ := hrel
                    by_cases hjb' : ju < b
                    · have hjz : (ju : Int) < (b : Int) := by omega
                      cases hlv3 : lt du[ju]! du[ju - 1]! with
                      | true =>
                        have hl3 := HL.out du ju true hsu (by omega) (by omega) hlv3
                        have hs3 := HS.out du ju hsu (by omega) (by omega)
                        go_wp2_with (go_at_fn g; refine (hl3 _).mono ?_; rintro e w' ⟨rfl, q, rfl⟩)
                        go_roundg (b - (ju + 1))
                        case measure => omega
                        case rel => exact ⟨ju + 1, _, swp du ju (ju - 1), by go_num, by omega, by omega, Nat.le_refl _, by rw [size_swp]; exact hsu, rfl, (show Hid _ from by rw [← HU.out, shiftUp_go lt b ju du hjb' hlv3]; exact rfl)⟩
                      | false =>
                        have hl3 := HL.out du ju false hsu (by omega) (by omega) hlv3
                        go_wp2_with (go_at_fn g; refine (hl3 _).mono ?_; rintro e w' ⟨rfl, q, rfl⟩)
                        go_roundg (5 - (s + 1))
                        case measure => omega
                        case rel => exact ⟨kx, s + 1, _, du, rfl, by go_num, by omega, Nat.le_refl _, by omega, by omega, hsu, rfl, (show Hid _ from by rw [← HO.out, pi_go lt a b s i kx dk hs HK.out (by omega) h50, HD.out, show fixUp lt b kx (swp dk kx (kx - 1)) = du from by unfold fixUp; rw [if_pos hbk, ← HU.out, shiftUp_stop lt b ju du (Or.inr hlv3)]]; exact rfl)⟩
                    · have hjz : ¬ (ju : Int) < (b : Int) := by omega
                      go_wp2
                      go_roundg (5 - (s + 1))
                      case measure => omega
                      case rel => exact ⟨kx, s + 1, _, du, rfl, by go_num, by omega, Nat.le_refl _, by omega, by omega, hsu, rfl, (show Hid _ from by rw [← HO.out, pi_go lt a b s i kx dk hs HK.out (by omega) h50, HD.out, show fixUp lt b kx (swp dk kx (kx - 1)) = du from by unfold fixUp; rw [if_pos hbk, ← HU.out, shiftUp_stop lt b ju du (Or.inl hjb')]]; exact rfl)⟩
                · -- (i - a < 2 and b - i < 2, though b - a >= 50: there is no such way)
                  exfalso; omega
        · -- the scan has come to b: true
          obtain rfl : kx = b := by omega
          have hkz : ¬ (kx : Int) < (kx : Int) := by omega
          go_wp2
          have hv : Sort.partialInsertionSort lt d a kx = (dk, true) := by
            unfold Sort.partialInsertionSort
            rw [← HO.out, pi_true lt a kx s i dk hs (by rw [← HSc.out, scanSorted_stop lt dk kx kx (Or.inl (by omega))])]
          rw [hv]
          go_ret
          exact ⟨rfl, _, rfl⟩
    · -- five steps are done: false
      obtain rfl : s = 5 := by omega
      go_wp2
      have hv : Sort.partialInsertionSort lt d a b = (dk, false) := by
        unfold Sort.partialInsertionSort
        rw [← HO.out, pi_end]
      rw [hv]
      go_ret
      exact ⟨rfl, n, rfl⟩

theorem Any.partialInsertionSort_func_cells_w (L : LaysGg.n31 P ρ) (enc : α → List Value) (k : Nat) (hk : ∀ x, (enc x).length = k) (lt : α → α → Bool) (g : Nat) (lb : Array Value) (sf : Nat) (sb : Array Value) (blk off a b : Nat) (d : Array α) (w : World)
    (eg : ∀ args w, (callFunc g args).run P w = .ok (.enter g args) w) (hless : LessReadsK P g lb enc k lt blk off d.size w) (hswap : SwapSwapsK P sf sb enc k blk off d.size)
    (hH : HoldsK enc k w blk off d) (hblk : blk < w.heap.size) (hab : a < b) (hb : b ≤ d.size) (hsz : d.size < 4611686018427387904) :
    Calls P (ρ.f 31) #[.agg #[.func (.func g) #[] lb, .func (.func sf) #[] sb], .int .i64 a, .int .i64 b] w fun e w' => e = .returned (.bool (Sort.partialInsertionSort lt d a b).2) ∧ ∃ n os, w' = sortWorldK enc k w blk off n (Sort.partialInsertionSort lt d a b).1 os :=
  (Any.partialInsertionSort_func_cells L enc k hk lt g lb sf sb blk off a b d w eg hless hswap hH hblk hab hb hsz).mono fun _ _ ⟨he, n, hw⟩ => ⟨he, n.n, _, hw.trans (later_alloc enc k w _ blk off n _ hblk)⟩
end Go.Proofs.Ytopcofkpggefkaa

namespace Go.Proofs.Ytopcofkpggefkaa
open Go Go.Shelf Go.RowKit Go.Lib Go.Sort
variable {P : Program} {ρ : Ren} {α : Type} [Inhabited α]

set_option maxHeartbeats 4000000 in
set_option maxRecDepth 1000000 in
theorem Any.siftDown_func_cells (L : LaysGg.n34 P ρ) (enc : α → List Value) (k : Nat) (hk : ∀ x, (enc x).length = k) (lt : α → α → Bool) (g : Nat) (lb : Array Value) (sf : Nat) (sb : Array Value) (blk off lo hi first : Nat) (d : Array α) (w : World)
    (eg : ∀ args w, (callFunc g args).run P w = .ok (.enter g args) w) (hless : LessReadsK P g lb enc k lt blk off d.size w) (hswap : SwapSwapsK P sf sb enc k blk off d.size)
    (hH : HoldsK enc k w blk off d) (hblk : blk < w.heap.size) (hlo : lo ≤ hi) (hb : first + hi ≤ d.size) (hsz : d.size < 4611686018427387904) :
    Calls P (ρ.f 34) #[.agg #[.func (.func g) #[] lb, .func (.func sf) #[] sb], .int .i64 lo, .int .i64 hi, .int .i64 first] w fun e w' =>
      e = .returned (.tuple #[]) ∧ ∃ n, w' = (later (putRowK enc k (w.alloc (.cells #[.func (.func g) #[] lb, .func (.func sf) #[] sb] (ρ.t 44))) blk off (siftDown lt hi first lo d)) n) := by
  have mixed := L.mixed; have t0 := L.t0; have a0 := L.a0; have z0 := L.z0; have v0 := L.v0; have t3 := L.t3; have a3 := L.a3; have z3 := L.z3; have v3 := L.v3; have t4 := L.t4; have a4 := L.a4; have z4 := L.z4; have v4 := L.v4; have t26 := L.t26; have a26 := L.a26; have z26 := L.z26; have v26 := L.v26; have t37 := L.t37; have a37 := L.a37; have z37 := L.z37; have v37 := L.v37; have t44 := L.t44; have a44 := L.a44; have z44 := L.z44; have v44 := L.v44
  have u44 := run_underlying L.t44
  have hH1 : HoldsK enc k (w.alloc (.cells #[.func (.func g) #[] lb, .func (.func sf) #[] sb] (ρ.t 44))) blk off d := by rw [alloc_eq_grow]; exact holdsK_grow enc k w _ blk off d hblk hH
  have hblk1 : blk < (w.alloc (.cells #[.func (.func g) #[] lb, .func (.func sf) #[] sb] (ρ.t 44))).heap.size := by rw [alloc_eq_grow, size_grow]; omega
  go_enter L.f34, BodyGg.n34_ntmps ρ
  go_wp2
  go_loopg [8] (hi - lo) (fun kx s8 wr => ∃ (root : Nat) (dk : Array α) (n : Ln), s8 = .int .i64 root ∧ root ≤ hi ∧ hi - root ≤ kx ∧ dk.size = d.size ∧ wr = (later (putRowK enc k (w.alloc (.cells #[.func (.func g) #[] lb, .func (.func sf) #[] sb] (ρ.t 44))) blk off dk) n) ∧ Hid (siftDown lt hi first root dk = siftDown lt hi first lo d))
  case atStart => exact ⟨lo, d, 0, rfl, hlo, Nat.le_refl _, rfl, self0 hH1, rfl⟩
  case round =>
    obtain ⟨root, dk, n, rfl, hr, hkx, hds, rfl, HE⟩ := hrel
    -- 'data' lies in a block of its own: its two cells, however many draws on
    have c0 : ∀ m, (later (putRowK enc k (w.alloc (.cells #[.func (.func g) #[] lb, .func (.func sf) #[] sb] (ρ.t 44))) blk off dk) m).cell? ⟨w.heap.size, 0, none⟩ = some (.func (.func g) #[] lb) := fun m => boxAt (by simp) hblk m
    have c1 : ∀ m, (later (putRowK enc k (w.alloc (.cells #[.func (.func g) #[] lb, .func (.func sf) #[] sb] (ρ.t 44))) blk off dk) m).cell? ⟨w.heap.size, 1, none⟩ = some (.func (.func sf) #[] sb) := fun m => boxAt (by simp) hblk m
    -- 'less', at whatever two places, however many draws on
    have hlAt : ∀ (m : Ln) (i j : Nat), i < d.size → j < d.size → Calls P g (#[.int .i64 i, .int .i64 j] ++ lb) (later (putRowK enc k (w.alloc (.cells #[.func (.func g) #[] lb, .func (.func sf) #[] sb] (ρ.t 44))) blk off dk) m) fun e w' => e = .returned (.bool (lt dk[i]! dk[j]!)) ∧ ∃ q, w' = (later (putRowK enc k (w.alloc (.cells #[.func (.func g) #[] lb, .func (.func sf) #[] sb] (ρ.t 44))) blk off dk) (m + q)) := fun m i j hi' hj' => lessAt hless (.cells #[.func (.func g) #[] lb, .func (.func sf) #[] sb] (ρ.t 44)) hblk hds m i j hi' hj'
    -- 'swap'
    have hsAt : ∀ (m : Ln) (i j : Nat), i < d.size → j < d.size → (callFunc sf (#[.int .i64 i, .int .i64 j] ++ sb)).run P (later (putRowK enc k (w.alloc (.cells #[.func (.func g) #[] lb, .func (.func sf) #[] sb] (ρ.t 44))) blk off dk) m) = .ok (.value (.tuple #[])) (later (putRowK enc k (w.alloc (.cells #[.func (.func g) #[] lb, .func (.func sf) #[] sb] (ρ.t 44))) blk off (swp dk i j)) m) := fun m i j hi' hj' => swapAt hswap hk hH1 hblk1 rfl hds m i j hi' hj'
    have HL : Aside _ := hlAt
    have HS : Aside _ := hsAt
    clear hlAt hsAt hless hswap hH hH1
    by_cases h0 : hi ≤ 2 * root + 1
    · -- no child: the loop is left
      have h0z : (hi : Int) ≤ 2 * (root : Int) + 1 := by omega
      go_wp2
      go_end0
      refine ⟨rfl, n, ?_⟩
      rw [← HE.out, sd_end lt dk h0]
    · have h0z : ¬ ((hi : Int) ≤ 2 * (root : Int) + 1) := by omega
      by_cases h1 : 2 * root + 2 < hi
      · -- there is a right child: 'data.Less(first+child, first+child+1)'
        have h1z : 2 * (root : Int) + 1 + 1 < (hi : Int) := by omega
        have hl1 := HL.out n (first + (2 * root + 1)) (first + (2 * root + 2)) (by omega) (by omega)
        rw [show ((first + (2 * root + 1) : Nat) : Int) = (first : Int) + (2 * (root : Int) + 1) by omega, show ((first + (2 * root + 2) : Nat) : Int) = (first : Int) + (2 * (root : Int) + 1) + 1 by omega] at hl1
        cases hL : lt dk[first + (2 * root + 1)]! dk[first + (2 * root + 2)]! with
        | true =>
          rw [hL] at hl1
          cases hG : lt dk[first + root]! dk[first + (2 * root + 2)]! with
          | true =>
            have hl2 : ∀ m, Calls P g (#[.int .i64 ((first : Int) + (root : Int)), .int .i64 ((first : Int) + (2 * (root : Int) + 1 + 1))] ++ lb) (later (putRowK enc k (w.alloc (.cells #[.func (.func g) #[] lb, .func (.func sf) #[] sb] (ρ.t 44))) blk off dk) m) fun e w' => e = .returned (.bool true) ∧ ∃ q, w' = (later (putRowK enc k (w.alloc (.cells #[.func (.func g) #[] lb, .func (.func sf) #[] sb] (ρ.t 44))) blk off dk) (m + q)) := fun m => by
              have := HL.out m (first + root) (first + (2 * root + 2)) (by omega) (by omega)
              rw [hG, show ((first + root : Nat) : Int) = (first : Int) + (root : Int) by omega, show ((first + (2 * root + 2) : Nat) : Int) = (first : Int) + (2 * (root : Int) + 1 + 1) by omega] at this
              exact this
            have hs : ∀ m, (callFunc sf (#[.int .i64 ((first : Int) + (root : Int)), .int .i64 ((first : Int) + (2 * (root : Int) + 1 + 1))] ++ sb)).run P (later (putRowK enc k (w.alloc (.cells #[.func (.func g) #[] lb, .func (.func sf) #[] sb] (ρ.t 44))) blk off dk) m) = .ok (.value (.tuple #[])) (later (putRowK enc k (w.alloc (.cells #[.func (.func g) #[] lb, .func (.func sf) #[] sb] (ρ.t 44))) blk off (swp dk (first + root) (first + (2 * root + 2)))) m) := fun m => by
              have := HS.out m (first + root) (first + (2 * root + 2)) (by omega) (by omega)
              rw [show ((first + root : Nat) : Int) = (first : Int) + (root : Int) by omega, show ((first + (2 * root + 2) : Nat) : Int) = (first : Int) + (2 * (root : Int) + 1 + 1) by omega] at this
              exact this
            clear HL HS
            go_wp2_with (first | (go_at_fn g; refine hl1.mono ?_; rintro e w' ⟨rfl, q1, rfl⟩) | (go_at_fn g; refine (hl2 _).mono ?_; rintro e w' ⟨rfl, q2, rfl⟩))
            go_roundg (hi - (2 * root + 2))
            case measure => omega
            case rel => exact ⟨2 * root + 2, swp dk (first + root) (first + (2 * root + 2)), _, by go_num, by omega, Nat.le_refl _, by rw [size_swp]; exact hds, rfl, (show Hid _ from by rw [← HE.out, sd_right_go lt dk h1 hL hG]; exact rfl)⟩
          | false =>
            have hl2 : ∀ m, Calls P g (#[.int .i64 ((first : Int) + (root : Int)), .int .i64 ((first : Int) + (2 * (root : Int) + 1 + 1))] ++ lb) (later (putRowK enc k (w.alloc (.cells #[.func (.func g) #[] lb, .func (.func sf) #[] sb] (ρ.t 44))) blk off dk) m) fun e w' => e = .returned (.bool false) ∧ ∃ q, w' = (later (putRowK enc k (w.alloc (.cells #[.func (.func g) #[] lb, .func (.func sf) #[] sb] (ρ.t 44))) blk off dk) (m + q)) := fun m => by
              have := HL.out m (first + root) (first + (2 * root + 2)) (by omega) (by omega)
              rw [hG, show ((first + root : Nat) : Int) = (first : Int) + (root : Int) by omega, show ((first + (2 * root + 2) : Nat) : Int) = (first : Int) + (2 * (root : Int) + 1 + 1) by omega] at this
              exact this
            clear HL HS
            go_wp2_with (first | (go_at_fn g; refine hl1.mono ?_; rintro e w' ⟨rfl, q1, rfl⟩) | (go_at_fn g; refine (hl2 _).mono ?_; rintro e w' ⟨rfl, q2, rfl⟩))
            (try simp only [Exit.inBlock, Exit.then]); refine bodyPost_ret (results_none rfl _ _ _) rfl ?_
            refine ⟨rfl, ?_⟩
            rw [← HE.out, sd_right_stop lt dk h1 hL hG]
            exact ⟨_, rfl⟩
        | false =>
          rw [hL] at hl1
          cases hG : lt dk[first + root]! dk[first + (2 * root + 1)]! with
          | true =>
            have hl2 : ∀ m, Calls P g (#[.int .i64 ((first : Int) + (root : Int)), .int .i64 ((first : Int) + (2 * (root : Int) + 1))] ++ lb) (later (putRowK enc k (w.alloc (.cells #[.func (.func g) #[] lb, .func (.func sf) #[] sb] (ρ.t 44))) blk off dk) m) fun e w' => e = .returned (.bool true) ∧ ∃ q, w' = (later (putRowK enc k (w.alloc (.cells #[.func (.func g) #[] lb, .func (.func sf) #[] sb] (ρ.t 44))) blk off dk) (m + q)) := fun m => by
              have := HL.out m (first + root) (first + (2 * root + 1)) (by omega) (by omega)
              rw [hG, show ((first + root : Nat) : Int) = (first : Int) + (root : Int) by omega, show ((first + (2 * root + 1) : Nat) : Int) = (first : Int) + (2 * (root : Int) + 1) by omega] at this
              exact this
            have hs : ∀ m, (callFunc sf (#[.int .i64 ((first : Int) + (root : Int)), .int .i64 ((first : Int) + (2 * (root : Int) + 1))] ++ sb)).run P (later (putRowK enc k (w.alloc (.cells #[.func (.func g) #[] lb, .func (.func sf) #[] sb] (ρ.t 44))) blk off dk) m) = .ok (.value (.tuple #[])) (later (putRowK enc k (w.alloc (.cells #[.func (.func g) #[] lb, .func (.func sf) #[] sb] (ρ.t 44))) blk off (swp dk (first + root) (first + (2 * root + 1)))) m) := fun m => by
              have := HS.out m (first + root) (first + (2 * root + 1)) (by omega) (by omega)
              rw [show ((first + root : Nat) : Int) = (first : Int) + (root : Int) by omega, show ((first + (2 * root + 1) : Nat) : Int) = (first : Int) + (2 * (root : Int) + 1) by omega] at this
              exact this
            clear HL HS
            go_wp2_with (first | (go_at_fn g; refine hl1.mono ?_; rintro e w' ⟨rfl, q1, rfl⟩) | (go_at_fn g; refine (hl2 _).mono ?_; rintro e w' ⟨rfl, q2, rfl⟩))
            go_roundg (hi - (2 * root + 1))
            case measure => omega
            case rel => exact ⟨2 * root + 1, swp dk (first + root) (first + (2 * root + 1)), _, by go_num, by omega, Nat.le_refl _, by rw [size_swp]; exact hds, rfl, (show Hid _ from by rw [← HE.out, sd_left_go lt dk (by omega) (fun _ => hL) hG]; exact rfl)⟩
          | false =>
            have hl2 : ∀ m, Calls P g (#[.int .i64 ((first : Int) + (root : Int)), .int .i64 ((first : Int) + (2 * (root : Int) + 1))] ++ lb) (later (putRowK enc k (w.alloc (.cells #[.func (.func g) #[] lb, .func (.func sf) #[] sb] (ρ.t 44))) blk off dk) m) fun e w' => e = .returned (.bool false) ∧ ∃ q, w' = (later (putRowK enc k (w.alloc (.cells #[.func (.func g) #[] lb, .func (.func sf) #[] sb] (ρ.t 44))) blk off dk) (m + q)) := fun m => by
              have := HL.out m (first + root) (first + (2 * root + 1)) (by omega) (by omega)
              rw [hG, show ((first + root : Nat) : Int) = (first : Int) + (root : Int) by omega, show ((first + (2 * root + 1) : Nat) : Int) = (first : Int) + (2 * (root : Int) + 1) by omega] at this
              exact this
            clear HL HS
            go_wp2_with (first | (go_at_fn g; refine hl1.mono ?_; rintro e w' ⟨rfl, q1, rfl⟩) | (go_at_fn g; refine (hl2 _).mono ?_; rintro e w' ⟨rfl, q2, rfl⟩))
            (try simp only [Exit.inBlock, Exit.then]); refine bodyPost_ret (results_none rfl _ _ _) rfl ?_
            refine ⟨rfl, ?_⟩
            rw [← HE.out, sd_left_stop lt dk (by omega) (fun _ => hL) hG]
            exact ⟨_, rfl⟩
      · -- no right child
        have h1z : ¬ (2 * (root : Int) + 1 + 1 < (hi : Int)) := by omega
        cases hG : lt dk[first + root]! dk[first + (2 * root + 1)]! with
        | true =>
          have hl2 : ∀ m, Calls P g (#[.int .i64 ((first : Int) + (root : Int)), .int .i64 ((first : Int) + (2 * (root : Int) + 1))] ++ lb) (later (putRowK enc k (w.alloc (.cells #[.func (.func g) #[] lb, .func (.func sf) #[] sb] (ρ.t 44))) blk off dk) m) fun e w' => e = .returned (.bool true) ∧ ∃ q, w' = (later (putRowK enc k (w.alloc (.cells #[.func (.func g) #[] lb, .func (.func sf) #[] sb] (ρ.t 44))) blk off dk) (m + q)) := fun m => by
            have := HL.out m (first + root) (first + (2 * root + 1)) (by omega) (by omega)
            rw [hG, show ((first + root : Nat) : Int) = (first : Int) + (root : Int) by omega, show ((first + (2 * root + 1) : Nat) : Int) = (first : Int) + (2 * (root : Int) + 1) by omega] at this
            exact this
          have hs : ∀ m, (callFunc sf (#[.int .i64 ((first : Int) + (root : Int)), .int .i64 ((first : Int) + (2 * (root : Int) + 1))] ++ sb)).run P (later (putRowK enc k (w.alloc (.cells #[.func (.func g) #[] lb, .func (.func sf) #[] sb] (ρ.t 44))) blk off dk) m) = .ok (.value (.tuple #[])) (later (putRowK enc k (w.alloc (.cells #[.func (.func g) #[] lb, .func (.func sf) #[] sb] (ρ.t 44))) blk off (swp dk (first + root) (first + (2 * root + 1)))) m) := fun m => by
            have := HS.out m (first + root) (first + (2 * root + 1)) (by omega) (by omega)
            rw [show ((first + root : Nat) : Int) = (first : Int) + (root : Int) by omega, show ((first + (2 * root + 1) : Nat) : Int) = (first : Int) + (2 * (root : Int) + 1) by omega] at this
            exact this
          clear HL HS
          go_wp2_with (go_at_fn g; refine (hl2 _).mono ?_; rintro e w' ⟨rfl, q2, rfl⟩)
          go_roundg (hi - (2 * root + 1))
          case measure => omega
          case rel => exact ⟨2 * root + 1, swp dk (first + root) (first + (2 * root + 1)), _, by go_num, by omega, Nat.le_refl _, by rw [size_swp]; exact hds, rfl, (show Hid _ from by rw [← HE.out, sd_left_go lt dk (by omega) (fun h => absurd h h1) hG]; exact rfl)⟩
        | false =>
          have hl2 : ∀ m, Calls P g (#[.int .i64 ((first : Int) + (root : Int)), .int .i64 ((first : Int) + (2 * (root : Int) + 1))] ++ lb) (later (putRowK enc k (w.alloc (.cells #[.func (.func g) #[] lb, .func (.func sf) #[] sb] (ρ.t 44))) blk off dk) m) fun e w' => e = .returned (.bool false) ∧ ∃ q, w' = (later (putRowK enc k (w.alloc (.cells #[.func (.func g) #[] lb, .func (.func sf) #[] sb] (ρ.t 44))) blk off dk) (m + q)) := fun m => by
            have := HL.out m (first + root) (first + (2 * root + 1)) (by omega) (by omega)
            rw [hG, show ((first + root : Nat) : Int) = (first : Int) + (root : Int) by omega, show ((first + (2 * root + 1) : Nat) : Int) = (first : Int) + (2 * (root : Int) + 1) by omega] at this
            exact this
          clear HL HS
          go_wp2_with (go_at_fn g; refine (hl2 _).mono ?_; rintro e w' ⟨rfl, q2, rfl⟩)
          (try simp only [Exit.inBlock, Exit.then]); refine bodyPost_ret (results_none rfl _ _ _) rfl ?_
          refine ⟨rfl, ?_⟩
          rw [← HE.out, sd_left_stop lt dk (by omega) (fun h => absurd h h1) hG]
          exact ⟨_, rfl⟩

theorem Any.siftDown_func_cells_w (L : LaysGg.n34 P ρ) (enc : α → List Value) (k : Nat) (hk : ∀ x, (enc x).length = k) (lt : α → α → Bool) (g : Nat) (lb : Array Value) (sf : Nat) (sb : Array Value) (blk off lo hi first : Nat) (d : Array α) (w : World)
    (eg : ∀ args w, (callFunc g args).run P w = .ok (.enter g args) w) (hless : LessReadsK P g lb enc k lt blk off d.size w) (hswap : SwapSwapsK P sf sb enc k blk off d.size)
    (hH : HoldsK enc k w blk off d) (hblk : blk < w.heap.size) (hlo : lo ≤ hi) (hb : first + hi ≤ d.size) (hsz : d.size < 4611686018427387904) :
    Calls P (ρ.f 34) #[.agg #[.func (.func g) #[] lb, .func (.func sf) #[] sb], .int .i64 lo, .int .i64 hi, .int .i64 first] w fun e w' => e = .returned (.tuple #[]) ∧ ∃ n os, w' = sortWorldK enc k w blk off n (siftDown lt hi first lo d) os :=
  (Any.siftDown_func_cells L enc k hk lt g lb sf sb blk off lo hi first d w eg hless hswap hH hblk hlo hb hsz).mono fun _ _ ⟨he, n, hw⟩ => ⟨he, n.n, _, hw.trans (later_alloc enc k w _ blk off n _ hblk)⟩

set_option maxHeartbeats 4000000 in
set_option maxRecDepth 1000000 in
theorem Any.heapSort_func_cells_w (L : LaysGg.n27 P ρ) (enc : α → List Value) (k : Nat) (hk : ∀ x, (enc x).length = k) (lt : α → α → Bool) (g : Nat) (lb : Array Value) (sf : Nat) (sb : Array Value) (blk off a b : Nat) (d : Array α) (w : World)
    (eg : ∀ args w, (callFunc g args).run P w = .ok (.enter g args) w) (hless : LessReadsK P g lb enc k lt blk off d.size w) (hswap : SwapSwapsK P sf sb enc k blk off d.size)
    (hH : HoldsK enc k w blk off d) (hblk : blk < w.heap.size) (hab : a ≤ b) (hb : b ≤ d.size) (hsz : d.size < 4611686018427387904) :
    Calls P (ρ.f 27) #[.agg #[.func (.func g) #[] lb, .func (.func sf) #[] sb], .int .i64 a, .int .i64 b] w fun e w' => e = .returned (.tuple #[]) ∧ ∃ n os, w' = sortWorldK enc k w blk off n (heapSort lt d a b) os := by
  have mixed := L.mixed; have t0 := L.t0; have a0 := L.a0; have z0 := L.z0; have v0 := L.v0; have t3 := L.t3; have a3 := L.a3; have z3 := L.z3; have v3 := L.v3; have t4 := L.t4; have a4 := L.a4; have z4 := L.z4; have v4 := L.v4; have t26 := L.t26; have a26 := L.a26; have z26 := L.z26; have v26 := L.v26; have t37 := L.t37; have a37 := L.a37; have z37 := L.z37; have v37 := L.v37; have t44 := L.t44; have a44 := L.a44; have z44 := L.z44; have v44 := L.v44
  have u44 := run_underlying L.t44
  have e34 : ∀ args w, (callFunc (ρ.f 34) args).run P w = .ok (.enter (ρ.f 34) args) w := enters_of L.f34 (by kernel_rfl) rfl
  have ecast : ((b - a : Nat) : Int) = (b : Int) - (a : Int) := by omega
  have hne : w.heap.size ≠ blk := by omega
  go_enter L.f27, BodyGg.n27_ntmps ρ
  go_wp2
  go_loopg [9] ((b - a - 1) / 2 + 1) (fun kx s9 wr => s9 = .int .i64 ((kx : Int) - 1) ∧ kx ≤ (b - a - 1) / 2 + 1 ∧ ∃ (dk : Array α), dk.size = d.size ∧ Aside (SWK enc k w blk off dk wr) ∧ wr.cell? ⟨w.heap.size, 0, none⟩ = some (.func (.func g) #[] lb) ∧ wr.cell? ⟨w.heap.size, 1, none⟩ = some (.func (.func sf) #[] sb) ∧ w.heap.size < wr.heap.size ∧
    Hid (heapBuild lt (b - a) a kx dk = heapBuild lt (b - a) a ((b - a - 1) / 2 + 1) d))
  case atStart => exact ⟨by rw [half_start hab], Nat.le_refl _, d, rfl, (SWK.start hH).alloc _, by simp, by simp, by simp, rfl⟩
  case round =>
    obtain ⟨rfl, hkk, dk, hds, S, c0, c1, hsz1, HE⟩ := hrel
    cases gk with
    | zero =>
      -- THE HEAP IS BUILT; NOW THE GREATEST IS TAKEN OFF, TIME AND AGAIN
      have hB : dk = heapBuild lt (b - a) a ((b - a - 1) / 2 + 1) d := HE.out
      clear HE hkk
      go_wp2
      go_loopg [10] (b - a) (fun kx s10 wr2 => s10 = .int .i64 ((kx : Int) - 1) ∧ kx ≤ b - a ∧ ∃ (dj : Array α), dj.size = d.size ∧ Aside (SWK enc k w blk off dj wr2) ∧ wr2.cell? ⟨w.heap.size, 0, none⟩ = some (.func (.func g) #[] lb) ∧ wr2.cell? ⟨w.heap.size, 1, none⟩ = some (.func (.func sf) #[] sb) ∧ w.heap.size < wr2.heap.size ∧ Hid (heapPop lt a kx dj = heapPop lt a (b - a) dk))
      case atStart => exact ⟨by rw [ecast], Nat.le_refl _, dk, hds, S, c0, c1, hsz1, rfl⟩
      case round =>
        clear S c0 c1 hsz1
        obtain ⟨rfl, hkk, dj, hdj, S, c0, c1, hsz1, HE2⟩ := hrel
        cases gk with
        | zero =>
          go_wp2
          go_end0
          have e : dj = heapSort lt d a b := by rw [heapSort, ← hB, ← HE2.out]; rfl
          rw [← e]
          exact ⟨rfl, S.out⟩
        | succ kx =>
          -- 'data.Swap(first, first+i)'; 'siftDown_func(data, lo, i, first)'
          have hs := hswap wr dj (S.out.holds hblk hH hdj) hdj a (a + kx) (by omega) (by omega)
          rw [show ((a + kx : Nat) : Int) = (a : Int) + (kx : Int) by omega] at hs
          have S2 := S.out.swap hk hblk a (a + kx) (by omega) (by omega)
          have hd2 : (swp dj a (a + kx)).size = d.size := by rw [size_swp]; exact hdj
          have c0' : ((wr.setCells blk (off + a * k) (enc dj[a + kx]!)).setCells blk (off + (a + kx) * k) (enc dj[a]!)).cell? ⟨w.heap.size, 0, none⟩ = some (.func (.func g) #[] lb) := by
            rw [World.cell?_setCells_out blk _ _ _ _ (fun e _ => absurd e hne), World.cell?_setCells_out blk _ _ _ _ (fun e _ => absurd e hne)]; exact c0
          have c1' : ((wr.setCells blk (off + a * k) (enc dj[a + kx]!)).setCells blk (off + (a + kx) * k) (enc dj[a]!)).cell? ⟨w.heap.size, 1, none⟩ = some (.func (.func sf) #[] sb) := by
            rw [World.cell?_setCells_out blk _ _ _ _ (fun e _ => absurd e hne), World.cell?_setCells_out blk _ _ _ _ (fun e _ => absurd e hne)]; exact c1
          have hsz2 : w.heap.size < ((wr.setCells blk (off + a * k) (enc dj[a + kx]!)).setCells blk (off + (a + kx) * k) (enc dj[a]!)).heap.size := by simpa using hsz1
          generalize (wr.setCells blk (off + a * k) (enc dj[a + kx]!)).setCells blk (off + (a + kx) * k) (enc dj[a]!) = w2 at hs S2 c0' c1' hsz2
          have hcall := Any.siftDown_func_cells_w (P := P) (ρ := ρ) { L with } enc k hk lt g lb sf sb blk off 0 kx a (swp dj a (a + kx)) w2 eg (by rw [hd2]; exact SWK_lessReads S2 hless hblk hd2) (by rw [hd2]; exact hswap) (S2.holds hblk hH hd2) (S2.lt hblk) (Nat.zero_le _) (by rw [hd2]; omega) (by rw [hd2]; exact hsz)
          have S2' : Aside (SWK enc k w blk off (swp dj a (a + kx)) w2) := S2
          clear S2 S hless hswap hH
          go_wp2_with (go_at_fn (ρ.f 34); refine hcall.mono ?_; rintro e w1 ⟨rfl, m, os, rfl⟩)
          go_roundg kx
          case measure => omega
          case rel =>
            have hss : (siftDown lt kx a 0 (swp dj a (a + kx))).size = (swp dj a (a + kx)).size := size_siftDown lt _ _ _ _ _ (Nat.le_refl _)
            exact ⟨by simp, by omega, siftDown lt kx a 0 (swp dj a (a + kx)), by rw [hss, hd2], S2'.out.on hblk m _ os hss,
              by rw [cell?_sortWorldK_other enc k w2 blk off m _ os _ hne hsz2]; exact c0', by rw [cell?_sortWorldK_other enc k w2 blk off m _ os _ hne hsz2]; exact c1',
              Nat.lt_of_lt_of_le hsz2 (SWK.le (⟨m, os, rfl⟩ : SWK enc k w2 blk off _ _)), HE2⟩
    | succ kx =>
      have hcall := Any.siftDown_func_cells_w (P := P) (ρ := ρ) { L with } enc k hk lt g lb sf sb blk off kx (b - a) a dk wr eg (by rw [hds]; exact SWK_lessReads S.out hless hblk hds) (by rw [hds]; exact hswap) (S.out.holds hblk hH hds) (S.out.lt hblk) (by omega) (by omega) (by omega)
      rw [ecast] at hcall
      clear hless hswap hH
      go_wp2_with (go_at_fn (ρ.f 34); refine hcall.mono ?_; rintro e w1 ⟨rfl, m, os, rfl⟩)
      go_roundg kx
      case measure => omega
      case rel =>
        have hss : (siftDown lt (b - a) a kx dk).size = dk.size := size_siftDown lt _ _ _ _ _ (Nat.le_refl _)
        exact ⟨by simp, by omega, siftDown lt (b - a) a kx dk, by rw [hss, hds], S.out.on hblk m _ os hss,
          by rw [cell?_sortWorldK_other enc k wr blk off m _ os _ hne hsz1]; exact c0, by rw [cell?_sortWorldK_other enc k wr blk off m _ os _ hne hsz1]; exact c1,
          Nat.lt_of_lt_of_le hsz1 (SWK.le (⟨m, os, rfl⟩ : SWK enc k wr blk off _ _)), HE⟩
end Go.Proofs.Ytopcofkpggefkaa
