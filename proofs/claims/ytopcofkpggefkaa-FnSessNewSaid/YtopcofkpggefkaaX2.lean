/-
  Rules for loops over lists, and for the order that a fold sets up. What is read of the code: bounds. Plans: when they are valid, that a copy is the plan, that a plan is the same as itself. Plans over batches of nothing: what comes is nothing. 'timesOf' and 'FlowTimes' where there are no rows. Printed by a program: the contracts, with those of the callees. What is drawn for a new plan at work; plans at work that are the same. FnSessNew: a new plan at work has told nothing, and nothing is settled. FnSessNew: a new plan at work has told nothing, and nothing is settled: the law. No statement is proved here.
-/
import Derived.Test.YtopcofkpggefkaaX1
import Derived.IntWalk

namespace Go.Proofs.Ytopcofkpggefkaa
open Go

theorem cmp_eql' (a b : Int) : cmp .eql a b = decide (a = b) := by
  show (a == b) = _
  by_cases h : a = b <;> simp [h]
theorem cmp_neq' (a b : Int) : cmp .neq a b = !decide (a = b) := by
  show (a != b) = _
  by_cases h : a = b <;> simp [h]
theorem cmp_lss' (a b : Int) : cmp .lss a b = decide (a < b) := rfl
theorem cmp_leq' (a b : Int) : cmp .leq a b = decide (a ≤ b) := rfl
theorem cmp_gtr' (a b : Int) : cmp .gtr a b = decide (b < a) := rfl
theorem cmp_geq' (a b : Int) : cmp .geq a b = decide (b ≤ a) := rfl

theorem ar_add {a b : Int} (h : -9223372036854775808 ≤ a + b ∧ a + b ≤ 9223372036854775807) : ar .add .i64 a b = a + b := IntWalk.i64_in _ h
theorem ar_sub {a b : Int} (h : -9223372036854775808 ≤ a - b ∧ a - b ≤ 9223372036854775807) : ar .sub .i64 a b = a - b := IntWalk.i64_in _ h
theorem ar_mul {a b : Int} (h : -9223372036854775808 ≤ a * b ∧ a * b ≤ 9223372036854775807) : ar .mul .i64 a b = a * b := IntWalk.i64_in _ h
theorem ar_rem (a b : Int) : ar .rem .i64 a b = a.tmod b := rfl
theorem ar_quo {a b : Int} (h : 0 ≤ a ∧ a ≤ 9223372036854775807 ∧ 1 ≤ b) : ar .quo .i64 a b = a / b := IntWalk.i64_quo a b h
theorem ar_comm (a b : Int) : ar .add .i64 a b = ar .add .i64 b a := by show IntKind.wrap _ _ = IntKind.wrap _ _; rw [Int.add_comm]

theorem len_mid {t : Ty} {l r : List t.T} {x : t.T} : lenI t (l ++ x :: r) = (l.length : Int) + (r.length + 1) := by
  unfold lenI; simp
theorem rd_mid {t : Ty} {l r : List t.T} {x : t.T} : rd t (l ++ x :: r) (l.length : Int) = x := by
  unfold rd
  rw [Int.toNat_natCast, List.getD_eq_getElem?_getD]
  simp
theorem inb_mid {t : Ty} {l r : List t.T} {x : t.T} : inb (l.length : Int) (lenI t (l ++ x :: r)) := by
  rw [len_mid]; unfold inb; omega
theorem lss_mid {t : Ty} {l r : List t.T} {x : t.T} : cmp .lss (l.length : Int) (lenI t (l ++ x :: r)) = true := by
  rw [len_mid, cmp_lss']; simp; omega
theorem lss_end {t : Ty} {l : List t.T} : cmp .lss (l.length : Int) (lenI t l) = false := by
  rw [cmp_lss']; simp [lenI]
theorem lim_one {t : Ty} {o : List t.T} {y : t.T} (h : o.length < 1099511627776) : lim (lenI t o) (lenI t [y]) := by
  simp only [lim, lenI, List.length_singleton]; omega
theorem lim_two {t : Ty} {o u : List t.T} (h : o.length + u.length < 1099511627776) : lim (lenI t o) (lenI t u) := by
  simp only [lim, lenI]; omega
theorem succ_mid {α : Type} {l : List α} (h : l.length < 1099511627776) : ar .add .i64 (l.length : Int) 1 = ((l.length + 1 : Nat) : Int) := by
  rw [ar_add (by omega)]; omega

/-- The rounds of a loop come to an end, to this one. -/
structure Runs {σ ρ : Type} [Inhabited ρ] (step : σ → Lp σ ρ) (ob : σ → Prop) (s : σ) (r : ρ) : Prop where
  t : LpT step ob s
  v : lpV step s = r

theorem Runs.out {σ ρ : Type} [Inhabited ρ] {step : σ → Lp σ ρ} {ob : σ → Prop} {s : σ} {r : ρ} (ho : ob s) (h : step s = .out r) : Runs step ob s r :=
  ⟨.mk s ho (fun s' hs => by rw [h] at hs; cases hs), lpV_out h⟩
theorem Runs.go {σ ρ : Type} [Inhabited ρ] {step : σ → Lp σ ρ} {ob : σ → Prop} {s s' : σ} {r : ρ} (ho : ob s) (h : step s = .go s') (hr : Runs step ob s' r) : Runs step ob s r :=
  ⟨.mk s ho (fun s2 hs => by rw [h] at hs; cases hs; exact hr.t), (lpV_go h).trans hr.v⟩

/-- A loop over a list: what holds of the part that is done, and what holds at an end. -/
theorem Runs.list {σ ρ α β : Type} [Inhabited ρ] {step : σ → Lp σ ρ} {ob : σ → Prop} (xs : List α) (st : Nat → β → σ) (I : List α → β → Prop) {Q : ρ → Prop} {s0 : σ} {b0 : β} (hs : st 0 b0 = s0) (h0 : I [] b0)
    (hgo : ∀ l x r b, xs = l ++ x :: r → I l b → ob (st l.length b) ∧ ((∃ b', step (st l.length b) = .go (st (l.length + 1) b') ∧ I (l ++ [x]) b') ∨ ∃ q, step (st l.length b) = .out q ∧ Q q))
    (hout : ∀ b, I xs b → ob (st xs.length b) ∧ ∃ q, step (st xs.length b) = .out q ∧ Q q) : ∃ q, Runs step ob s0 q ∧ Q q := by
  subst hs
  suffices ∀ (r l : List α) (b : β), xs = l ++ r → I l b → ∃ q, Runs step ob (st l.length b) q ∧ Q q from this xs [] b0 rfl h0
  intro r
  induction r with
  | nil =>
    intro l b hx hI
    rw [List.append_nil] at hx
    subst hx
    obtain ⟨ho, q, h1, h2⟩ := hout b hI
    exact ⟨q, .out ho h1, h2⟩
  | cons x r ih =>
    intro l b hx hI
    obtain ⟨ho, ⟨b', h1, h2⟩ | ⟨q, h1, h2⟩⟩ := hgo l x r b hx hI
    · obtain ⟨q, hq, hQ⟩ := ih (l ++ [x]) b' (by rw [hx, List.append_assoc]; rfl) h2
      rw [List.length_append, List.length_singleton] at hq
      exact ⟨q, .go ho h1 hq, hQ⟩
    · exact ⟨q, .out ho h1, h2⟩

/-- ... whose rounds are all there, and whose value is known. -/
theorem Runs.fold {σ ρ α β : Type} [Inhabited ρ] {step : σ → Lp σ ρ} {ob : σ → Prop} (xs : List α) (st : Nat → β → σ) (f : List α → β) {fin : ρ} {s0 : σ} (hs : st 0 (f []) = s0)
    (hgo : ∀ l x r, xs = l ++ x :: r → ob (st l.length (f l)) ∧ step (st l.length (f l)) = .go (st (l.length + 1) (f (l ++ [x]))))
    (hout : ob (st xs.length (f xs)) ∧ step (st xs.length (f xs)) = .out fin) : Runs step ob s0 fin := by
  subst hs
  obtain ⟨q, h1, h2⟩ := Runs.list (step := step) (ob := ob) (Q := fun q => q = fin) xs st (fun l b => b = f l) (b0 := f []) rfl rfl
    (fun l x r b hx hb => by subst hb; exact ⟨(hgo l x r hx).1, .inl ⟨_, (hgo l x r hx).2, rfl⟩⟩)
    (fun b hb => by subst hb; exact ⟨hout.1, _, hout.2, rfl⟩)
  rw [h2] at h1
  exact h1

/-- Two lists in strict order with the same members are one. -/
theorem pw_eq {α : Type} {lt : α → α → Prop} (irr : ∀ a, ¬ lt a a) (tr : ∀ {a b c}, lt a b → lt b c → lt a c) : ∀ {a b : List α}, a.Pairwise lt → b.Pairwise lt → (∀ x, x ∈ a ↔ x ∈ b) → a = b
  | [], [], _, _, _ => rfl
  | [], y :: b, _, _, h => absurd ((h y).2 (by simp)) (by simp)
  | x :: a, [], _, _, h => absurd ((h x).1 (by simp)) (by simp)
  | x :: a, y :: b, ha, hb, h => by
    have ha' := List.pairwise_cons.1 ha
    have hb' := List.pairwise_cons.1 hb
    have hxy : x = y := by
      rcases List.mem_cons.1 ((h x).1 (by simp)) with e | e
      · exact e
      · rcases List.mem_cons.1 ((h y).2 (by simp)) with e2 | e2
        · exact e2.symm
        · exact absurd (tr (hb'.1 x e) (ha'.1 y e2)) (irr _)
    subst hxy
    refine congrArg (x :: ·) (pw_eq irr tr ha'.2 hb'.2 fun z => ⟨fun hz => ?_, fun hz => ?_⟩)
    · rcases List.mem_cons.1 ((h z).1 (by simp [hz])) with e | e
      · subst e; exact absurd (ha'.1 z hz) (irr _)
      · exact e
    · rcases List.mem_cons.1 ((h z).2 (by simp [hz])) with e | e
      · subst e; exact absurd (hb'.1 z hz) (irr _)
      · exact e

theorem asc_pw {m : MP} (h : Asc m) : m.Pairwise fun p q => ltK p.1 q.1 = true := h
theorem asc_mem {a b : MP} (ha : Asc a) (hb : Asc b) (h : ∀ p, p ∈ a ↔ p ∈ b) : a = b :=
  pw_eq (lt := fun p q : List Int × Int => ltK p.1 q.1 = true) (fun p hp => by rw [ltK_irrefl] at hp; cases hp) (fun h1 h2 => ltK_trans h1 h2) ha hb h

/-- A change comes to its place. -/
def insP (q : List Int × Int) : MP → MP
  | [] => [q]
  | p :: m => if ltK q.1 p.1 = true then q :: p :: m else if p.1 = q.1 then (q.1, ar .add .i64 q.2 p.2) :: m else p :: insP q m
def accP (l : List (List Int × Int)) : MP := l.foldl (fun m q => insP q m) []

theorem keys_insP (q : List Int × Int) : ∀ (m : MP) (k : List Int), k ∈ keysM (insP q m) ↔ k = q.1 ∨ k ∈ keysM m
  | [], k => by simp [insP, keysM]
  | p :: m, k => by
    simp only [insP]
    split
    · simp [keysM]
    · split
      · rename_i h; simp [keysM, h]
      · have := keys_insP q m k
        simp only [keysM, List.map_cons, List.mem_cons] at this ⊢
        rw [this]
        constructor
        · rintro (h | h | h)
          · exact .inr (.inl h)
          · exact .inl h
          · exact .inr (.inr h)
        · rintro (h | h | h)
          · exact .inr (.inl h)
          · exact .inl h
          · exact .inr (.inr h)

theorem insP_keyd {n : Nat} {q : List Int × Int} {m : MP} (hm : Keyd n m) (hq : q.1.length = n) : Keyd n (insP q m) := by
  intro p hp
  have : p.1 ∈ keysM (insP q m) := List.mem_map.2 ⟨p, hp, rfl⟩
  rcases (keys_insP q m p.1).1 this with h | h
  · rw [h]; exact hq
  · obtain ⟨p', h1, h2⟩ := List.mem_map.1 h
    rw [← h2]; exact hm p' h1

theorem insP_asc {n : Nat} {q : List Int × Int} (hq : q.1.length = n) : ∀ {m : MP}, Asc m → Keyd n m → Asc (insP q m)
  | [], _, _ => by simp [insP, Asc]
  | p :: m, ha, hk => by
    have ha' := List.pairwise_cons.1 ha
    simp only [insP]
    split
    · rename_i h
      refine List.pairwise_cons.2 ⟨fun s hs => ?_, ha⟩
      rcases List.mem_cons.1 hs with rfl | hs
      · exact h
      · exact ltK_trans h (ha'.1 s hs)
    · split
      · rename_i h1 h2
        exact List.pairwise_cons.2 ⟨fun s hs => by show ltK q.1 s.1 = true; rw [← h2]; exact ha'.1 s hs, ha'.2⟩
      · rename_i h1 h2
        have hpq : ltK p.1 q.1 = true := by
          rcases ltK_total ((hk p (by simp)).trans hq.symm) h2 with h | h
          · exact h
          · exact absurd h h1
        refine List.pairwise_cons.2 ⟨fun s hs => ?_, insP_asc hq ha'.2 fun s hs => hk s (by simp [hs])⟩
        rcases (keys_insP q m s.1).1 (List.mem_map.2 ⟨s, hs, rfl⟩) with h | h
        · rw [h]; exact hpq
        · obtain ⟨s', h1, h2⟩ := List.mem_map.1 h
          rw [← h2]; exact ha'.1 s' h1

theorem valM_insP {n : Nat} {q : List Int × Int} (hq : q.1.length = n) : ∀ {m : MP}, Asc m → Keyd n m → ∀ k, valM (insP q m) k = if k = q.1 then (if q.1 ∈ keysM m then ar .add .i64 q.2 (valM m k) else q.2) else valM m k
  | [], _, _, k => by
    simp only [insP, valM_cons, keysM, List.map_nil, List.not_mem_nil, if_false]
    by_cases h : q.1 = k
    · simp [h]
    · simp [h, Ne.symm h]
  | p :: m, ha, hk, k => by
    have ha' := List.pairwise_cons.1 ha
    simp only [insP]
    split
    · rename_i h
      have hne : q.1 ∉ keysM (p :: m) := by
        intro hm
        obtain ⟨s, hs, e⟩ := List.mem_map.1 hm
        rcases List.mem_cons.1 hs with rfl | hs
        · rw [e, ltK_irrefl] at h; cases h
        · have := ltK_trans h (ha'.1 s hs)
          rw [e, ltK_irrefl] at this; cases this
      rw [if_neg hne, valM_cons]
      by_cases h2 : q.1 = k
      · simp [h2]
      · simp [h2, Ne.symm h2]
    · split
      · rename_i h1 h2
        have hm : q.1 ∈ keysM (p :: m) := by simp [keysM, h2]
        rw [if_pos hm, valM_cons, valM_cons]
        by_cases h3 : q.1 = k
        · simp [h3, h2.trans h3]
        · have h4 : ¬ p.1 = k := fun e => h3 (h2.symm.trans e)
          simp [h3, Ne.symm h3, h4]
      · rename_i h1 h2
        rw [valM_cons, valM_insP hq ha'.2 (fun s hs => hk s (by simp [hs])) k, valM_cons]
        have hmm : q.1 ∈ keysM (p :: m) ↔ q.1 ∈ keysM m := by simp [keysM, Ne.symm h2]
        by_cases h3 : p.1 = k
        · have : ¬ k = q.1 := fun e => h2 (h3.trans e)
          simp [h3, this]
        · simp only [h3, if_false, hmm]

theorem accP_ok {n : Nat} {l : List (List Int × Int)} (hk : Keyd n l) (hr : ∀ q ∈ l, IntKind.i64.wrap q.2 = q.2) : Asc (accP l) ∧ Keyd n (accP l) ∧ ∀ k, valM (accP l) k = sumK l k := by
  suffices ∀ (l : List (List Int × Int)) (m : MP), Keyd n l → (∀ q ∈ l, IntKind.i64.wrap q.2 = q.2) → Asc m → Keyd n m → Asc (l.foldl (fun m q => insP q m) m) ∧ Keyd n (l.foldl (fun m q => insP q m) m) ∧
      ∀ k, valM (l.foldl (fun m q => insP q m) m) k = l.foldl (fun s q => if q.1 = k then ar .add .i64 s q.2 else s) (valM m k) by
    obtain ⟨h1, h2, h3⟩ := this l [] hk hr (by simp [Asc]) (fun p hp => by simp at hp)
    refine ⟨h1, h2, fun k => ?_⟩
    exact h3 k
  intro l
  induction l with
  | nil => exact fun m _ _ h1 h2 => ⟨h1, h2, fun _ => rfl⟩
  | cons q r ih =>
    intro m hl hl2 ha hm
    have hq := hl q (by simp)
    obtain ⟨h1, h2, h3⟩ := ih (insP q m) (fun p hp => hl p (by simp [hp])) (fun p hp => hl2 p (by simp [hp])) (insP_asc hq ha hm) (insP_keyd hm hq)
    refine ⟨h1, h2, fun k => ?_⟩
    rw [List.foldl_cons, List.foldl_cons, h3 k, valM_insP hq ha hm]
    congr 1
    by_cases h : k = q.1
    · subst h
      simp only [if_true]
      by_cases hmem : q.1 ∈ keysM m
      · simp only [hmem, if_true]
        exact ar_comm _ _
      · simp only [hmem, if_false]
        rw [valM_none hmem]
        show q.2 = IntKind.i64.wrap (0 + q.2)
        rw [Int.zero_add, hl2 q (by simp)]
    · simp [h, Ne.symm h]

theorem sumK_map {f : List Int → List Int} (hf : ∀ a b, f a = f b → a = b) (l : List (List Int × Int)) (k : List Int) : sumK (l.map fun q => (f q.1, q.2)) (f k) = sumK l k := by
  unfold sumK
  rw [List.foldl_map]
  congr 1
  funext s q
  by_cases h : q.1 = k
  · simp [h]
  · have h2 : ¬ f q.1 = f k := fun e => h (hf _ _ e)
    simp [h, h2]
theorem sumK_none {l : List (List Int × Int)} {k : List Int} (h : ∀ q ∈ l, q.1 ≠ k) : sumK l k = 0 := by
  suffices ∀ (l : List (List Int × Int)) (s : Int), (∀ q ∈ l, q.1 ≠ k) → l.foldl (fun s q => if q.1 = k then ar .add .i64 s q.2 else s) s = s from this l 0 h
  intro l
  induction l with
  | nil => exact fun _ _ => rfl
  | cons q r ih =>
    intro s h
    rw [List.foldl_cons, if_neg (h q (by simp))]
    exact ih s fun p hp => h p (by simp [hp])
theorem sumK_key {l : List (List Int × Int)} {k : List Int} (h : sumK l k ≠ 0) : ∃ q ∈ l, q.1 = k := by
  by_cases he : ∃ q ∈ l, q.1 = k
  · exact he
  · exact absurd (sumK_none fun q hq e => he ⟨q, hq, e⟩) h

/-- What comes of changes put in their places, is what the sums are. -/
theorem accP_gathM {n : Nat} {l : List (List Int × Int)} (hk : Keyd n l) (hr : ∀ q ∈ l, IntKind.i64.wrap q.2 = q.2) : (accP l).filter (fun p => p.2 != 0) = gathM l := by
  obtain ⟨h1, h2, h3⟩ := accP_ok hk hr
  have hnd : (keysM (accP l)).Nodup := by
    refine List.Pairwise.map _ (fun p q h e => ?_) h1
    rw [e, ltK_irrefl] at h; cases h
  refine asc_mem (h1.sublist List.filter_sublist) (gathM_asc hk) fun p => ?_
  rw [mem_gathM, List.mem_filter]
  constructor
  · rintro ⟨a, b⟩
    exact ⟨by rw [← h3, valM_mem hnd a], by simpa using b⟩
  · rintro ⟨a, b⟩
    refine ⟨?_, by simpa using b⟩
    by_cases hm : p.1 ∈ keysM (accP l)
    · obtain ⟨q, hq, e⟩ := List.mem_map.1 hm
      have := valM_mem hnd hq
      rw [h3, e, ← a] at this
      have : q = p := Prod.ext e this.symm
      rwa [this] at hq
    · exact absurd (by rw [a, ← h3, valM_none hm]) b

/-- Other keys in the same order. -/
theorem gathM_map {n m : Nat} {f : List Int → List Int} (hf : ∀ a b, f a = f b → a = b) (hn : ∀ k : List Int, k.length = n → (f k).length = m)
    (hlt : ∀ a b, a.length = n → b.length = n → ltK (f a) (f b) = ltK a b) {l : List (List Int × Int)} (hk : Keyd n l) :
    gathM (l.map fun q => (f q.1, q.2)) = (gathM l).map fun q => (f q.1, q.2) := by
  have hkm : Keyd m (l.map fun q => (f q.1, q.2)) := by
    intro p hp
    obtain ⟨q, hq, rfl⟩ := List.mem_map.1 hp
    exact hn _ (hk q hq)
  have hkey : ∀ p ∈ gathM l, p.1.length = n := by
    intro p hp
    obtain ⟨h1, h2⟩ := mem_gathM.1 hp
    obtain ⟨q, hq, e⟩ := sumK_key (h1 ▸ h2)
    rw [← e]; exact hk q hq
  refine asc_mem (gathM_asc hkm) ?_ fun p => ?_
  · refine List.pairwise_map.2 ((gathM_asc hk).imp_of_mem fun {a b} ha hb h => ?_)
    show ltK (f a.1) (f b.1) = true
    rw [hlt _ _ (hkey a ha) (hkey b hb)]; exact h
  · rw [mem_gathM, List.mem_map]
    constructor
    · rintro ⟨h1, h2⟩
      obtain ⟨q, hq, e⟩ := sumK_key (h1 ▸ h2)
      obtain ⟨q', hq', rfl⟩ := List.mem_map.1 hq
      have e : f q'.1 = p.1 := e
      refine ⟨(q'.1, p.2), mem_gathM.2 ⟨?_, h2⟩, Prod.ext e rfl⟩
      rw [h1, ← e, sumK_map hf]
    · rintro ⟨q, hq, rfl⟩
      obtain ⟨h1, h2⟩ := mem_gathM.1 hq
      exact ⟨by rw [sumK_map hf]; exact h1, h2⟩
end Go.Proofs.Ytopcofkpggefkaa

namespace Go.Proofs.Ytopcofkpggefkaa
open Go

/-- Bytes, and not too many. -/
structure RdOk (b : List Int) : Prop where
  byte : ∀ x ∈ b, 0 ≤ x ∧ x ≤ 255
  len : b.length ≤ 2000

def rdByt (b : List Int) (i : Int) : Int := b.getD i.toNat 0
theorem rdByt_eq (b : List Int) (i : Int) : rd .byte b i = rdByt b i := rfl
theorem rd_byte {b : List Int} (h : RdOk b) (i : Int) : 0 ≤ rdByt b i ∧ rdByt b i ≤ 255 := by
  unfold rdByt
  rw [List.getD_eq_getElem?_getD]
  cases hg : b[i.toNat]? with
  | none => simp
  | some x => exact h.byte x (List.mem_of_getElem? hg)

theorem xr_bound {a b : Int} (ha : 0 ≤ a ∧ a < 4611686018427387904) (hb : 0 ≤ b ∧ b < 4611686018427387904) : 0 ≤ xr .i64 a b ∧ xr .i64 a b < 4611686018427387904 := by
  unfold xr
  have h1 : (BitVec.ofInt 64 a).toNat < 2 ^ 62 := by rw [BitVec.toNat_ofInt]; omega
  have h2 : (BitVec.ofInt 64 b).toNat < 2 ^ 62 := by rw [BitVec.toNat_ofInt]; omega
  have h3 := Nat.xor_lt_two_pow h1 h2
  show 0 ≤ IntKind.i64.wrap ((BitVec.ofInt 64 a ^^^ BitVec.ofInt 64 b).toNat : Int) ∧ IntKind.i64.wrap ((BitVec.ofInt 64 a ^^^ BitVec.ofInt 64 b).toNat : Int) < 4611686018427387904
  rw [BitVec.toNat_xor]
  generalize (BitVec.ofInt 64 a).toNat ^^^ (BitVec.ofInt 64 b).toNat = m at h3
  rw [IntWalk.i64_in _ (by omega)]
  omega

theorem pick_ok {b : List Int} (hb : RdOk b) {p n : Int} (hp : 0 ≤ p ∧ p ≤ 1000000) (hn : 1 ≤ n ∧ n ≤ 1000000) :
    p_spec_l6Rd_pick (b, p) n ∧ (v_spec_l6Rd_pick (b, p) n).2 = p + 1 ∧ 0 ≤ (v_spec_l6Rd_pick (b, p) n).1 ∧ (v_spec_l6Rd_pick (b, p) n).1 < n := by
  have h1 : ar .add .i64 p 1 = p + 1 := ar_add (by omega)
  have h2 : ar .sub .i64 (p + 1) 1 = p := by rw [ar_sub (by omega)]; omega
  have hlt : cmp .lss n 1 = false := by rw [cmp_lss']; simp; omega
  have hn0 : n ≠ 0 := by omega
  have hlen := hb.len
  have hlb : lenI .byte b = (b.length : Int) := rfl
  simp only [p_spec_l6Rd_pick, v_spec_l6Rd_pick, spec_l6Rd_pick_b_ob, spec_l6Rd_pick_b, spec_l6Rd_pick_b_t, Tr.val, Tr.ob, AllP]
  simp only [h1, h2, hlt, cond_false, cmp_eql', hlb, rdByt_eq]
  by_cases h0 : (b.length : Int) = 0
  · simp only [h0, decide_true, ocR]
    refine ⟨by simp, trivial, Int.le_refl _, by omega⟩
  · have hL : 1 ≤ (b.length : Int) := by omega
    have hbne : b ≠ [] := by rintro rfl; exact h0 rfl
    by_cases h3 : p < (b.length : Int)
    · have hc : cmp .lss p (b.length : Int) = true := by rw [cmp_lss']; simpa using h3
      simp only [h0, decide_false, hc, ocR]
      have hx := rd_byte hb p
      rw [IntWalk.i64_in _ (by omega)]
      exact ⟨by simp [inb, hp.1, h3, hn0], trivial, Int.tmod_nonneg _ hx.1, Int.tmod_lt_of_pos _ (by omega)⟩
    · have hc : cmp .lss p (b.length : Int) = false := by rw [cmp_lss']; simpa using h3
      have hm : ar .mul .i64 p 7 = p * 7 := ar_mul (by omega)
      have hm3 : ar .add .i64 (p * 7) 3 = p * 7 + 3 := ar_add (by omega)
      simp only [h0, decide_false, hc, ocR, hm, hm3, ar_rem]
      have i1 : inb (p.tmod b.length) b.length := ⟨Int.tmod_nonneg _ hp.1, Int.tmod_lt_of_pos _ (by omega)⟩
      have i2 : inb ((p * 7 + 3).tmod b.length) b.length := ⟨Int.tmod_nonneg _ (by omega), Int.tmod_lt_of_pos _ (by omega)⟩
      refine ⟨by simp [hbne, i1, i2, hn0], trivial, ?_⟩
      have x1 := rd_byte hb (p.tmod b.length)
      have x2 := rd_byte hb ((p * 7 + 3).tmod b.length)
      generalize rdByt b (p.tmod b.length) = y1 at x1 ⊢
      generalize rdByt b ((p * 7 + 3).tmod b.length) = y2 at x2 ⊢
      rw [IntWalk.i64_in y1 (by omega), IntWalk.i64_in y2 (by omega)]
      have m1 : ar .mul .i64 y1 131 = y1 * 131 := ar_mul (by omega)
      have m2 : ar .mul .i64 y2 1117 = y2 * 1117 := ar_mul (by omega)
      have m3 : ar .mul .i64 p 29 = p * 29 := ar_mul (by omega)
      have m4 : ar .quo .i64 p b.length = p / b.length := ar_quo (by omega)
      have q0 : 0 ≤ p / (b.length : Int) := Int.ediv_nonneg hp.1 (by omega)
      have q1 : p / (b.length : Int) ≤ p := Int.ediv_le_self _ hp.1
      rw [m4]
      generalize p / (b.length : Int) = pl at q0 q1 ⊢
      have m5 : ar .mul .i64 pl 53 = pl * 53 := ar_mul (by omega)
      simp only [m1, m2, m3, m5]
      rw [ar_add (a := y1 * 131) (b := y2 * 1117) (by omega), ar_add (a := y1 * 131 + y2 * 1117) (b := p * 29) (by omega), ar_add (a := y1 * 131 + y2 * 1117 + p * 29) (b := pl * 53) (by omega)]
      have hX : 0 ≤ y1 * 131 + y2 * 1117 + p * 29 + pl * 53 ∧ y1 * 131 + y2 * 1117 + p * 29 + pl * 53 ≤ 1000000000000 := by omega
      generalize y1 * 131 + y2 * 1117 + p * 29 + pl * 53 = X at hX ⊢
      rw [ar_quo (by omega)]
      have hxr := xr_bound (a := X) (b := X / 64) (by omega) (by omega)
      exact ⟨Int.tmod_nonneg _ hxr.1, Int.tmod_lt_of_pos _ (by omega)⟩

theorem l6Open_ok {c : List Int} (hc : ∀ x ∈ c, 0 ≤ x ∧ x ≤ 255) : p_spec_l6Open c ∧ ∃ b, v_spec_l6Open c = (b, 0) ∧ RdOk b := by
  have hl : lenI .byte c = (c.length : Int) := rfl
  simp only [p_spec_l6Open, v_spec_l6Open, spec_l6Open_b_ob, spec_l6Open_b, spec_l6Open_c1_ob, spec_l6Open_c1, spec_l6Open_b_t, spec_l6Open_c1_S, spec_l6Open_c1_t, Tr.val, Tr.ob, AllP]
  by_cases h : 2000 < (c.length : Int)
  · have hg : cmp .gtr (lenI .byte c) 2000 = true := by rw [cmp_gtr', hl]; simpa using h
    have h3 : le3 0 2000 (lenI .byte c) := ⟨by omega, by omega, by rw [hl]; omega⟩
    simp only [hg, ocR]
    exact ⟨by simp [h3], _, rfl, fun x hx => hc x (List.mem_of_mem_take (List.mem_of_mem_drop hx)), by simp; omega⟩
  · have hg : cmp .gtr (lenI .byte c) 2000 = false := by rw [cmp_gtr', hl]; simpa using h
    simp only [hg, ocR]
    exact ⟨by simp, _, rfl, hc, by omega⟩
/-- A look at each of a list, with the one before it. -/
def scanB {α : Type} (bad : Option α → α → Bool) : Option α → List α → Bool
  | _, [] => true
  | y, x :: r => !bad y x && scanB bad (some x) r
theorem scanB_all {α : Type} (ok : α → Bool) : ∀ (xs : List α) (y : Option α), scanB (fun _ x => !ok x) y xs = xs.all ok
  | [], _ => rfl
  | x :: r, y => by simp only [scanB, List.all_cons, scanB_all ok r (some x), Bool.not_not]
theorem Runs.scan {ρ α : Type} [Inhabited ρ] {step : Int → Lp Int ρ} {ob : Int → Prop} (xs : List α) (bad : Option α → α → Bool) {no yes : ρ}
    (hstep : ∀ l x r, xs = l ++ x :: r → ob (l.length : Int) ∧ step (l.length : Int) = (if bad l.getLast? x = true then .out no else .go (((l.length + 1 : Nat)) : Int))) (hend : ob (xs.length : Int) ∧ step (xs.length : Int) = .out yes) :
    Runs step ob 0 (if scanB bad none xs = true then yes else no) := by
  obtain ⟨q, h1, h2⟩ := Runs.list (step := step) (ob := ob) (Q := fun q => q = if scanB bad none xs = true then yes else no) xs (fun i (_ : Unit) => (i : Int)) (fun l _ => scanB bad none xs = scanB bad l.getLast? (xs.drop l.length)) (b0 := ()) rfl rfl
    (fun l x r _ hx hI => by
      obtain ⟨a1, a2⟩ := hstep l x r hx
      have hdrop : xs.drop l.length = x :: r := by rw [hx]; simp
      have hdrop2 : xs.drop (l ++ [x]).length = r := by rw [hx]; simp
      rw [hdrop] at hI
      simp only [scanB] at hI
      refine ⟨a1, ?_⟩
      cases hb : bad l.getLast? x with
      | true =>
        rw [hb] at hI a2
        exact .inr ⟨no, a2, by rw [hI]; rfl⟩
      | false =>
        rw [hb] at hI a2
        exact .inl ⟨(), a2, by rw [hdrop2, hI]; simp⟩)
    (fun _ hI => by
      rw [List.drop_length] at hI
      exact ⟨hend.1, yes, hend.2, by rw [hI]; rfl⟩)
  rw [h2] at h1
  exact h1
end Go.Proofs.Ytopcofkpggefkaa

namespace Go.Proofs.Ytopcofkpggefkaa
open Go

theorem plan_eta (p : Plan) : Plan.mk p.Kind p.Num p.Kids = p := by cases p; rfl
/-- How many inputs a kind has, and how far its number goes. -/
def kd (k : Int) : Int × Int × Int :=
  if k = 1 then (0, 0, 1) else if k = 2 then (1, 1, 7) else if k = 3 ∨ k = 5 then (2, 0, 0) else if k = 4 then (1, 0, 0) else if k = 6 then (1, 1, 3) else (-1, 0, 0)
theorem kd_cases (k : Int) : k = 1 ∨ k = 2 ∨ k = 3 ∨ k = 4 ∨ k = 5 ∨ k = 6 ∨ (k ≠ 1 ∧ k ≠ 2 ∧ k ≠ 3 ∧ k ≠ 4 ∧ k ≠ 5 ∧ k ≠ 6) := by omega
theorem kidsOf_ok (k : Int) : p_impl_kidsOf k ∧ v_impl_kidsOf k = ((kd k).1, (kd k).2.1, (kd k).2.2, ()) := by
  simp only [p_impl_kidsOf, v_impl_kidsOf, impl_kidsOf_b_ob, impl_kidsOf_b, impl_kidsOf_b_t, impl_kidsOf_c1_S, impl_kidsOf_c1_ob, impl_kidsOf_c1, impl_kidsOf_c1_t, impl_kidsOf_c2_S, impl_kidsOf_c2_ob, impl_kidsOf_c2, impl_kidsOf_c2_t, Tr.val, Tr.ob, cmp_eql']
  rcases kd_cases k with rfl | rfl | rfl | rfl | rfl | rfl | ⟨h1, h2, h3, h4, h5, h6⟩
  · exact ⟨by simp, rfl⟩
  · exact ⟨by simp, rfl⟩
  · exact ⟨by simp, rfl⟩
  · exact ⟨by simp, rfl⟩
  · exact ⟨by simp, rfl⟩
  · exact ⟨by simp, rfl⟩
  · simp [h1, h2, h3, h4, h5, h6, kd, ocR]
theorem l21Kids_ok (k : Int) : p_spec_l21Kids k ∧ v_spec_l21Kids k = ((kd k).1, (kd k).2.1, (kd k).2.2, ()) := by
  simp only [p_spec_l21Kids, v_spec_l21Kids, spec_l21Kids_b_ob, spec_l21Kids_b, spec_l21Kids_b_t, spec_l21Kids_c1_S, spec_l21Kids_c1_ob, spec_l21Kids_c1, spec_l21Kids_c1_t, spec_l21Kids_c2_S, spec_l21Kids_c2_ob, spec_l21Kids_c2, spec_l21Kids_c2_t, Tr.val, Tr.ob, cmp_eql']
  rcases kd_cases k with rfl | rfl | rfl | rfl | rfl | rfl | ⟨h1, h2, h3, h4, h5, h6⟩
  · exact ⟨by simp, rfl⟩
  · exact ⟨by simp, rfl⟩
  · exact ⟨by simp, rfl⟩
  · exact ⟨by simp, rfl⟩
  · exact ⟨by simp, rfl⟩
  · exact ⟨by simp, rfl⟩
  · simp [h1, h2, h3, h4, h5, h6, kd, ocR]
/-- One plan's own form. -/
def rootOk (p : Plan) : Bool := decide ((p.Kids.length : Int) = (kd p.Kind).1 ∧ (kd p.Kind).2.1 ≤ p.Num ∧ p.Num ≤ (kd p.Kind).2.2)
/-- A valid plan, at most so deep. -/
def okM : Nat → Plan → Bool
  | 0, _ => false
  | d + 1, p => rootOk p && p.Kids.all (okM d)
theorem kd_le (k : Int) : (kd k).1 ≤ 2 := by
  unfold kd; repeat' split
  all_goals simp
theorem rootOk_len {p : Plan} (h : rootOk p = true) : p.Kids.length ≤ 2 := by
  simp only [rootOk, decide_eq_true_eq] at h
  have := kd_le p.Kind
  omega

theorem planOk_ok : ∀ (d n : Nat), d < n → d ≤ 1000 → ∀ p : Plan, (vp_impl_planOk n).2 p d ∧ (vp_impl_planOk n).1 p d = okM d p := by
  intro d
  induction d with
  | zero =>
    intro n hn _ p
    obtain ⟨m, rfl⟩ : ∃ m, n = m + 1 := ⟨n - 1, by omega⟩
    obtain ⟨k1, k2⟩ := kidsOf_ok p.Kind
    have hl : cmp .lss ((0 : Nat) : Int) 1 = true := rfl
    simp only [vp_impl_planOk, impl_planOk_b_ob, impl_planOk_b, impl_planOk_b_t, Tr.val, Tr.ob, AllP, hl, cond_true, ocR]
    exact ⟨by simp [k1], rfl⟩
  | succ d ih =>
    intro n hn hd p
    obtain ⟨m, rfl⟩ : ∃ m, n = m + 1 := ⟨n - 1, by omega⟩
    obtain ⟨k1, k2⟩ := kidsOf_ok p.Kind
    generalize hD : ((d + 1 : Nat) : Int) = D
    have hl : cmp .lss D 1 = false := by rw [cmp_lss']; simp; omega
    have hsub : ar .sub .i64 D 1 = (d : Int) := by rw [ar_sub (by omega)]; omega
    have hc : cond (cond (cond (cond (cmp .lss D 1) true (cmp .lss (v_impl_kidsOf p.Kind).1 0)) true (cmp .neq (lenI .plan p.Kids) (v_impl_kidsOf p.Kind).1)) true (cmp .lss p.Num (v_impl_kidsOf p.Kind).2.1)) true (cmp .gtr p.Num (v_impl_kidsOf p.Kind).2.2.1) = !rootOk p := by
      rw [hl, k2]
      simp only [cmp_lss', cmp_neq', cmp_gtr', rootOk, lenI]
      rw [Bool.eq_iff_iff]
      simp
      omega
    by_cases hh : rootOk p = true
    · have hlen := rootOk_len hh
      have k : Runs (fun s : Int => ocLp (impl_planOk_c2_r (vp_impl_planOk m).1 (vp_impl_planOk m).2 D p.Kids (lenI .plan p.Kids) s)) (fun s => impl_planOk_c2_r_ob (vp_impl_planOk m).1 (vp_impl_planOk m).2 D p.Kids (lenI .plan p.Kids) s) 0 (if scanB (fun _ x => !okM d x) none p.Kids = true then .x () else .r false) := by
        refine Runs.scan p.Kids _ (fun l x r hx => ?_) ?_
        · have hrd : rd .plan p.Kids (l.length : Int) = x := by rw [hx]; exact rd_mid
          have hin : inb (l.length : Int) (lenI .plan p.Kids) := by rw [hx]; exact inb_mid (t := .plan)
          have hlss : cmp .lss (l.length : Int) (lenI .plan p.Kids) = true := by rw [hx]; exact lss_mid
          have hlen2 : p.Kids.length = l.length + (r.length + 1) := by rw [hx]; simp
          obtain ⟨i1, i2⟩ := ih m (by omega) (by omega) x
          simp only [impl_planOk_c2_r_ob, impl_planOk_c2_r, impl_planOk_c2_r_t, Tr.val, Tr.ob, AllP, hlss, hrd, plan_eta, hsub, i2, succ_mid (l := l) (by omega)]
          refine ⟨by simp [hin, i1], ?_⟩
          cases okM d x <;> rfl
        · have hend : cmp .lss (p.Kids.length : Int) (lenI .plan p.Kids) = false := lss_end (t := .plan)
          simp only [impl_planOk_c2_r_ob, impl_planOk_c2_r, impl_planOk_c2_r_t, Tr.val, Tr.ob, AllP, hend]
          exact ⟨by simp, rfl⟩
      have a2 : impl_planOk_c2 (vp_impl_planOk m).1 (vp_impl_planOk m).2 D p.Kids (lenI .plan p.Kids) = _ := k.v
      have b2 : impl_planOk_c2_ob (vp_impl_planOk m).1 (vp_impl_planOk m).2 D p.Kids (lenI .plan p.Kids) := k.t
      rw [scanB_all] at a2
      simp only [vp_impl_planOk, impl_planOk_b_ob, impl_planOk_b, impl_planOk_b_t, impl_planOk_c1_S, impl_planOk_c1_ob, impl_planOk_c1, impl_planOk_c1_t, impl_planOk_c2_S, lpS, Tr.val, Tr.ob, AllP, hc, hh, Bool.not_true, a2, okM]
      refine ⟨by simp [k1, b2], ?_⟩
      cases p.Kids.all (okM d) <;> rfl
    · have hh : rootOk p = false := by simpa using hh
      simp only [vp_impl_planOk, impl_planOk_b_ob, impl_planOk_b, impl_planOk_b_t, Tr.val, Tr.ob, AllP, hc, hh, Bool.not_false, ocR, okM, Bool.false_and]
      exact ⟨by simp [k1], trivial⟩
theorem l21Ok_ok : ∀ (d n : Nat), d < n → d ≤ 1000 → ∀ p : Plan, (vp_spec_l21Ok n).2 p d ∧ (vp_spec_l21Ok n).1 p d = okM d p := by
  intro d
  induction d with
  | zero =>
    intro n hn _ p
    obtain ⟨m, rfl⟩ : ∃ m, n = m + 1 := ⟨n - 1, by omega⟩
    obtain ⟨k1, k2⟩ := l21Kids_ok p.Kind
    have hl : cmp .lss ((0 : Nat) : Int) 1 = true := rfl
    simp only [vp_spec_l21Ok, spec_l21Ok_b_ob, spec_l21Ok_b, spec_l21Ok_b_t, Tr.val, Tr.ob, AllP, hl, cond_true, ocR]
    exact ⟨by simp [k1], rfl⟩
  | succ d ih =>
    intro n hn hd p
    obtain ⟨m, rfl⟩ : ∃ m, n = m + 1 := ⟨n - 1, by omega⟩
    obtain ⟨k1, k2⟩ := l21Kids_ok p.Kind
    generalize hD : ((d + 1 : Nat) : Int) = D
    have hl : cmp .lss D 1 = false := by rw [cmp_lss']; simp; omega
    have hsub : ar .sub .i64 D 1 = (d : Int) := by rw [ar_sub (by omega)]; omega
    have hin6 : ∀ a b c, p_spec_l6In a b c ∧ v_spec_l6In a b c = decide (b ≤ a ∧ a ≤ c) := fun a b c => by
      refine ⟨trivial, ?_⟩
      show cond (cmp .geq a b) (cmp .leq a c) false = _
      rw [cmp_geq', cmp_leq', Bool.eq_iff_iff]
      simp
    have hc : cond (cond (cmp .lss D 1) true (cmp .neq (lenI .plan p.Kids) (v_spec_l21Kids p.Kind).1)) true (!(v_spec_l6In p.Num (v_spec_l21Kids p.Kind).2.1 (v_spec_l21Kids p.Kind).2.2.1)) = !rootOk p := by
      rw [hl, k2, (hin6 _ _ _).2]
      simp only [cmp_neq', rootOk, lenI]
      rw [Bool.eq_iff_iff]
      simp
    by_cases hh : rootOk p = true
    · have hlen := rootOk_len hh
      have k : Runs (fun s : Int => ocLp (spec_l21Ok_c2_r (vp_spec_l21Ok m).1 (vp_spec_l21Ok m).2 D p.Kind p.Num p.Kids s)) (fun s => spec_l21Ok_c2_r_ob (vp_spec_l21Ok m).1 (vp_spec_l21Ok m).2 D p.Kind p.Num p.Kids s) 0 (if scanB (fun _ x => !okM d x) none p.Kids = true then .x () else .r false) := by
        refine Runs.scan p.Kids _ (fun l x r hx => ?_) ?_
        · have hrd : rd .plan p.Kids (l.length : Int) = x := by rw [hx]; exact rd_mid
          have hin : inb (l.length : Int) (lenI .plan p.Kids) := by rw [hx]; exact inb_mid (t := .plan)
          have hlss : cmp .lss (l.length : Int) (lenI .plan p.Kids) = true := by rw [hx]; exact lss_mid
          have hlen2 : p.Kids.length = l.length + (r.length + 1) := by rw [hx]; simp
          obtain ⟨i1, i2⟩ := ih m (by omega) (by omega) x
          simp only [spec_l21Ok_c2_r_ob, spec_l21Ok_c2_r, spec_l21Ok_c2_r_t, Tr.val, Tr.ob, AllP, hlss, hrd, plan_eta, hsub, i2, succ_mid (l := l) (by omega)]
          refine ⟨by simp [hin, i1], ?_⟩
          cases okM d x <;> rfl
        · have hend : cmp .lss (p.Kids.length : Int) (lenI .plan p.Kids) = false := lss_end (t := .plan)
          simp only [spec_l21Ok_c2_r_ob, spec_l21Ok_c2_r, spec_l21Ok_c2_r_t, Tr.val, Tr.ob, AllP, hend]
          exact ⟨by simp, rfl⟩
      have a2 : spec_l21Ok_c2 (vp_spec_l21Ok m).1 (vp_spec_l21Ok m).2 D p.Kind p.Num p.Kids = _ := k.v
      have b2 : spec_l21Ok_c2_ob (vp_spec_l21Ok m).1 (vp_spec_l21Ok m).2 D p.Kind p.Num p.Kids := k.t
      rw [scanB_all] at a2
      simp only [vp_spec_l21Ok, spec_l21Ok_b_ob, spec_l21Ok_b, spec_l21Ok_b_t, spec_l21Ok_c1_S, spec_l21Ok_c1_ob, spec_l21Ok_c1, spec_l21Ok_c1_t, spec_l21Ok_c2_S, lpS, Tr.val, Tr.ob, AllP, hc, hh, Bool.not_true, a2, okM]
      refine ⟨by simp [k1, b2, (hin6 _ _ _).1], ?_⟩
      cases p.Kids.all (okM d) <;> rfl
    · have hh : rootOk p = false := by simpa using hh
      simp only [vp_spec_l21Ok, spec_l21Ok_b_ob, spec_l21Ok_b, spec_l21Ok_b_t, Tr.val, Tr.ob, AllP, hc, hh, Bool.not_false, ocR, okM, Bool.false_and]
      exact ⟨by simp [k1, (hin6 _ _ _).1], trivial⟩

theorem okM_kids {d : Nat} {p : Plan} (h : okM (d + 1) p = true) : p.Kids.length ≤ 2 ∧ ∀ x ∈ p.Kids, okM d x = true := by
  simp only [okM, Bool.and_eq_true, List.all_eq_true] at h
  exact ⟨rootOk_len h.1, h.2⟩
theorem planCopy_ok : ∀ (d n : Nat), d ≤ n → ∀ p : Plan, okM d p = true → (vp_impl_planCopy n).2 p ∧ (vp_impl_planCopy n).1 p = p := by
  intro d
  induction d with
  | zero => intro n _ p h; cases h
  | succ d ih =>
    intro n hn p hp
    obtain ⟨m, rfl⟩ : ∃ m, n = m + 1 := ⟨n - 1, by omega⟩
    obtain ⟨hlen, hk⟩ := okM_kids hp
    have k : Runs (fun s : LP × Int => ocLp (impl_planCopy_c2_r (vp_impl_planCopy m).1 (vp_impl_planCopy m).2 p.Kind p.Num p.Kids (lenI .plan p.Kids) s.1 s.2)) (fun s => impl_planCopy_c2_r_ob (vp_impl_planCopy m).1 (vp_impl_planCopy m).2 p.Kind p.Num p.Kids (lenI .plan p.Kids) s.1 s.2) ([], 0) (.x p.Kids) := by
      refine Runs.fold p.Kids (fun i b => (b, (i : Int))) (fun l => l) rfl (fun l x r hx => ?_) ?_
      · have hrd : rd .plan p.Kids (l.length : Int) = x := by rw [hx]; exact rd_mid
        have hin : inb (l.length : Int) (lenI .plan p.Kids) := by rw [hx]; exact inb_mid (t := .plan)
        have hlss : cmp .lss (l.length : Int) (lenI .plan p.Kids) = true := by rw [hx]; exact lss_mid
        have hlen2 : p.Kids.length = l.length + (r.length + 1) := by rw [hx]; simp
        obtain ⟨i1, i2⟩ := ih m (by omega) x (hk x (by rw [hx]; simp))
        have hlim : ∀ y, lim (lenI .plan l) (lenI .plan [y]) := fun y => lim_one (t := .plan) (show l.length < 1099511627776 by omega)
        simp only [impl_planCopy_c2_r_ob, impl_planCopy_c2_r, impl_planCopy_c2_r_t, Tr.val, Tr.ob, AllP, hlss, hrd, plan_eta, i2, succ_mid (l := l) (by omega)]
        exact ⟨by simp [hin, i1, hlim], rfl⟩
      · have hend : cmp .lss (p.Kids.length : Int) (lenI .plan p.Kids) = false := lss_end (t := .plan)
        simp only [impl_planCopy_c2_r_ob, impl_planCopy_c2_r, impl_planCopy_c2_r_t, Tr.val, Tr.ob, AllP, hend]
        exact ⟨by simp, rfl⟩
    have a2 : impl_planCopy_c2 (vp_impl_planCopy m).1 (vp_impl_planCopy m).2 p.Kind p.Num p.Kids (lenI .plan p.Kids) = .x p.Kids := k.v
    have b2 : impl_planCopy_c2_ob (vp_impl_planCopy m).1 (vp_impl_planCopy m).2 p.Kind p.Num p.Kids (lenI .plan p.Kids) := k.t
    simp only [vp_impl_planCopy, impl_planCopy_b_ob, impl_planCopy_b, impl_planCopy_b_t, impl_planCopy_c1_S, impl_planCopy_c1_ob, impl_planCopy_c1, impl_planCopy_c1_t, impl_planCopy_c2_S, lpS, Tr.val, Tr.ob, AllP, a2, ocR, plan_eta]
    exact ⟨by simp [b2], trivial⟩
theorem l31Plan_ok : ∀ (d n : Nat), d ≤ n → ∀ p : Plan, okM d p = true → (vp_spec_l31Plan n).2 p ∧ (vp_spec_l31Plan n).1 p = p := by
  intro d
  induction d with
  | zero => intro n _ p h; cases h
  | succ d ih =>
    intro n hn p hp
    obtain ⟨m, rfl⟩ : ∃ m, n = m + 1 := ⟨n - 1, by omega⟩
    obtain ⟨hlen, hk⟩ := okM_kids hp
    have k : Runs (fun s : LP × Int => ocLp (spec_l31Plan_c2_r (vp_spec_l31Plan m).1 (vp_spec_l31Plan m).2 p.Kind p.Num p.Kids s.1 s.2)) (fun s => spec_l31Plan_c2_r_ob (vp_spec_l31Plan m).1 (vp_spec_l31Plan m).2 p.Kind p.Num p.Kids s.1 s.2) ([], 0) (.x p.Kids) := by
      refine Runs.fold p.Kids (fun i b => (b, (i : Int))) (fun l => l) rfl (fun l x r hx => ?_) ?_
      · have hrd : rd .plan p.Kids (l.length : Int) = x := by rw [hx]; exact rd_mid
        have hin : inb (l.length : Int) (lenI .plan p.Kids) := by rw [hx]; exact inb_mid (t := .plan)
        have hlss : cmp .lss (l.length : Int) (lenI .plan p.Kids) = true := by rw [hx]; exact lss_mid
        have hlen2 : p.Kids.length = l.length + (r.length + 1) := by rw [hx]; simp
        obtain ⟨i1, i2⟩ := ih m (by omega) x (hk x (by rw [hx]; simp))
        have hlim : ∀ y, lim (lenI .plan l) (lenI .plan [y]) := fun y => lim_one (t := .plan) (show l.length < 1099511627776 by omega)
        simp only [spec_l31Plan_c2_r_ob, spec_l31Plan_c2_r, spec_l31Plan_c2_r_t, Tr.val, Tr.ob, AllP, hlss, hrd, plan_eta, i2, succ_mid (l := l) (by omega)]
        exact ⟨by simp [hin, i1, hlim], rfl⟩
      · have hend : cmp .lss (p.Kids.length : Int) (lenI .plan p.Kids) = false := lss_end (t := .plan)
        simp only [spec_l31Plan_c2_r_ob, spec_l31Plan_c2_r, spec_l31Plan_c2_r_t, Tr.val, Tr.ob, AllP, hend]
        exact ⟨by simp, rfl⟩
    have a2 : spec_l31Plan_c2 (vp_spec_l31Plan m).1 (vp_spec_l31Plan m).2 p.Kind p.Num p.Kids = .x p.Kids := k.v
    have b2 : spec_l31Plan_c2_ob (vp_spec_l31Plan m).1 (vp_spec_l31Plan m).2 p.Kind p.Num p.Kids := k.t
    simp only [vp_spec_l31Plan, spec_l31Plan_b_ob, spec_l31Plan_b, spec_l31Plan_b_t, spec_l31Plan_c1_S, spec_l31Plan_c1_ob, spec_l31Plan_c1, spec_l31Plan_c1_t, spec_l31Plan_c2_S, lpS, Tr.val, Tr.ob, AllP, a2, ocR, plan_eta]
    exact ⟨by simp [b2], trivial⟩
/-- A plan that is not too deep, each of not too many. -/
def smM : Nat → Plan → Bool
  | 0, _ => false
  | d + 1, p => decide (p.Kids.length ≤ 2) && p.Kids.all (smM d)
theorem smM_kids {d : Nat} {p : Plan} (h : smM (d + 1) p = true) : p.Kids.length ≤ 2 ∧ ∀ x ∈ p.Kids, smM d x = true := by
  simp only [smM, Bool.and_eq_true, List.all_eq_true, decide_eq_true_eq] at h
  exact h
theorem smM_of : ∀ {d : Nat} {p : Plan}, okM d p = true → smM d p = true
  | 0, _, h => by cases h
  | d + 1, p, h => by
    obtain ⟨h1, h2⟩ := okM_kids h
    simp only [smM, Bool.and_eq_true, List.all_eq_true, decide_eq_true_eq]
    exact ⟨h1, fun x hx => smM_of (h2 x hx)⟩
theorem lwPlan_ok : ∀ (d n : Nat), d ≤ n → ∀ p : Plan, smM d p = true → (vp_laws_lwPlan n).2 p p ∧ (vp_laws_lwPlan n).1 p p = true := by
  intro d
  induction d with
  | zero => intro n _ p h; cases h
  | succ d ih =>
    intro n hn p hp
    obtain ⟨m, rfl⟩ : ∃ m, n = m + 1 := ⟨n - 1, by omega⟩
    obtain ⟨hlen, hk⟩ := smM_kids hp
    have k : Runs (fun s : Int => ocLp (laws_lwPlan_c2_r (vp_laws_lwPlan m).1 (vp_laws_lwPlan m).2 p.Kind p.Num p.Kids p.Kind p.Num p.Kids s)) (fun s => laws_lwPlan_c2_r_ob (vp_laws_lwPlan m).1 (vp_laws_lwPlan m).2 p.Kind p.Num p.Kids p.Kind p.Num p.Kids s) 0 (.x ()) := by
      refine Runs.fold p.Kids (fun i (_ : Unit) => (i : Int)) (fun _ => ()) rfl (fun l x r hx => ?_) ?_
      · have hrd : rd .plan p.Kids (l.length : Int) = x := by rw [hx]; exact rd_mid
        have hin : inb (l.length : Int) (lenI .plan p.Kids) := by rw [hx]; exact inb_mid (t := .plan)
        have hlss : cmp .lss (l.length : Int) (lenI .plan p.Kids) = true := by rw [hx]; exact lss_mid
        have hlen2 : p.Kids.length = l.length + (r.length + 1) := by rw [hx]; simp
        obtain ⟨i1, i2⟩ := ih m (by omega) x (hk x (by rw [hx]; simp))
        simp only [laws_lwPlan_c2_r_ob, laws_lwPlan_c2_r, laws_lwPlan_c2_r_t, Tr.val, Tr.ob, AllP, hlss, hrd, plan_eta, i2, Bool.not_true, succ_mid (l := l) (by omega)]
        exact ⟨by simp [hin, i1], rfl⟩
      · have hend : cmp .lss (p.Kids.length : Int) (lenI .plan p.Kids) = false := lss_end (t := .plan)
        simp only [laws_lwPlan_c2_r_ob, laws_lwPlan_c2_r, laws_lwPlan_c2_r_t, Tr.val, Tr.ob, AllP, hend]
        exact ⟨by simp, rfl⟩
    have a2 : laws_lwPlan_c2 (vp_laws_lwPlan m).1 (vp_laws_lwPlan m).2 p.Kind p.Num p.Kids p.Kind p.Num p.Kids = .x () := k.v
    have b2 : laws_lwPlan_c2_ob (vp_laws_lwPlan m).1 (vp_laws_lwPlan m).2 p.Kind p.Num p.Kids p.Kind p.Num p.Kids := k.t
    have hc : cond (cond (cmp .neq p.Kind p.Kind) true (cmp .neq p.Num p.Num)) true (cmp .neq (lenI .plan p.Kids) (lenI .plan p.Kids)) = false := by simp [cmp_neq']
    simp only [vp_laws_lwPlan, laws_lwPlan_b_ob, laws_lwPlan_b, laws_lwPlan_b_t, laws_lwPlan_c1_S, laws_lwPlan_c1_ob, laws_lwPlan_c1, laws_lwPlan_c1_t, laws_lwPlan_c2_S, lpS, Tr.val, Tr.ob, AllP, hc, a2, ocR]
    exact ⟨by simp [b2], trivial⟩

theorem implPlanOk_ok (p : Plan) : p_impl_PlanOk p ∧ v_impl_PlanOk p = okM 4 p := by
  obtain ⟨h1, h2⟩ := planOk_ok 4 fuelN (by decide) (by decide) p
  simp only [p_impl_PlanOk, v_impl_PlanOk, impl_PlanOk_b_ob, impl_PlanOk_b, impl_PlanOk_b_t, Tr.val, Tr.ob, AllP, plan_eta, ocR]
  exact ⟨⟨⟨h1, trivial⟩, trivial⟩, h2⟩
theorem specPlanOk_ok (p : Plan) : p_spec_PlanOk p ∧ v_spec_PlanOk p = okM 4 p := by
  obtain ⟨h1, h2⟩ := l21Ok_ok 4 fuelN (by decide) (by decide) p
  simp only [p_spec_PlanOk, v_spec_PlanOk, spec_PlanOk_b_ob, spec_PlanOk_b, spec_PlanOk_b_t, Tr.val, Tr.ob, AllP, plan_eta, ocR]
  exact ⟨⟨⟨h1, trivial⟩, trivial⟩, h2⟩
theorem implCopy_ok {p : Plan} (h : okM 4 p = true) : p_impl_planCopy p ∧ v_impl_planCopy p = p := planCopy_ok 4 fuelN (by decide) p h
theorem l31_ok {p : Plan} (h : okM 4 p = true) : p_spec_l31Plan p ∧ v_spec_l31Plan p = p := l31Plan_ok 4 fuelN (by decide) p h
theorem lw_ok {p : Plan} (h : smM 4 p = true) : p_laws_lwPlan p p ∧ v_laws_lwPlan p p = true := lwPlan_ok 4 fuelN (by decide) p h
end Go.Proofs.Ytopcofkpggefkaa

namespace Go.Proofs.Ytopcofkpggefkaa
open Go

theorem lss00 {t : Ty} : cmp .lss 0 (lenI t []) = false := rfl
theorem limN {t : Ty} : lim (lenI t []) 1 := by simp [lim, lenI]
theorem limNN {t : Ty} : lim (lenI t []) (lenI t []) := by simp [lim, lenI]
theorem consN : p_impl_consolidated [] ∧ v_impl_consolidated [] = [] := ⟨limN (t := .row), rfl⟩
theorem gathN : p_impl_gathered [] ∧ v_impl_gathered [] = [] := ⟨limN (t := .item), rfl⟩

theorem rowsOkN : p_impl_RowsOk [] ∧ v_impl_RowsOk [] = true := by
  have k : Runs (fun s : Int => ocLp (impl_RowsOk_c2_r [] (lenI .row []) s)) (fun s => impl_RowsOk_c2_r_ob [] (lenI .row []) s) 0 (.x ()) := by
    refine Runs.out ?_ ?_
    · simp only [impl_RowsOk_c2_r_ob, impl_RowsOk_c2_r_t, Tr.ob]; exact ⟨fun h => absurd h (by decide), fun _ => trivial⟩
    · rfl
  have a2 : impl_RowsOk_c2 [] (lenI .row []) = .x () := k.v
  have b2 : impl_RowsOk_c2_ob [] (lenI .row []) := k.t
  simp only [p_impl_RowsOk, v_impl_RowsOk, impl_RowsOk_b_ob, impl_RowsOk_b, impl_RowsOk_b_t, impl_RowsOk_c1_S, impl_RowsOk_c1_ob, impl_RowsOk_c1, impl_RowsOk_c1_t, impl_RowsOk_c2_S, lpS, Tr.val, Tr.ob, a2]
  exact ⟨by simp [b2], rfl⟩
theorem batchOkN : p_impl_BatchOk [] ∧ v_impl_BatchOk [] = true := by
  have k : Runs (fun s : Int => ocLp (impl_BatchOk_c2_r [] (lenI .row []) s)) (fun s => impl_BatchOk_c2_r_ob [] (lenI .row []) s) 0 (.x ()) := by
    refine Runs.out ?_ ?_
    · simp only [impl_BatchOk_c2_r_ob, impl_BatchOk_c2_r_t, Tr.ob]; exact ⟨fun h => absurd h (by decide), fun _ => trivial⟩
    · rfl
  have a2 : impl_BatchOk_c2 [] (lenI .row []) = .x () := k.v
  have b2 : impl_BatchOk_c2_ob [] (lenI .row []) := k.t
  simp only [p_impl_BatchOk, v_impl_BatchOk, impl_BatchOk_b_ob, impl_BatchOk_b, impl_BatchOk_b_t, impl_BatchOk_c1_S, impl_BatchOk_c1_ob, impl_BatchOk_c1, impl_BatchOk_c1_t, impl_BatchOk_c2_S, lpS, Tr.val, Tr.ob, AllP, a2, rowsOkN.2, ocR]
  exact ⟨by simp [b2, rowsOkN.1], trivial⟩
theorem batchN : p_impl_batch [] ∧ v_impl_batch [] = ([], true, ()) := by
  simp only [p_impl_batch, v_impl_batch, impl_batch_b_ob, impl_batch_b, impl_batch_b_t, Tr.val, Tr.ob, AllP, consN.2, batchOkN.2, Bool.not_true, ocR]
  exact ⟨by simp [consN.1, batchOkN.1], trivial⟩
theorem eachN (h : Int) : p_impl_flowEach [] h ∧ v_impl_flowEach [] h = ([], true, ()) := by
  have k : Runs (fun s : LR × Int => ocLp (impl_flowEach_c2_r h [] (lenI .row []) s.1 s.2)) (fun s => impl_flowEach_c2_r_ob h [] (lenI .row []) s.1 s.2) ([], 0) (.x []) := by
    refine Runs.out ?_ ?_
    · simp only [impl_flowEach_c2_r_ob, impl_flowEach_c2_r_t, Tr.ob]; exact ⟨fun h => absurd h (by decide), fun _ => trivial⟩
    · rfl
  have a2 : impl_flowEach_c2 h [] (lenI .row []) = .x [] := k.v
  have b2 : impl_flowEach_c2_ob h [] (lenI .row []) := k.t
  simp only [p_impl_flowEach, v_impl_flowEach, impl_flowEach_b_ob, impl_flowEach_b, impl_flowEach_b_t, impl_flowEach_c1_S, impl_flowEach_c1_ob, impl_flowEach_c1, impl_flowEach_c1_t, impl_flowEach_c2_S, lpS, Tr.val, Tr.ob, AllP, a2, batchN.2, ocR]
  exact ⟨by simp [b2, batchN.1], trivial⟩
theorem joinN : p_impl_flowJoin [] [] ∧ v_impl_flowJoin [] [] = ([], true, ()) := by
  have k : Runs (fun s : LR × Int => ocLp (impl_flowJoin_c2_r [] [] (lenI .row []) s.1 s.2)) (fun s => impl_flowJoin_c2_r_ob [] [] (lenI .row []) s.1 s.2) ([], 0) (.x []) := by
    refine Runs.out ?_ ?_
    · simp only [impl_flowJoin_c2_r_ob, impl_flowJoin_c2_r_t, Tr.ob]; exact ⟨fun h => absurd h (by decide), fun _ => trivial⟩
    · rfl
  have a2 : impl_flowJoin_c2 [] [] (lenI .row []) = .x [] := k.v
  have b2 : impl_flowJoin_c2_ob [] [] (lenI .row []) := k.t
  simp only [p_impl_flowJoin, v_impl_flowJoin, impl_flowJoin_b_ob, impl_flowJoin_b, impl_flowJoin_b_t, impl_flowJoin_c1_S, impl_flowJoin_c1_ob, impl_flowJoin_c1, impl_flowJoin_c1_t, impl_flowJoin_c2_S, lpS, Tr.val, Tr.ob, AllP, a2, batchN.2, ocR]
  exact ⟨by simp [b2, batchN.1], trivial⟩
theorem negN : p_impl_negated [] ∧ v_impl_negated [] = [] := by
  have k : Runs (fun s : LR × Int => ocLp (impl_negated_c2_r [] (lenI .row []) s.1 s.2)) (fun s => impl_negated_c2_r_ob [] (lenI .row []) s.1 s.2) ([], 0) (.x []) := by
    refine Runs.out ?_ ?_
    · simp only [impl_negated_c2_r_ob, impl_negated_c2_r_t, Tr.ob]; exact ⟨fun h => absurd h (by decide), fun _ => trivial⟩
    · rfl
  have a2 : impl_negated_c2 [] (lenI .row []) = .x [] := k.v
  have b2 : impl_negated_c2_ob [] (lenI .row []) := k.t
  simp only [p_impl_negated, v_impl_negated, impl_negated_b_ob, impl_negated_b, impl_negated_b_t, impl_negated_c1_S, impl_negated_c1_ob, impl_negated_c1, impl_negated_c1_t, impl_negated_c2_S, lpS, Tr.val, Tr.ob, AllP, List.append_nil, a2, ocR]
  exact ⟨by simp [b2, limNN (t := .row)], trivial⟩
theorem togN : p_impl_together [] [] ∧ v_impl_together [] [] = [] := by
  simp only [p_impl_together, v_impl_together, impl_together_b_ob, impl_together_b, impl_together_b_t, Tr.val, Tr.ob, AllP, List.append_nil, ocR]
  exact ⟨by simp [limNN (t := .row)], trivial⟩
theorem copyN : p_impl_rowsCopy [] ∧ v_impl_rowsCopy [] = [] := by
  refine ⟨?_, rfl⟩
  simp [p_impl_rowsCopy, impl_rowsCopy_b_ob, impl_rowsCopy_b_t, Tr.ob, AllP, mkOk, lenI]
theorem sumN (h : Int) : p_impl_flowSum [] h ∧ v_impl_flowSum [] h = ([], true, ()) := by
  have k5 : ∀ x, Runs (fun s : LR × Int => ocLp (impl_flowSum_c5_r [] h [] x (lenI .row []) s.1 s.2)) (fun s => impl_flowSum_c5_r_ob [] h [] x (lenI .row []) s.1 s.2) ([], 0) (.x []) := fun x => by
    refine Runs.out ?_ ?_
    · simp only [impl_flowSum_c5_r_ob, impl_flowSum_c5_r_t, Tr.ob]; exact ⟨fun h => absurd h (by decide), fun _ => trivial⟩
    · rfl
  have a5 : ∀ x, impl_flowSum_c5 [] h [] x (lenI .row []) = .x [] := fun x => (k5 x).v
  have b5 : ∀ x, impl_flowSum_c5_ob [] h [] x (lenI .row []) := fun x => (k5 x).t
  have k8 : ∀ x, Runs (fun s : LR × Int => ocLp (impl_flowSum_c8_r [] h [] x [] [] (lenI .time []) s.1 s.2)) (fun s => impl_flowSum_c8_r_ob [] h [] x [] [] (lenI .time []) s.1 s.2) ([], 0) (.x []) := fun x => by
    refine Runs.out ?_ ?_
    · simp only [impl_flowSum_c8_r_ob, impl_flowSum_c8_r_t, Tr.ob]; exact ⟨fun h => absurd h (by decide), fun _ => trivial⟩
    · rfl
  have a8 : ∀ x, impl_flowSum_c8 [] h [] x [] (v_impl_FlowTimes [] x) (lenI .time (v_impl_FlowTimes [] x)) = .x [] := fun x => (k8 x).v
  have b8 : ∀ x, impl_flowSum_c8_ob [] h [] x [] (v_impl_FlowTimes [] x) (lenI .time (v_impl_FlowTimes [] x)) := fun x => (k8 x).t
  have a3 : ∀ x, impl_flowSum_c3_ob [] h [] x ∧ impl_flowSum_c3 [] h [] x = .n [] := fun x => by
    simp only [impl_flowSum_c3_ob, impl_flowSum_c3, impl_flowSum_c3_t, impl_flowSum_c4_S, impl_flowSum_c4_ob, impl_flowSum_c4, impl_flowSum_c4_t, impl_flowSum_c5_S, impl_flowSum_c7_S, impl_flowSum_c7_ob, impl_flowSum_c7, impl_flowSum_c7_t, impl_flowSum_c8_S, p_impl_FlowTimes, lpS, Tr.val, Tr.ob, AllP, a5, a8, List.append_nil]
    have hl : lim (lenI .row ([] : List Row)) (lenI .row ([] : List Row)) := limNN (t := .row)
    exact ⟨by simp [a5, a8, b5, b8, hl], trivial⟩
  have k2 : Runs (fun s : LR × Int => ocLp (impl_flowSum_c2_r [] h s.1 s.2)) (fun s => impl_flowSum_c2_r_ob [] h s.1 s.2) ([], 0) (.x []) := by
    refine Runs.fold (List.range 4) (fun i b => (b, (i : Int))) (fun _ => []) rfl (fun l x r hx => ?_) ?_
    · have hlen : 4 = l.length + (r.length + 1) := by have := congrArg List.length hx; simpa using this
      have hl : cmp .lss (l.length : Int) 4 = true := by rw [cmp_lss']; simp; omega
      simp only [impl_flowSum_c2_r_ob, impl_flowSum_c2_r, impl_flowSum_c2_r_t, impl_flowSum_c3_S, Tr.val, Tr.ob, hl, (a3 _).2, succ_mid (l := l) (by omega)]
      exact ⟨by simp [(a3 _).1], rfl⟩
    · have hl : cmp .lss ((List.range 4).length : Int) 4 = false := rfl
      simp only [impl_flowSum_c2_r_ob, impl_flowSum_c2_r, impl_flowSum_c2_r_t, Tr.val, Tr.ob, hl]
      exact ⟨by simp, rfl⟩
  have a2 : impl_flowSum_c2 [] h = .x [] := k2.v
  have b2 : impl_flowSum_c2_ob [] h := k2.t
  simp only [p_impl_flowSum, v_impl_flowSum, impl_flowSum_b_ob, impl_flowSum_b, impl_flowSum_b_t, impl_flowSum_c1_S, impl_flowSum_c1_ob, impl_flowSum_c1, impl_flowSum_c1_t, impl_flowSum_c2_S, lpS, Tr.val, Tr.ob, AllP, a2, batchN.2, ocR]
  exact ⟨by simp [b2, batchN.1], trivial⟩

theorem planFlow_ok : ∀ (d n : Nat), d ≤ n → ∀ p : Plan, okM d p = true → (vp_impl_planFlow n).2 p [[], []] ∧ (vp_impl_planFlow n).1 p [[], []] = ([], true, ()) := by
  intro d
  induction d with
  | zero => intro n _ p h; cases h
  | succ d ih =>
    intro n hn p hp
    obtain ⟨m, rfl⟩ : ∃ m, n = m + 1 := ⟨n - 1, by omega⟩
    obtain ⟨hlen, hk⟩ := okM_kids hp
    have k : Runs (fun s : List LR × Int => ocLp (impl_planFlow_c2_r (vp_impl_planFlow m).1 (vp_impl_planFlow m).2 [[], []] p.Kind p.Num p.Kids (lenI .plan p.Kids) s.1 s.2)) (fun s => impl_planFlow_c2_r_ob (vp_impl_planFlow m).1 (vp_impl_planFlow m).2 [[], []] p.Kind p.Num p.Kids (lenI .plan p.Kids) s.1 s.2) ([], 0) (.x (p.Kids.map fun _ => [])) := by
      refine Runs.fold p.Kids (fun i b => (b, (i : Int))) (fun l => l.map fun _ => []) rfl (fun l x r hx => ?_) ?_
      · have hrd : rd .plan p.Kids (l.length : Int) = x := by rw [hx]; exact rd_mid
        have hin : inb (l.length : Int) (lenI .plan p.Kids) := by rw [hx]; exact inb_mid (t := .plan)
        have hlss : cmp .lss (l.length : Int) (lenI .plan p.Kids) = true := by rw [hx]; exact lss_mid
        have hlen2 : p.Kids.length = l.length + (r.length + 1) := by rw [hx]; simp
        obtain ⟨i1, i2⟩ := ih m (by omega) x (hk x (by rw [hx]; simp))
        have hlim : ∀ y, lim (lenI .lrow (l.map fun _ => ([] : List Row))) (lenI .lrow [y]) := fun y => lim_one (t := .lrow) (show (l.map fun _ => ([] : List Row)).length < 1099511627776 by simp; omega)
        simp only [impl_planFlow_c2_r_ob, impl_planFlow_c2_r, impl_planFlow_c2_r_t, Tr.val, Tr.ob, AllP, hlss, hrd, plan_eta, i2, Bool.not_true, succ_mid (l := l) (by omega)]
        exact ⟨by simp [hin, i1, hlim], by simp [ocLp]⟩
      · have hend : cmp .lss (p.Kids.length : Int) (lenI .plan p.Kids) = false := lss_end (t := .plan)
        simp only [impl_planFlow_c2_r_ob, impl_planFlow_c2_r, impl_planFlow_c2_r_t, Tr.val, Tr.ob, AllP, hend]
        exact ⟨by simp, rfl⟩
    have a2 : impl_planFlow_c2 (vp_impl_planFlow m).1 (vp_impl_planFlow m).2 [[], []] p.Kind p.Num p.Kids (lenI .plan p.Kids) = .x (p.Kids.map fun _ => []) := k.v
    have b2 : impl_planFlow_c2_ob (vp_impl_planFlow m).1 (vp_impl_planFlow m).2 [[], []] p.Kind p.Num p.Kids (lenI .plan p.Kids) := k.t
    have hr : rootOk p = true := by simp only [okM, Bool.and_eq_true] at hp; exact hp.1
    simp only [rootOk, decide_eq_true_eq] at hr
    obtain ⟨r1, r2, r3⟩ := hr
    simp only [vp_impl_planFlow, impl_planFlow_b_ob, impl_planFlow_b, impl_planFlow_b_t, impl_planFlow_c1_S, impl_planFlow_c1_ob, impl_planFlow_c1, impl_planFlow_c1_t, impl_planFlow_c2_S, lpS, Tr.val, Tr.ob, AllP, a2, cmp_eql']
    obtain ⟨K, N, ks⟩ := p
    simp only at r1 r2 r3 b2 ⊢
    have i0 : inb 0 (lenI .lrow [([] : List Row)]) := by simp [inb, lenI]
    have i02 : inb 0 (lenI .lrow [([] : List Row), []]) := by simp [inb, lenI]
    have i12 : inb 1 (lenI .lrow [([] : List Row), []]) := by simp [inb, lenI]
    rcases kd_cases K with rfl | rfl | rfl | rfl | rfl | rfl | ⟨h1, h2, h3, h4, h5, h6⟩
    · simp only [kd] at r1 r2 r3
      have hN : N = 0 ∨ N = 1 := by simp at r2 r3; omega
      have h0 : rd .lrow [([] : List Row), []] 0 = [] := rfl
      have h1 : rd .lrow [([] : List Row), []] 1 = [] := rfl
      rcases hN with rfl | rfl
      · simp only [h0, copyN.2]
        exact ⟨by simp [b2, copyN.1, i02, h0], rfl⟩
      · simp only [h1, copyN.2]
        exact ⟨by simp [b2, copyN.1, i12, h1], rfl⟩
    · have : ks.length = 1 := by simp [kd] at r1; omega
      match ks, this with
      | [a], _ =>
        have e := eachN N
        have hrd : rd .lrow [([] : List Row)] 0 = [] := rfl
        simp only [List.map_cons, List.map_nil, hrd, e.2]
        exact ⟨by simp [b2, e.1, i0, hrd], rfl⟩
    · have : ks.length = 2 := by simp [kd] at r1; omega
      match ks, this with
      | [a, c], _ =>
        have h0 : rd .lrow [([] : List Row), []] 0 = [] := rfl
        have h1 : rd .lrow [([] : List Row), []] 1 = [] := rfl
        simp only [List.map_cons, List.map_nil, h0, h1, togN.2, batchN.2]
        exact ⟨by simp [b2, togN.1, togN.2, batchN.1, i02, i12, h0, h1], rfl⟩
    · have : ks.length = 1 := by simp [kd] at r1; omega
      match ks, this with
      | [a], _ =>
        have hrd : rd .lrow [([] : List Row)] 0 = [] := rfl
        simp only [List.map_cons, List.map_nil, hrd, negN.2, batchN.2]
        exact ⟨by simp [b2, negN.1, negN.2, batchN.1, i0, hrd], rfl⟩
    · have : ks.length = 2 := by simp [kd] at r1; omega
      match ks, this with
      | [a, c], _ =>
        have h0 : rd .lrow [([] : List Row), []] 0 = [] := rfl
        have h1 : rd .lrow [([] : List Row), []] 1 = [] := rfl
        simp only [List.map_cons, List.map_nil, h0, h1, joinN.2]
        exact ⟨by simp [b2, joinN.1, i02, i12, h0, h1], rfl⟩
    · have : ks.length = 1 := by simp [kd] at r1; omega
      match ks, this with
      | [a], _ =>
        have e := sumN N
        have hrd : rd .lrow [([] : List Row)] 0 = [] := rfl
        simp only [List.map_cons, List.map_nil, hrd, e.2]
        exact ⟨by simp [b2, e.1, i0, hrd], rfl⟩
    · exfalso
      simp [kd, h1, h2, h3, h4, h5, h6] at r1
end Go.Proofs.Ytopcofkpggefkaa

namespace Go.Proofs.Ytopcofkpggefkaa
namespace Tf
open Go

theorem ttF : TTok Try.prog tt := ttChk_ok (by kernel_rfl)
theorem foF : Try.prog.follows .mixedOrders = true := by kernel_rfl
theorem g0 : Good Try.prog tt [] := .nil ttF foF
theorem kTime : Con Try.prog 110 s_impl_TimeOk := con_impl_TimeOk (.nil ttF foF)
theorem kRows : Con Try.prog 90 s_impl_RowsOk := con_impl_RowsOk (.cons kTime (.nil ttF foF))
theorem g1 : Good Try.prog tt [(90, s_impl_RowsOk)] := .cons kRows (.nil ttF foF)

section
variable {P : Program} {T K E n : Nat} {fs : Array Field} (hu : P.underlying T = some (.map K E)) (hk : P.underlying K = some (.struct fs)) (hE : EqOk P K n) (hc : CkOk P K n) (hz : ∀ w, (zeroValue E).run P w = .ok (.bool false) w)
include hu hk hE hc hz
theorem look0 {w : World} {r : Nat} (hr : w.heap[r]? = some (mapObj [])) {ks : List Int} (hks : ks.length = n) : (Instr.lookup T (.map (some r)) (kvOf ks) false).run P w = .ok (.bool false) w := by
  have h1 := findKey_run hE hk w hks [] (fun p hp => by cases hp)
  have h2 : ∀ b, (Instr.checkKey b 10000 K (kvOf ks)).run P w = .ok () w := fun b => hc b w ks hks
  have hg : (getObj r).run P w = .ok (mapObj []) w := by simp [getObj, Sem.run, hr, mapObj]
  unfold Instr.lookup
  simp only [Sem.run_bind, run_underlying hu, Result.andThen_ok, hg]
  simp only [mapObj, Sem.run_bind, Sem.run_pure, Result.andThen_ok, h2, h1]
  simp [lookI, hz w]
end

noncomputable def C7 : Code := bodyOf Try.f187
abbrev LT (x : List Time) : AV := .v (.acc true) (.lst .time x)
abbrev N7 (r : Nat) : NP := ⟨27, none, [(0, .map (some r))]⟩
noncomputable def o8 (i : Nat) : Oper := opN (opsOf (nav C7 [1, 1, 0, 1, 0, 0, 1, 0, 0, 1, 0, 0, 1, 0, 0, 0])) i
theorem op8 : (o8 0).op = .move (.tmp 0) ∧ (o8 0).dst = some 15 ∧ (o8 0).guard = none ∧ (o8 4).op = .lookup 186 (.tmp 15) (.tmp 18) false ∧ (o8 4).dst = some 19 ∧ (o8 4).guard = none ∧
    (o8 1).guard = none ∧ (o8 2).guard = none ∧ (o8 3).guard = none ∧ (o8 1).dst = some 16 ∧ (o8 2).dst = some 17 ∧ (o8 3).dst = some 18 :=
  ⟨by kernel_rfl, by kernel_rfl, by kernel_rfl, by kernel_rfl, by kernel_rfl, by kernel_rfl, by kernel_rfl, by kernel_rfl, by kernel_rfl, by kernel_rfl, by kernel_rfl, by kernel_rfl⟩
theorem at8 : List.range (opsOf (nav C7 [1, 1, 0, 1, 0, 0, 1, 0, 0, 1, 0, 0, 1, 0, 0, 0])).size = [0, 1, 2, 3, 4] ∧ ∀ i, i < 5 → (opsOf (nav C7 [1, 1, 0, 1, 0, 0, 1, 0, 0, 1, 0, 0, 1, 0, 0, 0]))[i]? = some (o8 i) := by
  refine ⟨by kernel_rfl, fun i hi => ?_⟩
  rcases (show i = 0 ∨ i = 1 ∨ i = 2 ∨ i = 3 ∨ i = 4 by omega) with rfl | rfl | rfl | rfl | rfl <;> kernel_rfl
noncomputable def svT7 : TypeInfo := (Try.prog.info? 74).get (by kernel_rfl)
noncomputable def sv4 : TypeInfo := (Try.prog.info? 4).get (by kernel_rfl)
noncomputable def fsT : Array Field := match Try.prog.underlying 74 with
  | some (.struct fs) => fs
  | _ => #[]
theorem look7 {w : World} {r : Nat} (hr : w.heap[r]? = some (mapObj [])) (i j : Int) : (Instr.lookup 186 (.map (some r)) (kvOf [i, j]) false).run Try.prog w = .ok (.bool false) w := by
  refine look0 (K := 74) (E := 4) (n := 2) (fs := fsT) (by kernel_rfl) (by kernel_rfl) (ttF.eq _ ⟨.struct [(0, 1), (1, 1)], 2, [.int .i64 0, .int .i64 0], some .time, true⟩ (by kernel_rfl) rfl)
    (ckOk (fs := fsT) (i := svT7) (by kernel_rfl) (by kernel_rfl) (by kernel_rfl) (by kernel_rfl)) (fun w => ?_) hr rfl
  have hi : Try.prog.info? 4 = some sv4 := by kernel_rfl
  have hz : sv4.zero = some (.bool false) := by kernel_rfl
  simp [zeroValue, typeInfo, hi, hz]

def E7 (i j : Int) : Env := [(3, LT []), (4, .v .fr (.int .i64 i)), (5, .v .fr (.int .i64 j))]
def E7' (i : Int) : Env := [(3, LT []), (4, .v .fr (.int .i64 i))]
set_option maxRecDepth 20000 in
theorem reg8 {Q : Exit → Act → World → Prop} {B : Nat} {W0 : World} {F0 : Fz} {r : Nat} (hW : W0.heap[r]? = some (mapObj [])) {i j : Int} {a : Act} {w : World} (hs : MS (N7 r) B [] W0 F0 [] (E7 i j) a w)
    (hQ : ∀ a w, MS (N7 r) B [] W0 F0 [] [(3, LT []), (4, .v .fr (.int .i64 i)), (5, .v .fr (.int .i64 j)), (19, .v .fr (.bool false))] a w → Q .normal a w) : (nav C7 [1, 1, 0, 1, 0, 0, 1, 0, 0, 1, 0, 0, 1, 0, 0, 0]).wp Try.prog Q a w := by
  obtain ⟨p0, d0, q0, p4, d4, q4, q1, q2, q3, d1, d2, d3⟩ := op8
  refine wpHand (by kernel_rfl) at8.1 ?_
  rw [wpOps_cons]
  refine wpOp_of (at8.2 0 (by omega)) q0 ?_
  refine wp_value (exec_move p0) ?_
  rw [d0, wpOps_cons, hs.k (s := 0) (v := .map (some r)) (by simp)]
  have h1 := hs.val (d := 15) (by kernel_rfl) (v := .map (some r)) (av := .dead) rfl (fun _ _ => trivial)
  refine wpOp_of (at8.2 1 (by omega)) q1 ?_
  refine h1.stepF g0 (ops := opsOf (nav C7 [1, 1, 0, 1, 0, 0, 1, 0, 0, 1, 0, 0, 1, 0, 0, 0])) (e' := (16, .v .fr (.int .i64 i)) :: (15, .dead) :: E7 i j) (ps := []) q1 (by kernel_rfl) trivial (fun d h => by rw [d1] at h; cases h; kernel_rfl) (fun a2 w2 h2 => ?_)
  rw [wpOps_cons]
  refine wpOp_of (at8.2 2 (by omega)) q2 ?_
  refine h2.stepF g0 (ops := opsOf (nav C7 [1, 1, 0, 1, 0, 0, 1, 0, 0, 1, 0, 0, 1, 0, 0, 0])) (e' := (17, .v .fr (.int .i64 j)) :: (16, .v .fr (.int .i64 i)) :: (15, .dead) :: E7 i j) (ps := []) q2 (by kernel_rfl) trivial (fun d h => by rw [d2] at h; cases h; kernel_rfl) (fun a3 w3 h3 => ?_)
  rw [wpOps_cons]
  refine wpOp_of (at8.2 3 (by omega)) q3 ?_
  refine h3.stepF g0 (ops := opsOf (nav C7 [1, 1, 0, 1, 0, 0, 1, 0, 0, 1, 0, 0, 1, 0, 0, 0])) (e' := (18, .agg true [.int .i64 i, .int .i64 j]) :: (17, .v .fr (.int .i64 j)) :: (16, .v .fr (.int .i64 i)) :: (15, .dead) :: E7 i j) (ps := []) q3 (by kernel_rfl) trivial (fun d h => by rw [d3] at h; cases h; kernel_rfl) (fun a4 w4 h4 => ?_)
  rw [wpOps_cons]
  refine wpOp_of (at8.2 4 (by omega)) q4 ?_
  have hm : w4.heap[r]? = some (mapObj []) := h4.kept.obj _ _ hW rfl
  have hkey : a4.tmps.getD 18 undef = kvOf [i, j] := by
    obtain ⟨F, ow, hx⟩ := h4.sim.rep
    obtain ⟨vs, h1, h2⟩ := hx.sr 18
    have h1 : a4.tmps.getD 18 undef = .agg vs.toArray := h1
    rw [h1]
    cases h2 with
    | cons c1 h2 => cases h2 with
      | cons c2 h2 => cases h2; cases c1; cases c2; rfl
  refine wp_value (exec_lookup p4 (by rw [h4.k (s := 15) (v := .map (some r)) (by simp), hkey]; exact look7 hm i j)) ?_
  rw [d4]
  have h5 := h4.val (d := 19) (by kernel_rfl) (v := .bool false) (av := .v .fr (.bool false)) rfl (fun _ _ => .bool _)
  refine wpOps_nil _ (hQ _ _ ?_)
  exact (h5.weak (Weak.cast (pat := [(3, .same), (4, .same), (5, .same), (19, .same)]) (by kernel_rfl) (by kernel_rfl))).forget rfl rfl (fun p hp => by simp at hp ⊢; simp [hp]) (fun p hp => hp)

set_option maxRecDepth 20000 in
theorem inner7 {Q : Exit → Act → World → Prop} {B : Nat} {W0 : World} {F0 : Fz} {r : Nat} (hW : W0.heap[r]? = some (mapObj [])) {i : Int} {a : Act} {w : World} (hs : MS (N7 r) B [] W0 F0 [] (E7 i 0) a w)
    (hQ : ∀ a w, MS (N7 r) B [] W0 F0 [] (E7' i) a w → Q .normal a w) : (nav C7 [1, 1, 0, 1, 0, 0, 1, 0, 0, 1]).wp Try.prog Q a w := by
  refine wpBlock (c1 := nav C7 [1, 1, 0, 1, 0, 0, 1, 0, 0, 1, 0]) (id := 2) (by kernel_rfl) ?_
  rw [show nav C7 [1, 1, 0, 1, 0, 0, 1, 0, 0, 1, 0] = .loop (nav C7 [1, 1, 0, 1, 0, 0, 1, 0, 0, 1, 0, 0]) by kernel_rfl]
  refine loop_wp (σ := Nat) (fun j a w => j ≤ 8 ∧ MS (N7 r) B [] W0 F0 [] (E7 i j) a w) (fun j => 8 - j) ?_ 0 ⟨by omega, hs⟩
  rintro j a w ⟨hj, hs⟩
  refine wpSeq (c1 := nav C7 [1, 1, 0, 1, 0, 0, 1, 0, 0, 1, 0, 0, 0]) (c2 := nav C7 [1, 1, 0, 1, 0, 0, 1, 0, 0, 1, 0, 0, 1]) (by kernel_rfl) ?_
  refine wpSeq (c1 := nav C7 [1, 1, 0, 1, 0, 0, 1, 0, 0, 1, 0, 0, 0, 0]) (c2 := nav C7 [1, 1, 0, 1, 0, 0, 1, 0, 0, 1, 0, 0, 0, 1]) (by kernel_rfl) ?_
  refine MS.regC g0 (keep := [3, 4, 5, 12]) (e' := [(3, LT []), (4, .v .fr (.int .i64 i)), (5, .v .fr (.int .i64 j)), (12, .v .fr (.bool (cmp .leq j 7)))]) (ps := []) (by kernel_rfl) trivial hs (fun a w hs => ?_)
  show (nav C7 [1, 1, 0, 1, 0, 0, 1, 0, 0, 1, 0, 0, 0, 1]).wp _ _ a w
  refine wpCondB (o := .tmp 12) (c1 := nav C7 [1, 1, 0, 1, 0, 0, 1, 0, 0, 1, 0, 0, 0, 1, 0]) (c2 := nav C7 [1, 1, 0, 1, 0, 0, 1, 0, 0, 1, 0, 0, 0, 1, 1]) (by kernel_rfl) (hs.bool (k := .fr) rfl) (fun ht => wpSkip (by kernel_rfl) ?_) (fun hf => wpExit (i := 2) (by kernel_rfl) ?_)
  · have hlt : j ≤ 7 := by
      have := of_decide_eq_true (show decide ((j : Int) ≤ 7) = true from ht)
      omega
    show (nav C7 [1, 1, 0, 1, 0, 0, 1, 0, 0, 1, 0, 0, 1]).wp _ _ a w
    refine wpSeq (c1 := nav C7 [1, 1, 0, 1, 0, 0, 1, 0, 0, 1, 0, 0, 1, 0]) (c2 := nav C7 [1, 1, 0, 1, 0, 0, 1, 0, 0, 1, 0, 0, 1, 1]) (by kernel_rfl) ?_
    refine wpBlock (c1 := nav C7 [1, 1, 0, 1, 0, 0, 1, 0, 0, 1, 0, 0, 1, 0, 0]) (id := 3) (by kernel_rfl) ?_
    refine wpSeq (c1 := nav C7 [1, 1, 0, 1, 0, 0, 1, 0, 0, 1, 0, 0, 1, 0, 0, 0]) (c2 := nav C7 [1, 1, 0, 1, 0, 0, 1, 0, 0, 1, 0, 0, 1, 0, 0, 1]) (by kernel_rfl) ?_
    refine reg8 hW (hs.weak (Weak.cast (e' := E7 i j) (pat := [(3, .same), (4, .same), (5, .same)]) (by kernel_rfl) (by kernel_rfl))) (fun a w hs => ?_)
    show (nav C7 [1, 1, 0, 1, 0, 0, 1, 0, 0, 1, 0, 0, 1, 0, 0, 1]).wp _ _ a w
    refine wpCondB (o := .tmp 19) (c1 := nav C7 [1, 1, 0, 1, 0, 0, 1, 0, 0, 1, 0, 0, 1, 0, 0, 1, 0]) (c2 := nav C7 [1, 1, 0, 1, 0, 0, 1, 0, 0, 1, 0, 0, 1, 0, 0, 1, 1]) (by kernel_rfl) (hs.bool (k := .fr) rfl) (fun ht => by cases ht) (fun _ => wpSkip (by kernel_rfl) ?_)
    show (nav C7 [1, 1, 0, 1, 0, 0, 1, 0, 0, 1, 0, 0, 1, 1]).wp _ _ a w
    refine MS.regC g0 (keep := [3, 4, 5]) (e' := E7 i (ar .add .i64 j 1)) (ps := []) (by kernel_rfl) trivial hs (fun a w hs => ?_)
    refine ⟨j + 1, by omega, by omega, ?_⟩
    rw [add_small (by omega) (by omega)] at hs
    exact hs
  · show Exit.inBlock 2 Q (.exit 2) a w
    simp only [Exit.inBlock, if_true]
    exact hQ a w (hs.weak (Weak.cast (pat := [(3, .same), (4, .same)]) (by kernel_rfl) (by kernel_rfl)))
set_option maxRecDepth 20000 in
theorem outer7 {Q : Exit → Act → World → Prop} {B : Nat} {W0 : World} {F0 : Fz} {r : Nat} (hW : W0.heap[r]? = some (mapObj [])) {a : Act} {w : World} (hs : MS (N7 r) B [] W0 F0 [] (E7' 0) a w)
    (hQ : ∀ a w, MS (N7 r) B [] W0 F0 [] [(3, LT [])] a w → Q .normal a w) : (nav C7 [1, 1, 0, 1]).wp Try.prog Q a w := by
  refine wpBlock (c1 := nav C7 [1, 1, 0, 1, 0]) (id := 0) (by kernel_rfl) ?_
  rw [show nav C7 [1, 1, 0, 1, 0] = .loop (nav C7 [1, 1, 0, 1, 0, 0]) by kernel_rfl]
  refine loop_wp (σ := Nat) (fun i a w => i ≤ 8 ∧ MS (N7 r) B [] W0 F0 [] (E7' i) a w) (fun i => 8 - i) ?_ 0 ⟨by omega, hs⟩
  rintro i a w ⟨hi, hs⟩
  refine wpSeq (c1 := nav C7 [1, 1, 0, 1, 0, 0, 0]) (c2 := nav C7 [1, 1, 0, 1, 0, 0, 1]) (by kernel_rfl) ?_
  refine wpSeq (c1 := nav C7 [1, 1, 0, 1, 0, 0, 0, 0]) (c2 := nav C7 [1, 1, 0, 1, 0, 0, 0, 1]) (by kernel_rfl) ?_
  refine MS.regC g0 (keep := [3, 4, 8]) (e' := [(3, LT []), (4, .v .fr (.int .i64 i)), (8, .v .fr (.bool (cmp .leq i 7)))]) (ps := []) (by kernel_rfl) trivial hs (fun a w hs => ?_)
  show (nav C7 [1, 1, 0, 1, 0, 0, 0, 1]).wp _ _ a w
  refine wpCondB (o := .tmp 8) (c1 := nav C7 [1, 1, 0, 1, 0, 0, 0, 1, 0]) (c2 := nav C7 [1, 1, 0, 1, 0, 0, 0, 1, 1]) (by kernel_rfl) (hs.bool (k := .fr) rfl) (fun ht => wpSkip (by kernel_rfl) ?_) (fun hf => wpExit (i := 0) (by kernel_rfl) ?_)
  · have hlt : i ≤ 7 := by
      have := of_decide_eq_true (show decide ((i : Int) ≤ 7) = true from ht)
      omega
    show (nav C7 [1, 1, 0, 1, 0, 0, 1]).wp _ _ a w
    refine wpSeq (c1 := nav C7 [1, 1, 0, 1, 0, 0, 1, 0]) (c2 := nav C7 [1, 1, 0, 1, 0, 0, 1, 1]) (by kernel_rfl) ?_
    refine wpBlock (c1 := nav C7 [1, 1, 0, 1, 0, 0, 1, 0, 0]) (id := 1) (by kernel_rfl) ?_
    refine wpSeq (c1 := nav C7 [1, 1, 0, 1, 0, 0, 1, 0, 0, 0]) (c2 := nav C7 [1, 1, 0, 1, 0, 0, 1, 0, 0, 1]) (by kernel_rfl) ?_
    refine MS.regC g0 (keep := [3, 4, 5]) (e' := E7 i 0) (ps := []) (by kernel_rfl) trivial hs (fun a w hs => ?_)
    refine inner7 hW hs (fun a w hs => ?_)
    show (nav C7 [1, 1, 0, 1, 0, 0, 1, 1]).wp _ _ a w
    refine MS.regC g0 (keep := [3, 4]) (e' := E7' (ar .add .i64 i 1)) (ps := []) (by kernel_rfl) trivial hs (fun a w hs => ?_)
    refine ⟨i + 1, by omega, by omega, ?_⟩
    rw [add_small (by omega) (by omega)] at hs
    exact hs
  · show Exit.inBlock 0 Q (.exit 0) a w
    simp only [Exit.inBlock, if_true]
    exact hQ a w (hs.weak (Weak.cast (pat := [(3, .same)]) (by kernel_rfl) (by kernel_rfl)))

/-- An empty list that is new. -/
def NilT (B : Nat) (v : Value) : Prop := v = .slice none 0 0 ∨ ∃ b o cap, B ≤ b ∧ v = .slice (some ⟨b, o, none⟩) 0 cap
theorem NilT.rc {B lo : Nat} {v : Value} (h : NilT B v) (hlo : lo ≤ B) (F : Fz) (w : World) : RC F lo w (.lst .time []) v := by
  rcases h with rfl | ⟨b, o, cap, h1, rfl⟩
  · exact .nil _
  · exact .lst .time [] b o cap (fun _ _ => undef) (by omega) (Nat.zero_le _) (fun i j hi => absurd hi (by simp)) (fun i j hi => absurd hi (by simp)) (fun i j x c hx => by simp at hx)
structure Grw (w w' : World) : Prop where
  os : w'.os = w.os
  tape : w'.tape = w.tape
  output : w'.output = w.output
  size : w.heap.size ≤ w'.heap.size
  block : ∀ k, k < w.heap.size → w'.heap[k]? = w.heap[k]?
theorem grw {N : NP} {B : Nat} {W0 : World} {F0 : Fz} {obs : List (Nat × Obj)} {e : Env} {a : Act} {w w' : World} (hs : MS N B [] W0 F0 obs e a w) (hg : Grw w w') : MS N B [] W0 F0 obs e a w' := by
  obtain ⟨F, ow, hx⟩ := hs.sim.rep
  have hsame : Grow F w F w' := ⟨hg.os, hg.tape, hg.output, hg.size, hg.block, fun _ _ h => h, fun _ _ h => .inl h⟩
  have hl : Live F w' := fun b o h => by
    rw [cell_of_heap (hg.block b ((show Live F w from hx.live).lt h))]; exact hx.live b o h
  exact hs.of_sim ⟨hs.sim.defers, hs.sim.tmps, hs.sim.base, hs.sim.f0, ⟨hg.os, hg.tape, hg.output, hg.size, fun k hk _ => hg.block k (Nat.lt_of_lt_of_le hk hs.sim.base), fun k o hk _ => by
    rw [hg.block k (Array.getElem?_eq_some_iff.1 hk).1]; exact hk⟩, F, ow, hx.grow hs.sim.base hsame hl⟩

set_option maxRecDepth 20000 in
theorem tim {w0 : World} {r : Nat} (hr : w0.heap[r]? = some (mapObj [])) : Calls Try.prog 187 #[.map (some r)] w0 (fun e w' => ∃ v, e = .returned v ∧ NilT w0.heap.size v ∧ Grw w0 w') := by
  refine calls_of_wp (fn := Try.f187) (c := C7) (by kernel_rfl) (by kernel_rfl) ?_
  have hn : (Try.f187).ntmps = 27 := by kernel_rfl
  rw [hn]
  have hsim : Sim (N7 r) w0.heap.size [] w0 (fun _ _ => False) [] { tmps := #[.map (some r)] ++ Array.replicate (27 - (#[Value.map (some r)]).size) undef, defers := [] } w0 := by
    refine ⟨rfl, ⟨by simp, (fun s h => by cases h), fun p hp => ?_⟩, Nat.le_refl _, (fun _ _ h => h.elim), Kept.refl _ _ _, fun _ _ => False, fun _ _ => none, ⟨fun _ _ h => h, fun _ _ h => .inl h, fun _ _ h => h.elim, fun s i s' i' b h => (by cases h), fun s i b h => (by cases h), fun s => trivial⟩⟩
    have hp : p = (0, .map (some r)) := by simpa using hp
    subst hp
    show (#[Value.map (some r)] ++ Array.replicate 26 undef).getD 0 undef = .map (some r)
    rw [Array.getD_eq_getD_getElem?, Array.getElem?_append_left (by simp)]
    simp
  have hms := MS.of hsim rfl
  refine wpSeq (c1 := nav C7 [0]) (c2 := nav C7 [1]) (by kernel_rfl) ?_
  refine MS.regC g0 (keep := []) (e' := []) (ps := []) (by kernel_rfl) trivial hms (fun a w hs => ?_)
  show (nav C7 [1]).wp _ _ a w
  refine wpSeq (c1 := nav C7 [1, 0]) (c2 := nav C7 [1, 1]) (by kernel_rfl) ?_
  refine MS.regC g0 (keep := [3]) (e' := [(3, LT [])]) (ps := []) (by kernel_rfl) trivial hs (fun a w hs => ?_)
  show (nav C7 [1, 1]).wp _ _ a w
  refine wpSeq (c1 := nav C7 [1, 1, 0]) (c2 := nav C7 [1, 1, 1]) (by kernel_rfl) ?_
  refine wpSeq (c1 := nav C7 [1, 1, 0, 0]) (c2 := nav C7 [1, 1, 0, 1]) (by kernel_rfl) ?_
  refine MS.regC g0 (keep := [3, 4]) (e' := E7' 0) (ps := []) (by kernel_rfl) trivial hs (fun a w hs => ?_)
  refine outer7 hr hs (fun a w hs => ?_)
  show (nav C7 [1, 1, 1]).wp _ _ a w
  refine wpSeq (c1 := nav C7 [1, 1, 1, 0]) (c2 := nav C7 [1, 1, 1, 1]) (by kernel_rfl) ?_
  refine MS.regC g0 (keep := [2]) (e' := [(2, LT [])]) (ps := []) (by kernel_rfl) trivial hs (fun a w hs => ?_)
  refine wpRet (by kernel_rfl) ?_
  have ht := hs.to
  obtain ⟨F, ow, hx⟩ := ht.rep
  have h2 : RC F w0.heap.size w (.lst .time []) (a.tmps.getD 2 undef) := (show AccR F (lof w0.heap.size true) w (ow 2 none) (.lst .time []) (a.tmps.getD 2 undef) from hx.sr 2).1
  have hrun := results_ok (P := Try.prog) (w := w) (tmps := a.tmps) (fn := Try.f187) (rs := [.tmp 2]) (by kernel_rfl) (vs := [a.tmps.getD 2 undef]) rfl (fun j rv v h h' => by
    cases j with
    | zero => simp only [List.getElem?_cons_zero, Option.some.injEq] at h h'; subst h; subst h'; rfl
    | succ j => simp at h)
  refine ⟨ht.defers, _, hrun, _, rfl, ?_, ht.kept.os, ht.kept.tape, ht.kept.output, ht.kept.size, fun k hk => ht.kept.block k hk (by simp)⟩
  show NilT w0.heap.size (a.tmps.getD 2 undef)
  generalize a.tmps.getD 2 undef = v at h2
  cases h2 with
  | nil => exact .inl rfl
  | lst _ _ b o cap vs hb => exact .inr ⟨b, o, cap, hb, rfl⟩

theorem callT {N : NP} {B : Nat} {W0 : World} {F0 : Fz} {obs : List (Nat × Obj)} {e : Env} {a : Act} {w : World} (hs : MS N B [] W0 F0 obs e a w) {r : Nat} (hr : (r, mapObj []) ∈ obs) {o : Oper} {x d : Nat}
    (hop : o.op = .call ⟨.value (.func 187), #[.tmp x], #[186]⟩) (hx : a.tmps.getD x undef = .map (some r)) (hd : o.dst = some d) (hdN : N.ok d = true) {next : Act → World → Prop} {Q : Exit → Act → World → Prop}
    (hn : ∀ v w', MS ⟨N.n, N.r, (d, v) :: N.k⟩ B [] W0 F0 obs (put e d (.v .fr (.lst .time []))) (a.put (some d) v) w' → next (a.put (some d) v) w') : o.wp Try.prog a w next Q := by
  have hfn : Try.prog.funcs[187]? = some Try.f187 := by kernel_rfl
  have hname : ((Try.f187).name == "runtime.NumGoroutine") = false := by kernel_rfl
  have hbody : (Try.f187).body.isNone = false := by kernel_rfl
  have hrun : (execOp a.eval o).run Try.prog w = .ok (.enter 187 #[.map (some r)]) w := by
    obtain ⟨dst, op, ty, pos, aft, gd⟩ := o
    simp only [] at hop
    subst hop
    have hname' : ¬ (Try.f187).name = "runtime.NumGoroutine" := by simpa using hname
    have hbody' : ¬ (Try.f187).body = none := by intro e; rw [e] at hbody; simp at hbody
    simp [execOp, resolve, Act.eval, Deferred.ofValue, invoke, callFunc, hfn, hname', hbody', hx]
  unfold Oper.wp
  rw [hrun, Oper.upon_enter]
  refine (tim (hs.o hr)).mono ?_
  rintro e' w' ⟨v, rfl, hv, hg⟩
  show next (a.put o.dst v) w'
  rw [hd]
  exact hn v w' ((grw hs hg).val hdN rfl (fun F _ => hv.rc hs.sim.base F w'))

noncomputable def C8 : Code := bodyOf Try.f180
abbrev N8 (r : Nat) : NP := ⟨61, none, [(5, .map (some r))]⟩
noncomputable def q3 (i : Nat) : Oper := opN (opsOf (nav C8 [1, 1, 0])) i
noncomputable def q13 (i : Nat) : Oper := opN (opsOf (nav C8 [1, 1, 1, 1, 0, 1, 0, 0, 1, 0, 1, 0])) i
noncomputable def q26 (i : Nat) : Oper := opN (opsOf (nav C8 [1, 1, 1, 1, 1, 0])) i
theorem ops3 : (q3 0).op = .makeMap 186 none ∧ (q3 0).dst = some 18 ∧ (q3 0).guard = none ∧ (q3 1).op = .assign (.tmp 18) ∧ (q3 1).dst = some 5 ∧ (q3 1).guard = none ∧
    List.range (opsOf (nav C8 [1, 1, 0])).size = [0, 1] ∧ (opsOf (nav C8 [1, 1, 0]))[0]? = some (q3 0) ∧ (opsOf (nav C8 [1, 1, 0]))[1]? = some (q3 1) :=
  ⟨by kernel_rfl, by kernel_rfl, by kernel_rfl, by kernel_rfl, by kernel_rfl, by kernel_rfl, by kernel_rfl, by kernel_rfl, by kernel_rfl⟩
theorem ops13 : (q13 0).op = .move (.tmp 5) ∧ (q13 0).dst = some 34 ∧ (q13 0).guard = none ∧ (q13 1).op = .call ⟨.value (.func 187), #[.tmp 34], #[186]⟩ ∧ (q13 1).dst = some 35 ∧ (q13 1).guard = none ∧ (q13 2).dst = some 9 ∧ (q13 2).guard = none ∧
    List.range (opsOf (nav C8 [1, 1, 1, 1, 0, 1, 0, 0, 1, 0, 1, 0])).size = [0, 1, 2] ∧ (opsOf (nav C8 [1, 1, 1, 1, 0, 1, 0, 0, 1, 0, 1, 0]))[0]? = some (q13 0) ∧ (opsOf (nav C8 [1, 1, 1, 1, 0, 1, 0, 0, 1, 0, 1, 0]))[1]? = some (q13 1) ∧ (opsOf (nav C8 [1, 1, 1, 1, 0, 1, 0, 0, 1, 0, 1, 0]))[2]? = some (q13 2) :=
  ⟨by kernel_rfl, by kernel_rfl, by kernel_rfl, by kernel_rfl, by kernel_rfl, by kernel_rfl, by kernel_rfl, by kernel_rfl, by kernel_rfl, by kernel_rfl, by kernel_rfl, by kernel_rfl⟩
theorem ops26 : (q26 0).op = .move (.tmp 5) ∧ (q26 0).dst = some 59 ∧ (q26 0).guard = none ∧ (q26 1).op = .call ⟨.value (.func 187), #[.tmp 59], #[186]⟩ ∧ (q26 1).dst = some 60 ∧ (q26 1).guard = none ∧ (q26 2).dst = some 4 ∧ (q26 2).guard = none ∧
    List.range (opsOf (nav C8 [1, 1, 1, 1, 1, 0])).size = [0, 1, 2] ∧ (opsOf (nav C8 [1, 1, 1, 1, 1, 0]))[0]? = some (q26 0) ∧ (opsOf (nav C8 [1, 1, 1, 1, 1, 0]))[1]? = some (q26 1) ∧ (opsOf (nav C8 [1, 1, 1, 1, 1, 0]))[2]? = some (q26 2) :=
  ⟨by kernel_rfl, by kernel_rfl, by kernel_rfl, by kernel_rfl, by kernel_rfl, by kernel_rfl, by kernel_rfl, by kernel_rfl, by kernel_rfl, by kernel_rfl, by kernel_rfl, by kernel_rfl⟩
abbrev TN : AV := .v .fr (.lst .time [])
set_option maxRecDepth 20000 in
theorem reg13 {Q : Exit → Act → World → Prop} {B : Nat} {W0 : World} {F0 : Fz} {r : Nat} {a : Act} {w : World} (hs : MS (N8 r) B [] W0 F0 [(r, mapObj [])] [(8, .v .fr (.bool false))] a w)
    (hQ : ∀ a w, MS (N8 r) B [] W0 F0 [(r, mapObj [])] [(8, .v .fr (.bool false)), (9, TN)] a w → Q .normal a w) : (nav C8 [1, 1, 1, 1, 0, 1, 0, 0, 1, 0, 1, 0]).wp Try.prog Q a w := by
  obtain ⟨p0, d0, g0', p1, d1, g1', d2, g2', hsz, a0, a1, a2⟩ := ops13
  refine wpHand (by kernel_rfl) hsz ?_
  rw [wpOps_cons]
  refine wpOp_of a0 g0' ?_
  refine wp_value (exec_move p0) ?_
  rw [d0, wpOps_cons, hs.k (s := 5) (v := .map (some r)) (by simp)]
  have h1 := hs.val (d := 34) (by kernel_rfl) (v := .map (some r)) (av := .dead) rfl (fun _ _ => trivial)
  refine wpOp_of a1 g1' ?_
  refine callT h1 (r := r) (by simp) p1 (h1.k (s := 34) (v := .map (some r)) (by simp)) d1 (by kernel_rfl) (fun v w' h2 => ?_)
  rw [wpOps_cons]
  refine wpOp_of a2 g2' ?_
  refine h2.stepF g0 (ops := opsOf (nav C8 [1, 1, 1, 1, 0, 1, 0, 0, 1, 0, 1, 0])) (e' := [(9, TN), (35, TN), (34, .dead), (8, .v .fr (.bool false))]) (ps := []) g2' (by kernel_rfl) trivial (fun d h => by rw [d2] at h; cases h; kernel_rfl) (fun a3 w3 h3 => ?_)
  refine wpOps_nil _ (hQ _ _ ?_)
  exact (h3.weak (Weak.cast (pat := [(8, .same), (9, .same)]) (by kernel_rfl) (by kernel_rfl))).forget rfl rfl (fun p hp => by simp at hp ⊢; simp [hp]) (fun p hp => hp)
set_option maxRecDepth 20000 in
theorem reg26 {Q : Exit → Act → World → Prop} {B : Nat} {W0 : World} {F0 : Fz} {r : Nat} {a : Act} {w : World} (hs : MS (N8 r) B [] W0 F0 [(r, mapObj [])] [] a w)
    (hQ : ∀ a w, MS (N8 r) B [] W0 F0 [(r, mapObj [])] [(4, TN)] a w → Q .normal a w) : (nav C8 [1, 1, 1, 1, 1, 0]).wp Try.prog Q a w := by
  obtain ⟨p0, d0, g0', p1, d1, g1', d2, g2', hsz, a0, a1, a2⟩ := ops26
  refine wpHand (by kernel_rfl) hsz ?_
  rw [wpOps_cons]
  refine wpOp_of a0 g0' ?_
  refine wp_value (exec_move p0) ?_
  rw [d0, wpOps_cons, hs.k (s := 5) (v := .map (some r)) (by simp)]
  have h1 := hs.val (d := 59) (by kernel_rfl) (v := .map (some r)) (av := .dead) rfl (fun _ _ => trivial)
  refine wpOp_of a1 g1' ?_
  refine callT h1 (r := r) (by simp) p1 (h1.k (s := 59) (v := .map (some r)) (by simp)) d1 (by kernel_rfl) (fun v w' h2 => ?_)
  rw [wpOps_cons]
  refine wpOp_of a2 g2' ?_
  refine h2.stepF g0 (ops := opsOf (nav C8 [1, 1, 1, 1, 1, 0])) (e' := [(4, TN), (60, TN), (59, .dead)]) (ps := []) g2' (by kernel_rfl) trivial (fun d h => by rw [d2] at h; cases h; kernel_rfl) (fun a3 w3 h3 => ?_)
  refine wpOps_nil _ (hQ _ _ ?_)
  exact (h3.weak (Weak.cast (pat := [(4, .same)]) (by kernel_rfl) (by kernel_rfl))).forget rfl rfl (fun p hp => by simp at hp ⊢; simp [hp]) (fun p hp => hp)

set_option maxRecDepth 20000 in
theorem loopA {Q : Exit → Act → World → Prop} {B : Nat} {W0 : World} {F0 : Fz} {r : Nat} {a : Act} {w : World} (hs : MS (N8 r) B [] W0 F0 [(r, mapObj [])] [(20, .v .fr (.int .i64 (lenI .row []))), (21, .v .fr (.int .i64 0))] a w)
    (hQ : ∀ a w, MS (N8 r) B [] W0 F0 [(r, mapObj [])] [] a w → Q .normal a w) : (nav C8 [1, 1, 1, 0, 1]).wp Try.prog Q a w := by
  refine wpBlock (c1 := nav C8 [1, 1, 1, 0, 1, 0]) (id := 0) (by kernel_rfl) ?_
  rw [show nav C8 [1, 1, 1, 0, 1, 0] = .loop (nav C8 [1, 1, 1, 0, 1, 0, 0]) by kernel_rfl]
  refine loop_wp (σ := Unit) (fun _ a w => MS (N8 r) B [] W0 F0 [(r, mapObj [])] [(20, .v .fr (.int .i64 (lenI .row []))), (21, .v .fr (.int .i64 0))] a w) (fun _ => 0) ?_ () hs
  rintro _ a w hs
  refine wpSeq (c1 := nav C8 [1, 1, 1, 0, 1, 0, 0, 0]) (c2 := nav C8 [1, 1, 1, 0, 1, 0, 0, 1]) (by kernel_rfl) ?_
  refine MS.regC g0 (keep := [22]) (e' := [(22, .v .fr (.bool (cmp .lss 0 (lenI .row []))))]) (ps := []) (by kernel_rfl) trivial hs (fun a w hs => ?_)
  show (nav C8 [1, 1, 1, 0, 1, 0, 0, 1]).wp _ _ a w
  refine wpSeq (c1 := nav C8 [1, 1, 1, 0, 1, 0, 0, 1, 0]) (c2 := nav C8 [1, 1, 1, 0, 1, 0, 0, 1, 1]) (by kernel_rfl) ?_
  refine wpCondB (o := .tmp 22) (c1 := nav C8 [1, 1, 1, 0, 1, 0, 0, 1, 0, 0]) (c2 := nav C8 [1, 1, 1, 0, 1, 0, 0, 1, 0, 1]) (by kernel_rfl) (hs.bool (k := .fr) rfl) (fun ht => absurd ht (by decide)) (fun _ => wpExit (i := 0) (by kernel_rfl) ?_)
  show Exit.inBlock 0 Q (.exit 0) a w
  simp only [Exit.inBlock, if_true]
  exact hQ a w (hs.weak (Weak.cast (pat := []) (by kernel_rfl) (by kernel_rfl)))
set_option maxRecDepth 20000 in
theorem loopC {Q : Exit → Act → World → Prop} {B : Nat} {W0 : World} {F0 : Fz} {r : Nat} {a : Act} {w : World} (hs : MS (N8 r) B [] W0 F0 [(r, mapObj [])] [(8, .v .fr (.bool false)), (37, .v .fr (.int .i64 (lenI .time []))), (38, .v .fr (.int .i64 0))] a w)
    (hQ : ∀ a w, MS (N8 r) B [] W0 F0 [(r, mapObj [])] [(8, .v .fr (.bool false))] a w → Q .normal a w) : (nav C8 [1, 1, 1, 1, 0, 1, 0, 0, 1, 0, 1, 1, 1]).wp Try.prog Q a w := by
  refine wpBlock (c1 := nav C8 [1, 1, 1, 1, 0, 1, 0, 0, 1, 0, 1, 1, 1, 0]) (id := 4) (by kernel_rfl) ?_
  rw [show nav C8 [1, 1, 1, 1, 0, 1, 0, 0, 1, 0, 1, 1, 1, 0] = .loop (nav C8 [1, 1, 1, 1, 0, 1, 0, 0, 1, 0, 1, 1, 1, 0, 0]) by kernel_rfl]
  refine loop_wp (σ := Unit) (fun _ a w => MS (N8 r) B [] W0 F0 [(r, mapObj [])] [(8, .v .fr (.bool false)), (37, .v .fr (.int .i64 (lenI .time []))), (38, .v .fr (.int .i64 0))] a w) (fun _ => 0) ?_ () hs
  rintro _ a w hs
  refine wpSeq (c1 := nav C8 [1, 1, 1, 1, 0, 1, 0, 0, 1, 0, 1, 1, 1, 0, 0, 0]) (c2 := nav C8 [1, 1, 1, 1, 0, 1, 0, 0, 1, 0, 1, 1, 1, 0, 0, 1]) (by kernel_rfl) ?_
  refine MS.regC g0 (keep := [8, 39]) (e' := [(8, .v .fr (.bool false)), (39, .v .fr (.bool (cmp .lss 0 (lenI .time []))))]) (ps := []) (by kernel_rfl) trivial hs (fun a w hs => ?_)
  show (nav C8 [1, 1, 1, 1, 0, 1, 0, 0, 1, 0, 1, 1, 1, 0, 0, 1]).wp _ _ a w
  refine wpSeq (c1 := nav C8 [1, 1, 1, 1, 0, 1, 0, 0, 1, 0, 1, 1, 1, 0, 0, 1, 0]) (c2 := nav C8 [1, 1, 1, 1, 0, 1, 0, 0, 1, 0, 1, 1, 1, 0, 0, 1, 1]) (by kernel_rfl) ?_
  refine wpCondB (o := .tmp 39) (c1 := nav C8 [1, 1, 1, 1, 0, 1, 0, 0, 1, 0, 1, 1, 1, 0, 0, 1, 0, 0]) (c2 := nav C8 [1, 1, 1, 1, 0, 1, 0, 0, 1, 0, 1, 1, 1, 0, 0, 1, 0, 1]) (by kernel_rfl) (hs.bool (k := .fr) rfl) (fun ht => absurd ht (by decide)) (fun _ => wpExit (i := 4) (by kernel_rfl) ?_)
  show Exit.inBlock 4 Q (.exit 4) a w
  simp only [Exit.inBlock, if_true]
  exact hQ a w (hs.weak (Weak.cast (pat := [(8, .same)]) (by kernel_rfl) (by kernel_rfl)))
set_option maxRecDepth 20000 in
theorem loopB {Q : Exit → Act → World → Prop} {B : Nat} {W0 : World} {F0 : Fz} {r : Nat} {a : Act} {w : World} (hs : MS (N8 r) B [] W0 F0 [(r, mapObj [])] [(8, .v .fr (.bool true))] a w)
    (hQ : ∀ a w, MS (N8 r) B [] W0 F0 [(r, mapObj [])] [] a w → Q .normal a w) : (nav C8 [1, 1, 1, 1, 0, 1]).wp Try.prog Q a w := by
  refine wpBlock (c1 := nav C8 [1, 1, 1, 1, 0, 1, 0]) (id := 2) (by kernel_rfl) ?_
  rw [show nav C8 [1, 1, 1, 1, 0, 1, 0] = .loop (nav C8 [1, 1, 1, 1, 0, 1, 0, 0]) by kernel_rfl]
  refine loop_wp (σ := Bool) (fun b a w => MS (N8 r) B [] W0 F0 [(r, mapObj [])] [(8, .v .fr (.bool b))] a w) (fun b => b.toNat) ?_ true hs
  rintro b a w hs
  refine wpSeq (c1 := nav C8 [1, 1, 1, 1, 0, 1, 0, 0, 0]) (c2 := nav C8 [1, 1, 1, 1, 0, 1, 0, 0, 1]) (by kernel_rfl) ?_
  refine wpSeq (c1 := nav C8 [1, 1, 1, 1, 0, 1, 0, 0, 0, 0]) (c2 := nav C8 [1, 1, 1, 1, 0, 1, 0, 0, 0, 1]) (by kernel_rfl) ?_
  refine MS.regC g0 (keep := [33]) (e' := [(33, .v .fr (.bool b))]) (ps := []) (by kernel_rfl) trivial hs (fun a w hs => ?_)
  show (nav C8 [1, 1, 1, 1, 0, 1, 0, 0, 0, 1]).wp _ _ a w
  refine wpCondB (o := .tmp 33) (c1 := nav C8 [1, 1, 1, 1, 0, 1, 0, 0, 0, 1, 0]) (c2 := nav C8 [1, 1, 1, 1, 0, 1, 0, 0, 0, 1, 1]) (by kernel_rfl) (hs.bool (k := .fr) rfl) (fun ht => wpSkip (by kernel_rfl) ?_) (fun hf => wpExit (i := 2) (by kernel_rfl) ?_)
  · subst ht
    show (nav C8 [1, 1, 1, 1, 0, 1, 0, 0, 1]).wp _ _ a w
    refine wpBlock (c1 := nav C8 [1, 1, 1, 1, 0, 1, 0, 0, 1, 0]) (id := 3) (by kernel_rfl) ?_
    refine wpSeq (c1 := nav C8 [1, 1, 1, 1, 0, 1, 0, 0, 1, 0, 0]) (c2 := nav C8 [1, 1, 1, 1, 0, 1, 0, 0, 1, 0, 1]) (by kernel_rfl) ?_
    refine MS.regC g0 (keep := [8]) (e' := [(8, .v .fr (.bool false))]) (ps := []) (by kernel_rfl) trivial hs (fun a w hs => ?_)
    show (nav C8 [1, 1, 1, 1, 0, 1, 0, 0, 1, 0, 1]).wp _ _ a w
    refine wpSeq (c1 := nav C8 [1, 1, 1, 1, 0, 1, 0, 0, 1, 0, 1, 0]) (c2 := nav C8 [1, 1, 1, 1, 0, 1, 0, 0, 1, 0, 1, 1]) (by kernel_rfl) ?_
    refine reg13 hs (fun a w hs => ?_)
    show (nav C8 [1, 1, 1, 1, 0, 1, 0, 0, 1, 0, 1, 1]).wp _ _ a w
    refine wpSeq (c1 := nav C8 [1, 1, 1, 1, 0, 1, 0, 0, 1, 0, 1, 1, 0]) (c2 := nav C8 [1, 1, 1, 1, 0, 1, 0, 0, 1, 0, 1, 1, 1]) (by kernel_rfl) ?_
    refine MS.regC g0 (keep := [8, 37, 38]) (e' := [(8, .v .fr (.bool false)), (37, .v .fr (.int .i64 (lenI .time []))), (38, .v .fr (.int .i64 0))]) (ps := []) (by kernel_rfl) trivial hs (fun a w hs => ?_)
    refine loopC hs (fun a w hs => ?_)
    exact ⟨false, by decide, hs⟩
  · show Exit.inBlock 2 Q (.exit 2) a w
    simp only [Exit.inBlock, if_true]
    exact hQ a w (hs.weak (Weak.cast (pat := []) (by kernel_rfl) (by kernel_rfl)))
end Tf

open Tf in
set_option maxRecDepth 20000 in
theorem con_impl_FlowTimes : Con Try.prog 180 s_impl_FlowTimes := by
  refine con_of ttF (fn := Try.f180) (c := C8) (by kernel_rfl) (by kernel_rfl) (by kernel_rfl) (rs := [.tmp 4]) (by kernel_rfl) (by kernel_rfl) (fun _ => rfl) ?_
  intro x hx fr hfB hfL hIO a w hs
  obtain ⟨B, IoB, W0, F0⟩ := fr
  have hIO : IoB = [] := hIO rfl
  subst hIO
  obtain ⟨xs, kk, u⟩ := x
  have hx : xs = [] := hx
  subst hx
  have hms : MS ⟨61, none, []⟩ B [] W0 F0 [] [(0, .v .sh (.lst .row [])), (1, .v .fr (.int .i64 kk))] a w := (MS.of hs hfB).forget (by kernel_rfl) rfl (fun p h => by cases h) (fun p h => by cases h)
  refine wpSeq (c1 := nav C8 [0]) (c2 := nav C8 [1]) (by kernel_rfl) ?_
  refine MS.regC g1 (keep := [0]) (e' := [(0, .v .sh (.lst .row []))]) (ps := []) (by kernel_rfl) trivial hms (fun a w hs => ?_)
  show (nav C8 [1]).wp _ _ a w
  refine wpSeq (c1 := nav C8 [1, 0]) (c2 := nav C8 [1, 1]) (by kernel_rfl) ?_
  refine wpSeq (c1 := nav C8 [1, 0, 0]) (c2 := nav C8 [1, 0, 1]) (by kernel_rfl) ?_
  refine MS.regC g1 (keep := [0, 17]) (e' := [(0, .v .sh (.lst .row [])), (17, .v .fr (.bool (!(v_impl_RowsOk []))))]) (ps := [p_impl_RowsOk []]) (by kernel_rfl) ⟨rowsOkN.1, trivial⟩ hs (fun a w hs => ?_)
  show (nav C8 [1, 0, 1]).wp _ _ a w
  refine wpCondB (o := .tmp 17) (c1 := nav C8 [1, 0, 1, 0]) (c2 := nav C8 [1, 0, 1, 1]) (by kernel_rfl) (hs.bool (k := .fr) rfl) (fun ht => by rw [rowsOkN.2] at ht; cases ht) (fun _ => wpSkip (by kernel_rfl) ?_)
  show (nav C8 [1, 1]).wp _ _ a w
  refine wpSeq (c1 := nav C8 [1, 1, 0]) (c2 := nav C8 [1, 1, 1]) (by kernel_rfl) ?_
  obtain ⟨p0, d0, g0', p1, d1, g1', hsz, a0, a1⟩ := ops3
  refine wpHand (by kernel_rfl) hsz ?_
  rw [wpOps_cons]
  refine wpOp_of a0 g0' ?_
  refine wp_value (exec_makeMap p0) ?_
  rw [d0, wpOps_cons]
  have h1 := hs.alloc (d := 18) (by kernel_rfl) (v := .map (some w.heap.size)) (o := .map #[] 0) rfl
  refine wpOp_of a1 g1' ?_
  refine wp_value (exec_assign p1) ?_
  rw [d1, h1.k (s := 18) (v := .map (some w.heap.size)) (by simp)]
  have h2 := h1.val (d := 5) (by kernel_rfl) (v := .map (some w.heap.size)) (av := .dead) rfl (fun _ _ => trivial)
  have h3 : MS (N8 w.heap.size) B [] W0 F0 [(w.heap.size, mapObj [])] [(0, .v .sh (.lst .row []))] _ _ := (h2.weak (Weak.cast (pat := [(0, .same)]) (by kernel_rfl) (by kernel_rfl))).forget rfl rfl (fun p hp => by simp at hp ⊢; simp [hp]) (fun p hp => hp)
  generalize w.heap.size = r at h3
  clear h1 h2
  refine wpOps_nil _ ?_
  show (nav C8 [1, 1, 1]).wp _ _ _ _
  generalize w.alloc (.map #[] 0) = w1 at h3 ⊢
  generalize (a.put (some 18) _).put (some 5) _ = a1 at h3 ⊢
  refine wpSeq (c1 := nav C8 [1, 1, 1, 0]) (c2 := nav C8 [1, 1, 1, 1]) (by kernel_rfl) ?_
  refine wpSeq (c1 := nav C8 [1, 1, 1, 0, 0]) (c2 := nav C8 [1, 1, 1, 0, 1]) (by kernel_rfl) ?_
  refine MS.regC Tf.g0 (keep := [20, 21]) (e' := [(20, .v .fr (.int .i64 (lenI .row []))), (21, .v .fr (.int .i64 0))]) (ps := []) (by kernel_rfl) trivial h3 (fun a w hs => ?_)
  refine loopA hs (fun a w hs => ?_)
  show (nav C8 [1, 1, 1, 1]).wp _ _ a w
  refine wpSeq (c1 := nav C8 [1, 1, 1, 1, 0]) (c2 := nav C8 [1, 1, 1, 1, 1]) (by kernel_rfl) ?_
  refine wpSeq (c1 := nav C8 [1, 1, 1, 1, 0, 0]) (c2 := nav C8 [1, 1, 1, 1, 0, 1]) (by kernel_rfl) ?_
  refine MS.regC Tf.g0 (keep := [8]) (e' := [(8, .v .fr (.bool true))]) (ps := []) (by kernel_rfl) trivial hs (fun a w hs => ?_)
  refine loopB hs (fun a w hs => ?_)
  show (nav C8 [1, 1, 1, 1, 1]).wp _ _ a w
  refine wpSeq (c1 := nav C8 [1, 1, 1, 1, 1, 0]) (c2 := nav C8 [1, 1, 1, 1, 1, 1]) (by kernel_rfl) ?_
  refine reg26 hs (fun a w hs => ?_)
  show (nav C8 [1, 1, 1, 1, 1, 1]).wp _ _ a w
  refine wpRet (by kernel_rfl) ?_
  refine ⟨[(4, TN)], ?_, ?_⟩
  · exact (hs.forget (N' := ⟨(Try.f180).ntmps, none, []⟩) (obs' := []) (by kernel_rfl) rfl (fun p h => by cases h) (fun p h => by cases h)).to
  · exact ⟨rfl, trivial⟩
end Go.Proofs.Ytopcofkpggefkaa

namespace Go.Proofs.Ytopcofkpggefkaa
open Go
theorem tt_ok : TTok Try.prog tt := ttChk_ok (by kernel_rfl)
theorem follows_ok : Try.prog.follows .mixedOrders = true := by kernel_rfl
theorem k_spec_l6Open : Con Try.prog 94 s_spec_l6Open := con_spec_l6Open (.nil tt_ok follows_ok)
theorem k_spec_l6Rd_pick : Con Try.prog 98 s_spec_l6Rd_pick := con_spec_l6Rd_pick (.nil tt_ok follows_ok)
theorem kg_spec_l71Plan : ∀ n, Con Try.prog 138 (rs_spec_l71Plan (vp_spec_l71Plan n).1 (vp_spec_l71Plan n).2)
  | 0 => con_none (fn := Try.f138) (c := bodyOf Try.f138) (by kernel_rfl) (by kernel_rfl) (by kernel_rfl) fun _ h => h
  | n + 1 => con_spec_l71Plan (.cons k_spec_l6Rd_pick (.cons (kg_spec_l71Plan n) (.nil tt_ok follows_ok)))
theorem k_spec_l71Plan : Con Try.prog 138 s_spec_l71Plan := (kg_spec_l71Plan fuelN)
theorem k_spec_l71Bent : Con Try.prog 112 s_spec_l71Bent := con_spec_l71Bent (.cons k_spec_l71Plan (.cons k_spec_l6Rd_pick (.nil tt_ok follows_ok)))
theorem k_spec_DrawSessNew : Con Try.prog 59 s_spec_DrawSessNew := con_spec_DrawSessNew (.cons k_spec_l6Open (.cons k_spec_l71Bent (.nil tt_ok follows_ok)))
theorem k_spec_l21Kids : Con Try.prog 140 s_spec_l21Kids := con_spec_l21Kids (.nil tt_ok follows_ok)
theorem k_spec_l6In : Con Try.prog 93 s_spec_l6In := con_spec_l6In (.nil tt_ok follows_ok)
theorem kg_spec_l21Ok : ∀ n, Con Try.prog 120 (rs_spec_l21Ok (vp_spec_l21Ok n).1 (vp_spec_l21Ok n).2)
  | 0 => con_none (fn := Try.f120) (c := bodyOf Try.f120) (by kernel_rfl) (by kernel_rfl) (by kernel_rfl) fun _ h => h
  | n + 1 => con_spec_l21Ok (.cons k_spec_l21Kids (.cons k_spec_l6In (.cons (kg_spec_l21Ok n) (.nil tt_ok follows_ok))))
theorem k_spec_l21Ok : Con Try.prog 120 s_spec_l21Ok := (kg_spec_l21Ok fuelN)
theorem k_spec_PlanOk : Con Try.prog 66 s_spec_PlanOk := con_spec_PlanOk (.cons k_spec_l21Ok (.nil tt_ok follows_ok))
theorem kg_spec_l31Plan : ∀ n, Con Try.prog 67 (rs_spec_l31Plan (vp_spec_l31Plan n).1 (vp_spec_l31Plan n).2)
  | 0 => con_none (fn := Try.f67) (c := bodyOf Try.f67) (by kernel_rfl) (by kernel_rfl) (by kernel_rfl) fun _ h => h
  | n + 1 => con_spec_l31Plan (.cons (kg_spec_l31Plan n) (.nil tt_ok follows_ok))
theorem k_spec_l31Plan : Con Try.prog 67 s_spec_l31Plan := (kg_spec_l31Plan fuelN)
theorem k_spec_SessNew : Con Try.prog 20 s_spec_SessNew := con_spec_SessNew (.cons k_spec_PlanOk (.cons k_spec_l31Plan (.nil tt_ok follows_ok)))
theorem k_impl_kidsOf : Con Try.prog 141 s_impl_kidsOf := con_impl_kidsOf (.nil tt_ok follows_ok)
theorem kg_impl_planOk : ∀ n, Con Try.prog 121 (rs_impl_planOk (vp_impl_planOk n).1 (vp_impl_planOk n).2)
  | 0 => con_none (fn := Try.f121) (c := bodyOf Try.f121) (by kernel_rfl) (by kernel_rfl) (by kernel_rfl) fun _ h => h
  | n + 1 => con_impl_planOk (.cons k_impl_kidsOf (.cons (kg_impl_planOk n) (.nil tt_ok follows_ok)))
theorem k_impl_planOk : Con Try.prog 121 s_impl_planOk := (kg_impl_planOk fuelN)
theorem k_impl_PlanOk : Con Try.prog 69 s_impl_PlanOk := con_impl_PlanOk (.cons k_impl_planOk (.nil tt_ok follows_ok))
theorem kg_impl_planCopy : ∀ n, Con Try.prog 70 (rs_impl_planCopy (vp_impl_planCopy n).1 (vp_impl_planCopy n).2)
  | 0 => con_none (fn := Try.f70) (c := bodyOf Try.f70) (by kernel_rfl) (by kernel_rfl) (by kernel_rfl) fun _ h => h
  | n + 1 => con_impl_planCopy (.cons (kg_impl_planCopy n) (.nil tt_ok follows_ok))
theorem k_impl_planCopy : Con Try.prog 70 s_impl_planCopy := (kg_impl_planCopy fuelN)
theorem k_impl_SessNew : Con Try.prog 22 s_impl_SessNew := con_impl_SessNew (.cons k_impl_PlanOk (.cons k_impl_planCopy (.nil tt_ok follows_ok)))
theorem kg_laws_lwPlan : ∀ n, Con Try.prog 64 (rs_laws_lwPlan (vp_laws_lwPlan n).1 (vp_laws_lwPlan n).2)
  | 0 => con_none (fn := Try.f64) (c := bodyOf Try.f64) (by kernel_rfl) (by kernel_rfl) (by kernel_rfl) fun _ h => h
  | n + 1 => con_laws_lwPlan (.cons (kg_laws_lwPlan n) (.nil tt_ok follows_ok))
theorem k_laws_lwPlan : Con Try.prog 64 s_laws_lwPlan := (kg_laws_lwPlan fuelN)
theorem k_laws_lwRows : Con Try.prog 54 s_laws_lwRows := con_laws_lwRows (.nil tt_ok follows_ok)
theorem k_laws_lwBatches : Con Try.prog 113 s_laws_lwBatches := con_laws_lwBatches (.cons k_laws_lwRows (.nil tt_ok follows_ok))
theorem k_laws_lwTimes : Con Try.prog 114 s_laws_lwTimes := con_laws_lwTimes (.nil tt_ok follows_ok)
theorem k_laws_lwSess : Con Try.prog 60 s_laws_lwSess := con_laws_lwSess (.cons k_laws_lwPlan (.cons k_laws_lwBatches (.cons k_laws_lwTimes (.cons k_laws_lwRows (.nil tt_ok follows_ok)))))
theorem k_laws_lwAll : Con Try.prog 61 s_laws_lwAll := con_laws_lwAll (.nil tt_ok follows_ok)
theorem k_impl_TimeOk : Con Try.prog 110 s_impl_TimeOk := con_impl_TimeOk (.nil tt_ok follows_ok)
theorem k_impl_FrontOk : Con Try.prog 116 s_impl_FrontOk := con_impl_FrontOk (.cons k_impl_TimeOk (.nil tt_ok follows_ok))
theorem k_impl_ahead : Con Try.prog 137 s_impl_ahead := con_impl_ahead (.nil tt_ok follows_ok)
theorem k_impl_rowAhead : Con Try.prog 111 s_impl_rowAhead := con_impl_rowAhead (.cons k_impl_ahead (.nil tt_ok follows_ok))
theorem k_impl_RowsOk : Con Try.prog 90 s_impl_RowsOk := con_impl_RowsOk (.cons k_impl_TimeOk (.nil tt_ok follows_ok))
theorem k_impl_BatchOk : Con Try.prog 58 s_impl_BatchOk := con_impl_BatchOk (.cons k_impl_rowAhead (.cons k_impl_RowsOk (.nil tt_ok follows_ok)))
theorem k_impl_rowsCopy : Con Try.prog 150 s_impl_rowsCopy := con_impl_rowsCopy (.nil tt_ok follows_ok)
theorem k_impl_each : Con Try.prog 177 s_impl_each := con_impl_each (.nil tt_ok follows_ok)
theorem k_impl_batch : Con Try.prog 91 s_impl_batch := con_impl_batch (.cons con_impl_consolidated (.cons k_impl_BatchOk (.nil tt_ok follows_ok)))
theorem k_impl_flowEach : Con Try.prog 151 s_impl_flowEach := con_impl_flowEach (.cons k_impl_each (.cons k_impl_batch (.nil tt_ok follows_ok)))
theorem k_impl_together : Con Try.prog 152 s_impl_together := con_impl_together (.nil tt_ok follows_ok)
theorem k_impl_negated : Con Try.prog 153 s_impl_negated := con_impl_negated (.nil tt_ok follows_ok)
theorem k_impl_joinedVal : Con Try.prog 178 s_impl_joinedVal := con_impl_joinedVal (.nil tt_ok follows_ok)
theorem k_impl_TimeJoin : Con Try.prog 179 s_impl_TimeJoin := con_impl_TimeJoin (.cons k_impl_TimeOk (.nil tt_ok follows_ok))
theorem k_impl_flowJoin : Con Try.prog 154 s_impl_flowJoin := con_impl_flowJoin (.cons k_impl_joinedVal (.cons k_impl_TimeJoin (.cons k_impl_batch (.nil tt_ok follows_ok))))
theorem k_impl_below : Con Try.prog 133 s_impl_below := con_impl_below (.nil tt_ok follows_ok)
theorem k_impl_present : Con Try.prog 106 s_impl_present := con_impl_present (.cons k_impl_below (.cons con_impl_gathered (.nil tt_ok follows_ok)))
theorem k_impl_counted : Con Try.prog 188 s_impl_counted := con_impl_counted (.nil tt_ok follows_ok)
theorem k_impl_once : Con Try.prog 125 s_impl_once := con_impl_once (.nil tt_ok follows_ok)
theorem k_impl_leastOf : Con Try.prog 189 s_impl_leastOf := con_impl_leastOf (.cons k_impl_once (.nil tt_ok follows_ok))
theorem k_impl_aggregate : Con Try.prog 181 s_impl_aggregate := con_impl_aggregate (.cons k_impl_counted (.cons k_impl_once (.cons k_impl_leastOf (.nil tt_ok follows_ok))))
theorem k_impl_flowSum : Con Try.prog 155 s_impl_flowSum := con_impl_flowSum (.cons con_impl_FlowTimes (.cons k_impl_present (.cons k_impl_aggregate (.cons con_impl_gathered (.cons k_impl_batch (.nil tt_ok follows_ok))))))
theorem kg_impl_planFlow : ∀ n, Con Try.prog 139 (rs_impl_planFlow (vp_impl_planFlow n).1 (vp_impl_planFlow n).2)
  | 0 => con_none (fn := Try.f139) (c := bodyOf Try.f139) (by kernel_rfl) (by kernel_rfl) (by kernel_rfl) fun _ h => h
  | n + 1 => con_impl_planFlow (.cons (kg_impl_planFlow n) (.cons k_impl_rowsCopy (.cons k_impl_flowEach (.cons k_impl_together (.cons k_impl_batch (.cons k_impl_negated (.cons k_impl_flowJoin (.cons k_impl_flowSum (.nil tt_ok follows_ok)))))))))
theorem k_impl_planFlow : Con Try.prog 139 s_impl_planFlow := (kg_impl_planFlow fuelN)
theorem k_impl_PlanFlow : Con Try.prog 117 s_impl_PlanFlow := con_impl_PlanFlow (.cons k_impl_PlanOk (.cons k_impl_BatchOk (.cons k_impl_planFlow (.nil tt_ok follows_ok))))
theorem k_impl_beyond : Con Try.prog 115 s_impl_beyond := con_impl_beyond (.cons k_impl_below (.nil tt_ok follows_ok))
theorem k_impl_completed : Con Try.prog 119 s_impl_completed := con_impl_completed (.cons k_impl_beyond (.nil tt_ok follows_ok))
theorem k_impl_rowsSame : Con Try.prog 118 s_impl_rowsSame := con_impl_rowsSame (.nil tt_ok follows_ok)
theorem k_impl_SessOk : Con Try.prog 63 s_impl_SessOk := con_impl_SessOk (.cons k_impl_FrontOk (.cons k_impl_PlanFlow (.cons k_impl_completed (.cons k_impl_rowsSame (.nil tt_ok follows_ok)))))
theorem k_impl_SessAt : Con Try.prog 62 s_impl_SessAt := con_impl_SessAt (.cons k_impl_SessOk (.cons k_impl_TimeOk (.cons k_impl_beyond (.cons k_impl_present (.nil tt_ok follows_ok)))))
theorem k_laws_FnSessNew : Con Try.prog 18 s_laws_FnSessNew := con_laws_FnSessNew (.cons k_spec_DrawSessNew (.cons k_spec_SessNew (.cons k_impl_SessNew (.cons k_laws_lwSess (.cons k_laws_lwAll (.cons k_impl_SessAt (.cons k_impl_SessOk (.cons k_laws_lwPlan (.nil tt_ok follows_ok)))))))))
end Go.Proofs.Ytopcofkpggefkaa

namespace Go.Proofs.Ytopcofkpggefkaa
open Go

def Bd : Nat → Int
  | 0 => 2
  | d + 1 => 2 * Bd d + 4
theorem Bd_pos : ∀ d, 2 ≤ Bd d
  | 0 => Int.le_refl _
  | d + 1 => by have := Bd_pos d; simp only [Bd]; omega
theorem l71Plan_ok {b : List Int} (hb : RdOk b) : ∀ (d n : Nat), d < n → d ≤ 4 → ∀ p : Int, 0 ≤ p ∧ p + Bd d ≤ 500000 →
    (vp_spec_l71Plan n).2 (b, p) d ∧ p ≤ ((vp_spec_l71Plan n).1 (b, p) d).2 ∧ ((vp_spec_l71Plan n).1 (b, p) d).2 ≤ p + Bd d := by
  intro d
  induction d with
  | zero =>
    intro n hn _ p hp
    obtain ⟨m, rfl⟩ : ∃ m, n = m + 1 := ⟨n - 1, by omega⟩
    have hB : Bd 0 = 2 := rfl
    obtain ⟨x1, x2, _, _⟩ := pick_ok hb (p := p) (n := 2) (by omega) (by omega)
    have hl : cmp .lss ((0 : Nat) : Int) 2 = true := rfl
    simp only [vp_spec_l71Plan, spec_l71Plan_b_ob, spec_l71Plan_b, spec_l71Plan_b_t, Tr.val, Tr.ob, AllP, hl, cond_true, Bool.not_true, Bool.false_and, cond_false, ocR, x2]
    exact ⟨by simp [x1], by omega, by omega⟩
  | succ d ih =>
    intro n hn hd p hp
    obtain ⟨m, rfl⟩ : ∃ m, n = m + 1 := ⟨n - 1, by omega⟩
    have hBp := Bd_pos d
    have hB : Bd (d + 1) = 2 * Bd d + 4 := rfl
    generalize hD : ((d + 1 : Nat) : Int) = D
    have hsub : ar .sub .i64 D 1 = (d : Int) := by rw [ar_sub (by omega)]; omega
    obtain ⟨x1, x2, _, _⟩ := pick_ok hb (p := p) (n := 6) (by omega) (by omega)
    have hP : p ≤ cond ((!(cmp .lss D 2)) && true) (v_spec_l6Rd_pick (b, p) 6).2 p ∧ cond ((!(cmp .lss D 2)) && true) (v_spec_l6Rd_pick (b, p) 6).2 p ≤ p + 1 := by
      rw [x2]
      cases cmp .lss D 2 <;> simp <;> omega
    simp only [vp_spec_l71Plan, spec_l71Plan_b_ob, spec_l71Plan_b, spec_l71Plan_b_t, Tr.val, Tr.ob, AllP, hsub]
    generalize cond ((!(cmp .lss D 2)) && true) (v_spec_l6Rd_pick (b, p) 6).2 p = P at hP ⊢
    obtain ⟨y1, y2, _, _⟩ := pick_ok hb (p := P) (n := 2) (by omega) (by omega)
    obtain ⟨z1, z2, _, _⟩ := pick_ok hb (p := P) (n := 6) (by omega) (by omega)
    obtain ⟨u1, u2, _, _⟩ := pick_ok hb (p := P + 1) (n := 7) (by omega) (by omega)
    obtain ⟨w1, w2, _, _⟩ := pick_ok hb (p := P + 1) (n := 3) (by omega) (by omega)
    have R : ∀ q, P + 1 ≤ q → q ≤ P + 2 + Bd d → (vp_spec_l71Plan m).2 (b, q) d ∧ q ≤ ((vp_spec_l71Plan m).1 (b, q) d).2 ∧ ((vp_spec_l71Plan m).1 (b, q) d).2 ≤ q + Bd d :=
      fun q h1 h2 => ih m (by omega) (by omega) q (by omega)
    obtain ⟨r1, r2, r3⟩ := R (P + 1) (by omega) (by omega)
    obtain ⟨s1, s2, s3⟩ := R (P + 1 + 1) (by omega) (by omega)
    obtain ⟨t1, t2, t3⟩ := R ((vp_spec_l71Plan m).1 (b, P + 1) d).2 (by omega) (by omega)
    simp only [z2, u2, w2, y2]
    cases cond (cmp .lss D 2) true (cmp .eql (v_spec_l6Rd_pick (b, p) 6).1 0) with
    | true => exact ⟨by simp [x1, y1], by simp only [ocR]; omega, by simp only [ocR]; omega⟩
    | false =>
      cases cmp .eql (v_spec_l6Rd_pick (b, P) 6).1 0 with
      | true => exact ⟨by simp [x1, z1, u1, s1], by simp only [ocR]; omega, by simp only [ocR]; omega⟩
      | false =>
        cases cmp .eql (v_spec_l6Rd_pick (b, P) 6).1 1 with
        | true => exact ⟨by simp [x1, z1, r1, t1], by simp only [ocR]; omega, by simp only [ocR]; omega⟩
        | false =>
          cases cmp .eql (v_spec_l6Rd_pick (b, P) 6).1 2 with
          | true => exact ⟨by simp [x1, z1, r1], by simp only [ocR]; omega, by simp only [ocR]; omega⟩
          | false =>
            cases cmp .eql (v_spec_l6Rd_pick (b, P) 6).1 3 with
            | true => exact ⟨by simp [x1, z1, r1, t1], by simp only [ocR]; omega, by simp only [ocR]; omega⟩
            | false => exact ⟨by simp [x1, z1, w1, s1], by simp only [ocR]; omega, by simp only [ocR]; omega⟩
theorem l71Bent_ok {b : List Int} (hb : RdOk b) : p_spec_l71Bent (b, 0) := by
  obtain ⟨a1, a2, a3⟩ := l71Plan_ok hb 4 fuelN (by decide) (by decide) 0 (by decide)
  have hB : Bd 4 = 92 := rfl
  have a1 : p_spec_l71Plan (b, 0) 4 := a1
  have a2 : 0 ≤ (v_spec_l71Plan (b, 0) 4).2 := a2
  have a3 : (v_spec_l71Plan (b, 0) 4).2 ≤ 0 + Bd 4 := a3
  generalize hq : (v_spec_l71Plan (b, 0) 4).2 = q at a2 a3
  obtain ⟨x1, x2, _, _⟩ := pick_ok hb (p := q) (n := 24) (by omega) (by omega)
  obtain ⟨y1, _, _, _⟩ := pick_ok hb (p := q + 1) (n := 9) (by omega) (by omega)
  have k : ∀ x y z, spec_l71Bent_c1_ob b q x y z := fun x y z => by
    simp only [spec_l71Bent_c1_ob, spec_l71Bent_c1_t, Tr.ob, AllP, x2]
    simp [x1, y1]
  simp only [p_spec_l71Bent, spec_l71Bent_b_ob, spec_l71Bent_b_t, spec_l71Bent_c1_S, Tr.ob, AllP, hq]
  simp [a1, k]
theorem DrawSessNew_ok {c : List Int} (hc : ∀ x ∈ c, 0 ≤ x ∧ x ≤ 255) : p_spec_DrawSessNew c := by
  obtain ⟨o1, b, o2, hb⟩ := l6Open_ok hc
  simp only [p_spec_DrawSessNew, spec_DrawSessNew_b_ob, spec_DrawSessNew_b_t, Tr.ob, AllP, o2]
  exact ⟨⟨o1, l71Bent_ok hb, trivial⟩, trivial⟩

-- a plan at work
def newS (p : Plan) : Sess := ⟨p, [[], []], [⟨0, 0⟩], []⟩
def noS : Sess := ⟨⟨0, 0, []⟩, [], [], []⟩
theorem implNew_ok (p : Plan) : p_impl_SessNew p ∧ v_impl_SessNew p = (if okM 4 p = true then (newS p, true, ()) else (noS, false, ())) := by
  obtain ⟨h1, h2⟩ := implPlanOk_ok p
  simp only [p_impl_SessNew, v_impl_SessNew, impl_SessNew_b_ob, impl_SessNew_b, impl_SessNew_b_t, Tr.val, Tr.ob, AllP, plan_eta, h2]
  cases h : okM 4 p with
  | false => exact ⟨by simp [h1], rfl⟩
  | true =>
    obtain ⟨c1, c2⟩ := implCopy_ok h
    have hm : mkOk 2 2 := by simp [mkOk]
    simp only [Bool.not_true, ocR, c2]
    exact ⟨by simp [h1, c1, hm], rfl⟩
theorem specNew_ok (p : Plan) : p_spec_SessNew p ∧ v_spec_SessNew p = (if okM 4 p = true then (newS p, true, ()) else (noS, false, ())) := by
  obtain ⟨h1, h2⟩ := specPlanOk_ok p
  simp only [p_spec_SessNew, v_spec_SessNew, spec_SessNew_b_ob, spec_SessNew_b, spec_SessNew_b_t, Tr.val, Tr.ob, AllP, plan_eta, h2]
  cases h : okM 4 p with
  | false => exact ⟨by simp [h1], rfl⟩
  | true =>
    obtain ⟨c1, c2⟩ := l31_ok h
    simp only [Bool.not_true, ocR, c2]
    exact ⟨by simp [h1, c1], rfl⟩
end Go.Proofs.Ytopcofkpggefkaa

namespace Go.Proofs.Ytopcofkpggefkaa
open Go

theorem lwRowsN : p_laws_lwRows [] [] ∧ v_laws_lwRows [] [] = true := by
  have k : Runs (fun s : Int => ocLp (laws_lwRows_c2_r [] [] s)) (fun s => laws_lwRows_c2_r_ob [] [] s) 0 (.x ()) := by
    refine Runs.out ?_ ?_
    · simp only [laws_lwRows_c2_r_ob, laws_lwRows_c2_r_t, Tr.ob]; exact ⟨fun h => absurd h (by decide), fun _ => trivial⟩
    · rfl
  have a2 : laws_lwRows_c2 [] [] = .x () := k.v
  have b2 : laws_lwRows_c2_ob [] [] := k.t
  have hc : cmp .neq (lenI .row ([] : List Row)) (lenI .row ([] : List Row)) = false := rfl
  simp only [p_laws_lwRows, v_laws_lwRows, laws_lwRows_b_ob, laws_lwRows_b, laws_lwRows_b_t, laws_lwRows_c1_S, laws_lwRows_c1_ob, laws_lwRows_c1, laws_lwRows_c1_t, laws_lwRows_c2_S, lpS, Tr.val, Tr.ob, AllP, hc, a2, ocR]
  exact ⟨by simp [b2], trivial⟩
theorem lwBatchesN (xs : List (List Row)) (h : ∀ x ∈ xs, x = []) (hl : xs.length ≤ 100) : p_laws_lwBatches xs xs ∧ v_laws_lwBatches xs xs = true := by
  have k : Runs (fun s : Int => ocLp (laws_lwBatches_c2_r xs xs s)) (fun s => laws_lwBatches_c2_r_ob xs xs s) 0 (.x ()) := by
    refine Runs.fold xs (fun i (_ : Unit) => (i : Int)) (fun _ => ()) rfl (fun l x r hx => ?_) ?_
    · have hx0 : x = [] := h x (by rw [hx]; simp)
      have hrd : rd .lrow xs (l.length : Int) = [] := by rw [← hx0, hx]; exact rd_mid
      have hin : inb (l.length : Int) (lenI .lrow xs) := by rw [hx]; exact inb_mid (t := .lrow)
      have hlss : cmp .lss (l.length : Int) (lenI .lrow xs) = true := by rw [hx]; exact lss_mid
      have hlen2 : xs.length = l.length + (r.length + 1) := by rw [hx]; simp
      simp only [laws_lwBatches_c2_r_ob, laws_lwBatches_c2_r, laws_lwBatches_c2_r_t, Tr.val, Tr.ob, AllP, hlss, hrd, lwRowsN.2, Bool.not_true, succ_mid (l := l) (by omega)]
      exact ⟨by simp [hin, lwRowsN.1], rfl⟩
    · have hend : cmp .lss (xs.length : Int) (lenI .lrow xs) = false := lss_end (t := .lrow)
      simp only [laws_lwBatches_c2_r_ob, laws_lwBatches_c2_r, laws_lwBatches_c2_r_t, Tr.val, Tr.ob, AllP, hend]
      exact ⟨by simp, rfl⟩
  have a2 : laws_lwBatches_c2 xs xs = .x () := k.v
  have b2 : laws_lwBatches_c2_ob xs xs := k.t
  have hc : cmp .neq (lenI .lrow xs) (lenI .lrow xs) = false := by simp [cmp_neq']
  simp only [p_laws_lwBatches, v_laws_lwBatches, laws_lwBatches_b_ob, laws_lwBatches_b, laws_lwBatches_b_t, laws_lwBatches_c1_S, laws_lwBatches_c1_ob, laws_lwBatches_c1, laws_lwBatches_c1_t, laws_lwBatches_c2_S, lpS, Tr.val, Tr.ob, AllP, hc, a2, ocR]
  exact ⟨by simp [b2], trivial⟩
theorem lwTimesS (xs : List Time) (hl : xs.length ≤ 100) : p_laws_lwTimes xs xs ∧ v_laws_lwTimes xs xs = true := by
  have k : Runs (fun s : Int => ocLp (laws_lwTimes_c2_r xs xs s)) (fun s => laws_lwTimes_c2_r_ob xs xs s) 0 (.x ()) := by
    refine Runs.fold xs (fun i (_ : Unit) => (i : Int)) (fun _ => ()) rfl (fun l x r hx => ?_) ?_
    · have hrd : rd .time xs (l.length : Int) = x := by rw [hx]; exact rd_mid
      have hin : inb (l.length : Int) (lenI .time xs) := by rw [hx]; exact inb_mid (t := .time)
      have hlss : cmp .lss (l.length : Int) (lenI .time xs) = true := by rw [hx]; exact lss_mid
      have hlen2 : xs.length = l.length + (r.length + 1) := by rw [hx]; simp
      have e : (!(cmp .eql x.A x.A && (cmp .eql x.B x.B && true))) = false := by simp [cmp_eql']
      simp only [laws_lwTimes_c2_r_ob, laws_lwTimes_c2_r, laws_lwTimes_c2_r_t, Tr.val, Tr.ob, AllP, hlss, hrd, e, succ_mid (l := l) (by omega)]
      exact ⟨by simp [hin], rfl⟩
    · have hend : cmp .lss (xs.length : Int) (lenI .time xs) = false := lss_end (t := .time)
      simp only [laws_lwTimes_c2_r_ob, laws_lwTimes_c2_r, laws_lwTimes_c2_r_t, Tr.val, Tr.ob, AllP, hend]
      exact ⟨by simp, rfl⟩
  have a2 : laws_lwTimes_c2 xs xs = .x () := k.v
  have b2 : laws_lwTimes_c2_ob xs xs := k.t
  have hc : cmp .neq (lenI .time xs) (lenI .time xs) = false := by simp [cmp_neq']
  simp only [p_laws_lwTimes, v_laws_lwTimes, laws_lwTimes_b_ob, laws_lwTimes_b, laws_lwTimes_b_t, laws_lwTimes_c1_S, laws_lwTimes_c1_ob, laws_lwTimes_c1, laws_lwTimes_c1_t, laws_lwTimes_c2_S, lpS, Tr.val, Tr.ob, AllP, hc, a2, ocR]
  exact ⟨by simp [b2], trivial⟩
theorem lwSessS (s : Sess) (h1 : smM 4 s.Plan = true) (h2 : ∀ x ∈ s.Ins, x = []) (h3 : s.Ins.length ≤ 100) (h4 : s.Front.length ≤ 100) (h5 : s.Told = []) : p_laws_lwSess s s ∧ v_laws_lwSess s s = true := by
  obtain ⟨a1, a2⟩ := lw_ok h1
  obtain ⟨b1, b2⟩ := lwBatchesN s.Ins h2 h3
  obtain ⟨c1, c2⟩ := lwTimesS s.Front h4
  simp only [p_laws_lwSess, v_laws_lwSess, laws_lwSess_b_ob, laws_lwSess_b, laws_lwSess_b_t, Tr.val, Tr.ob, AllP, plan_eta, a2, b2, c2, h5, lwRowsN.2, cond_true, ocR]
  exact ⟨by simp [a1, b1, c1, lwRowsN.1], trivial⟩

/-- All times up to an A. -/
def allT : Nat → List Time
  | 0 => []
  | n + 1 => allT n ++ (List.range 8).map fun b : Nat => (⟨(n : Int), (b : Int)⟩ : Time)
theorem allT_len : ∀ n, (allT n).length = 8 * n
  | 0 => rfl
  | n + 1 => by simp [allT, allT_len n]; omega
theorem allT_pos : ∀ n, ∀ t ∈ allT n, 0 ≤ t.A ∧ 0 ≤ t.B
  | 0, t, h => by simp [allT] at h
  | n + 1, t, h => by
    simp only [allT, List.mem_append, List.mem_map] at h
    rcases h with h | ⟨b, _, rfl⟩
    · exact allT_pos n t h
    · exact ⟨by simp only; omega, by simp only; omega⟩
theorem lwAll_ok : p_laws_lwAll ∧ v_laws_lwAll = allT 8 := by
  have k4 : ∀ (xs : List Time) (n : Int), xs.length ≤ 1000 → Runs (fun s : (List Time) × Int => ocLp (laws_lwAll_c4_r xs n s.1 s.2)) (fun s => laws_lwAll_c4_r_ob xs n s.1 s.2) (xs, 0) (.x (xs ++ (List.range 8).map fun b : Nat => (⟨n, (b : Int)⟩ : Time))) := fun xs n hxs => by
    refine Runs.fold (List.range 8) (fun i b => (b, (i : Int))) (fun l => xs ++ (List.range l.length).map fun b : Nat => (⟨n, (b : Int)⟩ : Time)) (by simp) (fun l x r hx => ?_) ?_
    · have hlen : 8 = l.length + (r.length + 1) := by have := congrArg List.length hx; simpa using this
      have hl : cmp .leq (l.length : Int) 7 = true := by rw [cmp_leq']; simp; omega
      have hlim : ∀ y, lim (lenI .time (xs ++ (List.range l.length).map fun b : Nat => (⟨n, (b : Int)⟩ : Time))) (lenI .time [y]) := fun y => lim_one (t := .time) (show (xs ++ (List.range l.length).map fun b : Nat => (⟨n, (b : Int)⟩ : Time)).length < 1099511627776 by simp; omega)
      simp only [laws_lwAll_c4_r_ob, laws_lwAll_c4_r, laws_lwAll_c4_r_t, Tr.val, Tr.ob, AllP, hl, succ_mid (l := l) (by omega)]
      exact ⟨by simp [hlim], by simp [ocLp, List.range_succ]⟩
    · have hl : cmp .leq ((List.range 8).length : Int) 7 = false := rfl
      simp only [laws_lwAll_c4_r_ob, laws_lwAll_c4_r, laws_lwAll_c4_r_t, Tr.val, Tr.ob, AllP, hl]
      exact ⟨by simp, by simp [ocLp]⟩
  have a4 : ∀ (xs : List Time) (n : Int), xs.length ≤ 1000 → laws_lwAll_c4 xs n = .x (xs ++ (List.range 8).map fun b : Nat => (⟨n, (b : Int)⟩ : Time)) := fun xs n h => (k4 xs n h).v
  have b4 : ∀ (xs : List Time) (n : Int), xs.length ≤ 1000 → laws_lwAll_c4_ob xs n := fun xs n h => (k4 xs n h).t
  have k2 : Runs (fun s : (List Time) × Int => ocLp (laws_lwAll_c2_r s.1 s.2)) (fun s => laws_lwAll_c2_r_ob s.1 s.2) ([], 0) (.x (allT 8)) := by
    refine Runs.fold (List.range 8) (fun i b => (b, (i : Int))) (fun l => allT l.length) rfl (fun l x r hx => ?_) ?_
    · have hlen : 8 = l.length + (r.length + 1) := by have := congrArg List.length hx; simpa using this
      have hl : cmp .leq (l.length : Int) 7 = true := by rw [cmp_leq']; simp; omega
      have ha := allT_len l.length
      simp only [laws_lwAll_c2_r_ob, laws_lwAll_c2_r, laws_lwAll_c2_r_t, laws_lwAll_c3_S, laws_lwAll_c3_ob, laws_lwAll_c3, laws_lwAll_c3_t, laws_lwAll_c4_S, lpS, Tr.val, Tr.ob, AllP, hl, a4 _ _ (show (allT l.length).length ≤ 1000 by omega), succ_mid (l := l) (by omega)]
      exact ⟨by simp [b4 _ _ (show (allT l.length).length ≤ 1000 by omega)], by simp [ocLp, allT]⟩
    · have hl : cmp .leq ((List.range 8).length : Int) 7 = false := rfl
      simp only [laws_lwAll_c2_r_ob, laws_lwAll_c2_r, laws_lwAll_c2_r_t, Tr.val, Tr.ob, AllP, hl]
      exact ⟨by simp, by simp [ocLp]⟩
  have a2 : laws_lwAll_c2 = .x (allT 8) := k2.v
  have b2 : laws_lwAll_c2_ob := k2.t
  simp only [p_laws_lwAll, v_laws_lwAll, laws_lwAll_b_ob, laws_lwAll_b, laws_lwAll_b_t, laws_lwAll_c1_S, laws_lwAll_c1_ob, laws_lwAll_c1, laws_lwAll_c1_t, laws_lwAll_c2_S, lpS, Tr.val, Tr.ob, AllP, a2, ocR]
  exact ⟨by simp [b2], trivial⟩
end Go.Proofs.Ytopcofkpggefkaa

namespace Go.Proofs.Ytopcofkpggefkaa
open Go

theorem timeOk0 : p_impl_TimeOk ⟨0, 0⟩ ∧ v_impl_TimeOk ⟨0, 0⟩ = true := ⟨trivial, by decide⟩
theorem frontN : p_impl_FrontOk [⟨0, 0⟩] ∧ v_impl_FrontOk [⟨0, 0⟩] = true := by
  have k : Runs (fun s : Int => ocLp (impl_FrontOk_c2_r [⟨0, 0⟩] (lenI .time [(⟨0, 0⟩ : Time)]) s)) (fun s => impl_FrontOk_c2_r_ob [⟨0, 0⟩] (lenI .time [(⟨0, 0⟩ : Time)]) s) 0 (.x ()) := by
    refine Runs.fold [(⟨0, 0⟩ : Time)] (fun i (_ : Unit) => (i : Int)) (fun _ => ()) rfl (fun l x r hx => ?_) ?_
    · have hlen : 1 = l.length + (r.length + 1) := by have := congrArg List.length hx; simpa using this
      have hl0 : l.length = 0 := by omega
      have e1 : cmp .lss ((0 : Nat) : Int) (lenI .time [(⟨0, 0⟩ : Time)]) = true := rfl
      have e2 : cmp .gtr ((0 : Nat) : Int) 0 = false := rfl
      have e3 : rd .time [(⟨0, 0⟩ : Time)] ((0 : Nat) : Int) = ⟨0, 0⟩ := rfl
      have hin0 : inb 0 (lenI .time [(⟨0, 0⟩ : Time)]) := by simp [inb, lenI]
      have e4 : ar .add .i64 ((0 : Nat) : Int) 1 = ((0 + 1 : Nat) : Int) := by rw [ar_add (by omega)]; omega
      rw [hl0]
      simp only [impl_FrontOk_c2_r_ob, impl_FrontOk_c2_r, impl_FrontOk_c2_r_t, Tr.val, Tr.ob, AllP, e1, e2, e3, e4, timeOk0.2, Bool.not_true, cond_false, Bool.false_and, Bool.and_false]
      exact ⟨by simp [hin0, timeOk0.1], rfl⟩
    · have hend : cmp .lss ([(⟨0, 0⟩ : Time)].length : Int) (lenI .time [(⟨0, 0⟩ : Time)]) = false := rfl
      simp only [impl_FrontOk_c2_r_ob, impl_FrontOk_c2_r, impl_FrontOk_c2_r_t, Tr.val, Tr.ob, AllP, hend]
      exact ⟨by simp, rfl⟩
  have a2 : impl_FrontOk_c2 [⟨0, 0⟩] (lenI .time [(⟨0, 0⟩ : Time)]) = .x () := k.v
  have b2 : impl_FrontOk_c2_ob [⟨0, 0⟩] (lenI .time [(⟨0, 0⟩ : Time)]) := k.t
  simp only [p_impl_FrontOk, v_impl_FrontOk, impl_FrontOk_b_ob, impl_FrontOk_b, impl_FrontOk_b_t, impl_FrontOk_c1_S, impl_FrontOk_c1_ob, impl_FrontOk_c1, impl_FrontOk_c1_t, impl_FrontOk_c2_S, lpS, Tr.val, Tr.ob, AllP, a2, ocR]
  exact ⟨by simp [b2], trivial⟩
theorem completedN (f : List Time) : p_impl_completed [] f ∧ v_impl_completed [] f = [] := by
  have k : Runs (fun s : LR × Int => ocLp (impl_completed_c2_r f [] (lenI .row []) s.1 s.2)) (fun s => impl_completed_c2_r_ob f [] (lenI .row []) s.1 s.2) ([], 0) (.x []) := by
    refine Runs.out ?_ ?_
    · simp only [impl_completed_c2_r_ob, impl_completed_c2_r_t, Tr.ob]; exact ⟨fun h => absurd h (by decide), fun _ => trivial⟩
    · rfl
  have a2 : impl_completed_c2 f [] (lenI .row []) = .x [] := k.v
  have b2 : impl_completed_c2_ob f [] (lenI .row []) := k.t
  simp only [p_impl_completed, v_impl_completed, impl_completed_b_ob, impl_completed_b, impl_completed_b_t, impl_completed_c1_S, impl_completed_c1_ob, impl_completed_c1, impl_completed_c1_t, impl_completed_c2_S, lpS, Tr.val, Tr.ob, AllP, a2, ocR]
  exact ⟨by simp [b2], trivial⟩
theorem rowsSameN : p_impl_rowsSame [] [] ∧ v_impl_rowsSame [] [] = true := by
  have k : Runs (fun s : Int => ocLp (impl_rowsSame_c2_r [] [] (lenI .row []) s)) (fun s => impl_rowsSame_c2_r_ob [] [] (lenI .row []) s) 0 (.x ()) := by
    refine Runs.out ?_ ?_
    · simp only [impl_rowsSame_c2_r_ob, impl_rowsSame_c2_r_t, Tr.ob]; exact ⟨fun h => absurd h (by decide), fun _ => trivial⟩
    · rfl
  have a2 : impl_rowsSame_c2 [] [] (lenI .row []) = .x () := k.v
  have b2 : impl_rowsSame_c2_ob [] [] (lenI .row []) := k.t
  have hc : cmp .neq (lenI .row ([] : List Row)) (lenI .row ([] : List Row)) = false := rfl
  simp only [p_impl_rowsSame, v_impl_rowsSame, impl_rowsSame_b_ob, impl_rowsSame_b, impl_rowsSame_b_t, impl_rowsSame_c1_S, impl_rowsSame_c1_ob, impl_rowsSame_c1, impl_rowsSame_c1_t, impl_rowsSame_c2_S, lpS, Tr.val, Tr.ob, AllP, hc, a2, ocR]
  exact ⟨by simp [b2], trivial⟩
theorem PlanFlowN {p : Plan} (h : okM 4 p = true) : p_impl_PlanFlow p [[], []] ∧ v_impl_PlanFlow p [[], []] = ([], true, ()) := by
  obtain ⟨h1, h2⟩ := implPlanOk_ok p
  obtain ⟨f1, f2⟩ := planFlow_ok 4 fuelN (by decide) p h
  have f1 : p_impl_planFlow p [[], []] := f1
  have f2 : v_impl_planFlow p [[], []] = ([], true, ()) := f2
  have k : Runs (fun s : Int => ocLp (impl_PlanFlow_c2_r [[], []] p.Kind p.Num p.Kids (lenI .lrow [([] : List Row), []]) s)) (fun s => impl_PlanFlow_c2_r_ob [[], []] p.Kind p.Num p.Kids (lenI .lrow [([] : List Row), []]) s) 0 (.x ()) := by
    refine Runs.fold [([] : List Row), []] (fun i (_ : Unit) => (i : Int)) (fun _ => ()) rfl (fun l x r hx => ?_) ?_
    · have hx0 : x = [] := by
        have : x ∈ [([] : List Row), []] := by rw [hx]; simp
        simpa using this
      have hlen : 2 = l.length + (r.length + 1) := by have := congrArg List.length hx; simpa using this
      have hrd : rd .lrow [([] : List Row), []] (l.length : Int) = [] := by
        have h01 : l.length = 0 ∨ l.length = 1 := by omega
        rcases h01 with h | h <;> rw [h] <;> rfl
      have hin : inb (l.length : Int) (lenI .lrow [([] : List Row), []]) := by rw [hx]; exact inb_mid (t := .lrow)
      have hlss : cmp .lss (l.length : Int) (lenI .lrow [([] : List Row), []]) = true := by rw [hx]; exact lss_mid
      simp only [impl_PlanFlow_c2_r_ob, impl_PlanFlow_c2_r, impl_PlanFlow_c2_r_t, Tr.val, Tr.ob, AllP, hlss, hrd, batchOkN.2, Bool.not_true, succ_mid (l := l) (by omega)]
      exact ⟨by simp [hin, batchOkN.1], rfl⟩
    · have hend : cmp .lss ([([] : List Row), []].length : Int) (lenI .lrow [([] : List Row), []]) = false := rfl
      simp only [impl_PlanFlow_c2_r_ob, impl_PlanFlow_c2_r, impl_PlanFlow_c2_r_t, Tr.val, Tr.ob, AllP, hend]
      exact ⟨by simp, rfl⟩
  have a2 : impl_PlanFlow_c2 [[], []] p.Kind p.Num p.Kids (lenI .lrow [([] : List Row), []]) = .x () := k.v
  have b2 : impl_PlanFlow_c2_ob [[], []] p.Kind p.Num p.Kids (lenI .lrow [([] : List Row), []]) := k.t
  have hc : cond (!(true : Bool)) true (cmp .neq (lenI .lrow [([] : List Row), []]) 2) = false := rfl
  simp only [p_impl_PlanFlow, v_impl_PlanFlow, impl_PlanFlow_b_ob, impl_PlanFlow_b, impl_PlanFlow_b_t, impl_PlanFlow_c1_S, impl_PlanFlow_c1_ob, impl_PlanFlow_c1, impl_PlanFlow_c1_t, impl_PlanFlow_c2_S, lpS, Tr.val, Tr.ob, AllP, plan_eta, h2, h, hc, a2, f2, ocR]
  exact ⟨by simp [h1, b2, f1], trivial⟩
theorem SessOkN {p : Plan} (h : okM 4 p = true) : p_impl_SessOk (newS p) ∧ v_impl_SessOk (newS p) = true := by
  obtain ⟨f1, f2⟩ := PlanFlowN h
  obtain ⟨c1, c2⟩ := completedN [⟨0, 0⟩]
  simp only [p_impl_SessOk, v_impl_SessOk, impl_SessOk_b_ob, impl_SessOk_b, impl_SessOk_b_t, Tr.val, Tr.ob, AllP, newS, plan_eta, frontN.2, f2, c2, rowsSameN.2, Bool.not_true, cond_true, ocR]
  exact ⟨by simp [frontN.1, f1, c1, rowsSameN.1], trivial⟩
theorem beyond0 {t : Time} (ha : 0 ≤ t.A) (hb : 0 ≤ t.B) : p_impl_beyond [⟨0, 0⟩] t ∧ v_impl_beyond [⟨0, 0⟩] t = true := by
  have hbl : p_impl_below ⟨0, 0⟩ t ∧ v_impl_below ⟨0, 0⟩ t = true := by
    refine ⟨trivial, ?_⟩
    show cond (cmp .leq 0 t.A) (cmp .leq 0 t.B) false = true
    simp [cmp_leq', ha, hb]
  have k : Runs (fun s : Int => ocLp (impl_beyond_c2_r t [⟨0, 0⟩] (lenI .time [(⟨0, 0⟩ : Time)]) s)) (fun s => impl_beyond_c2_r_ob t [⟨0, 0⟩] (lenI .time [(⟨0, 0⟩ : Time)]) s) 0 (.r true) := by
    have e1 : cmp .lss 0 (lenI .time [(⟨0, 0⟩ : Time)]) = true := rfl
    have e3 : rd .time [(⟨0, 0⟩ : Time)] 0 = ⟨0, 0⟩ := rfl
    have hin : inb 0 (lenI .time [(⟨0, 0⟩ : Time)]) := by simp [inb, lenI]
    refine Runs.out ?_ ?_
    · simp only [impl_beyond_c2_r_ob, impl_beyond_c2_r_t, Tr.ob, AllP, e1, e3, hbl.2]; simp [hin, hbl.1]
    · simp only [impl_beyond_c2_r, impl_beyond_c2_r_t, Tr.val, e1, e3, hbl.2]; rfl
  have a2 : impl_beyond_c2 t [⟨0, 0⟩] (lenI .time [(⟨0, 0⟩ : Time)]) = .r true := k.v
  have b2 : impl_beyond_c2_ob t [⟨0, 0⟩] (lenI .time [(⟨0, 0⟩ : Time)]) := k.t
  simp only [p_impl_beyond, v_impl_beyond, impl_beyond_b_ob, impl_beyond_b, impl_beyond_b_t, impl_beyond_c1_S, impl_beyond_c1_ob, impl_beyond_c1, impl_beyond_c1_t, impl_beyond_c2_S, lpS, Tr.val, Tr.ob, AllP, a2, ocR]
  exact ⟨by simp [b2], trivial⟩
theorem SessAtN {p : Plan} (h : okM 4 p = true) {t : Time} (ha : 0 ≤ t.A) (hb : 0 ≤ t.B) : p_impl_SessAt (newS p) t ∧ (v_impl_SessAt (newS p) t).2.1 = false := by
  obtain ⟨s1, s2⟩ := SessOkN h
  obtain ⟨b1, b2⟩ := beyond0 ha hb
  have hs : Sess.mk (Plan.mk (newS p).Plan.Kind (newS p).Plan.Num (newS p).Plan.Kids) (newS p).Ins (newS p).Front (newS p).Told = newS p := by rw [plan_eta]
  have b1 : p_impl_beyond (newS p).Front t := b1
  have b2 : v_impl_beyond (newS p).Front t = true := b2
  have ht : p_impl_TimeOk t := trivial
  have hc : cond (cond (!(true : Bool)) true (!(v_impl_TimeOk t))) true true = true := by cases v_impl_TimeOk t <;> rfl
  simp only [p_impl_SessAt, v_impl_SessAt, impl_SessAt_b_ob, impl_SessAt_b, impl_SessAt_b_t, Tr.val, Tr.ob, AllP, hs, s2, b2, hc, ocR]
  exact ⟨by simp [s1, b1, ht], trivial⟩

theorem FnSessNew_true (c : List Int) (hc : ∀ x ∈ c, 0 ≤ x ∧ x ≤ 255) : p_laws_FnSessNew c ∧ v_laws_FnSessNew c = true := by
  by_cases hbig : cmp .gtr (lenI .byte c) 1048576 = true
  · simp only [p_laws_FnSessNew, v_laws_FnSessNew, laws_FnSessNew_b_ob, laws_FnSessNew_b, hbig, ocR, laws_FnSessNew_b_t, Tr.val, Tr.ob, AllP]
    exact ⟨by simp, trivial⟩
  · have hbig : cmp .gtr (lenI .byte c) 1048576 = false := by simpa using hbig
    have d1 := DrawSessNew_ok hc
    generalize hP : v_spec_DrawSessNew c = P
    obtain ⟨i1, i2⟩ := implNew_ok P
    obtain ⟨s1, s2⟩ := specNew_ok P
    obtain ⟨l1, l2⟩ := lwAll_ok
    cases hk : okM 4 P with
    | false =>
      rw [hk] at i2 s2
      have i2 : v_impl_SessNew P = (noS, false, ()) := i2
      have s2 : v_spec_SessNew P = (noS, false, ()) := s2
      obtain ⟨w1, w2⟩ := lwSessS noS rfl (fun x hx => by cases hx) (by decide) (by decide) rfl
      have hn : Sess.mk (Plan.mk noS.Plan.Kind noS.Plan.Num noS.Plan.Kids) noS.Ins noS.Front noS.Told = noS := rfl
      simp only [p_laws_FnSessNew, v_laws_FnSessNew, laws_FnSessNew_b_ob, laws_FnSessNew_b, laws_FnSessNew_b_t, Tr.val, Tr.ob, AllP, hbig, hP, plan_eta, i2, s2, hn, w2]
      exact ⟨by simp [d1, i1, s1, w1], rfl⟩
    | true =>
      rw [hk] at i2 s2
      have i2 : v_impl_SessNew P = (newS P, true, ()) := i2
      have s2 : v_spec_SessNew P = (newS P, true, ()) := s2
      obtain ⟨w1, w2⟩ := lwSessS (newS P) (smM_of hk) (fun x hx => by simpa [newS] using hx) (by simp [newS]) (by simp [newS]) rfl
      have hn : Sess.mk (Plan.mk (newS P).Plan.Kind (newS P).Plan.Num (newS P).Plan.Kids) (newS P).Ins (newS P).Front (newS P).Told = newS P := by rw [plan_eta]
      obtain ⟨o1, o2⟩ := SessOkN hk
      obtain ⟨q1, q2⟩ := lw_ok (smM_of hk)
      have hpl : Plan.mk (newS P).Plan.Kind (newS P).Plan.Num (newS P).Plan.Kids = P := plan_eta P
      have hn2 : Sess.mk P (newS P).Ins (newS P).Front (newS P).Told = newS P := rfl
      have htold : cmp .eql (lenI .row (newS P).Told) 0 = true := rfl
      have k : Runs (fun s : Int => ocLp (laws_FnSessNew_c2_r P.Kind P.Num P.Kids (newS P).Plan.Kind (newS P).Plan.Num (newS P).Plan.Kids (newS P).Ins (newS P).Front (newS P).Told (allT 8) s)) (fun s => laws_FnSessNew_c2_r_ob P.Kind P.Num P.Kids (newS P).Plan.Kind (newS P).Plan.Num (newS P).Plan.Kids (newS P).Ins (newS P).Front (newS P).Told (allT 8) s) 0 (.x ()) := by
        refine Runs.fold (allT 8) (fun i (_ : Unit) => (i : Int)) (fun _ => ()) rfl (fun l x r hx => ?_) ?_
        · have hrd : rd .time (allT 8) (l.length : Int) = x := by rw [hx]; exact rd_mid
          have hin : inb (l.length : Int) (lenI .time (allT 8)) := by rw [hx]; exact inb_mid (t := .time)
          have hlss : cmp .lss (l.length : Int) (lenI .time (allT 8)) = true := by rw [hx]; exact lss_mid
          have hlen : (allT 8).length = l.length + (r.length + 1) := by rw [hx]; simp
          have hal := allT_len 8
          obtain ⟨x1, x2⟩ := allT_pos 8 x (by rw [hx]; simp)
          obtain ⟨t1, t2⟩ := SessAtN hk x1 x2
          simp only [laws_FnSessNew_c2_r_ob, laws_FnSessNew_c2_r, laws_FnSessNew_c2_r_t, laws_FnSessNew_c3_S, laws_FnSessNew_c3_ob, laws_FnSessNew_c3, laws_FnSessNew_c3_t, Tr.val, Tr.ob, AllP, hlss, hrd, hn, t2, succ_mid (l := l) (by omega)]
          exact ⟨by simp [hin, t1], rfl⟩
        · have hend : cmp .lss ((allT 8).length : Int) (lenI .time (allT 8)) = false := lss_end (t := .time)
          simp only [laws_FnSessNew_c2_r_ob, laws_FnSessNew_c2_r, laws_FnSessNew_c2_r_t, Tr.val, Tr.ob, AllP, hend]
          exact ⟨by simp, rfl⟩
      have a2 : laws_FnSessNew_c2 P.Kind P.Num P.Kids (newS P).Plan.Kind (newS P).Plan.Num (newS P).Plan.Kids (newS P).Ins (newS P).Front (newS P).Told (allT 8) = .x () := k.v
      have b2 : laws_FnSessNew_c2_ob P.Kind P.Num P.Kids (newS P).Plan.Kind (newS P).Plan.Num (newS P).Plan.Kids (newS P).Ins (newS P).Front (newS P).Told (allT 8) := k.t
      simp only [p_laws_FnSessNew, v_laws_FnSessNew, laws_FnSessNew_b_ob, laws_FnSessNew_b, laws_FnSessNew_b_t, laws_FnSessNew_c1_S, laws_FnSessNew_c1_ob, laws_FnSessNew_c1, laws_FnSessNew_c1_t, laws_FnSessNew_c2_S, lpS, Tr.val, Tr.ob, AllP, hbig, hP, plan_eta P, i2, s2, hn, hpl, hn2, w2, o2, q2, htold, l2, a2]
      exact ⟨by simp [d1, i1, s1, w1, o1, q1, l1, b2, hn2], rfl⟩
end Go.Proofs.Ytopcofkpggefkaa
