/-
  What the drawing functions give: bounds. Sums of rows and of items in the reference: they are the gathered ones. What is drawn for laws of loops: bounds. Sets and steps of loops, by what they compute. The reference's steps of loops, by what they compute. Steps of loops, as sets of keys. Laws of loops, by what they compute: each answers true. Laws of loops of more rounds, by what they compute: each answers true. Sums over changes, and what is left of them when they are put in order. What a loop's changes sum up to, whatever the order of rounds and times. Rows, batches, and what they come to at a time: what the program's functions and the reference's compute. The program's loop over batches: what it computes. No statement is proved here.
-/
import Derived.Test.YtopcofkpggefkaaI1

namespace Go.Proofs.Ytopcofkpggefkaa
open Go
/-- Bytes, and not too many. -/
structure RdOk (b : List Int) : Prop where
  byte : ∀ x ∈ b, 0 ≤ x ∧ x ≤ 255
  len : b.length ≤ 2000
def rdByt (b : List Int) (i : Int) : Int := b.getD i.toNat 0
theorem rdByt_eq (b : List Int) (i : Int) : rd .byte b i = rdByt b i := rfl
theorem rd_byte {b : List Int} (h : RdOk b) (i : Int) : 0 ≤ rdByt b i ∧ rdByt b i ≤ 255 := by
  unfold rdByt
  rw [List.getD_eq_getElem?_getD]
  cases hg : b[i.toNat]? with
  | none => simp
  | some x => exact h.byte x (List.mem_of_getElem? hg)
theorem xr_bound {a b : Int} (ha : 0 ≤ a ∧ a < 4611686018427387904) (hb : 0 ≤ b ∧ b < 4611686018427387904) : 0 ≤ xr .i64 a b ∧ xr .i64 a b < 4611686018427387904 := by
  unfold xr
  have h1 : (BitVec.ofInt 64 a).toNat < 2 ^ 62 := by rw [BitVec.toNat_ofInt]; omega
  have h2 : (BitVec.ofInt 64 b).toNat < 2 ^ 62 := by rw [BitVec.toNat_ofInt]; omega
  have h3 := Nat.xor_lt_two_pow h1 h2
  show 0 ≤ IntKind.i64.wrap ((BitVec.ofInt 64 a ^^^ BitVec.ofInt 64 b).toNat : Int) ∧ IntKind.i64.wrap ((BitVec.ofInt 64 a ^^^ BitVec.ofInt 64 b).toNat : Int) < 4611686018427387904
  rw [BitVec.toNat_xor]
  generalize (BitVec.ofInt 64 a).toNat ^^^ (BitVec.ofInt 64 b).toNat = m at h3
  rw [IntWalk.i64_in _ (by omega)]
  omega
theorem pick_ok {b : List Int} (hb : RdOk b) {p n : Int} (hp : 0 ≤ p ∧ p ≤ 1000000) (hn : 1 ≤ n ∧ n ≤ 1000000) :
    p_spec_l6Rd_pick (b, p) n ∧ (v_spec_l6Rd_pick (b, p) n).2 = p + 1 ∧ 0 ≤ (v_spec_l6Rd_pick (b, p) n).1 ∧ (v_spec_l6Rd_pick (b, p) n).1 < n := by
  have h1 : ar .add .i64 p 1 = p + 1 := ar_add (by omega)
  have h2 : ar .sub .i64 (p + 1) 1 = p := by rw [ar_sub (by omega)]; omega
  have hlt : cmp .lss n 1 = false := by rw [cmp_lss']; simp; omega
  have hn0 : n ≠ 0 := by omega
  have hlen := hb.len
  have hlb : lenI .byte b = (b.length : Int) := rfl
  simp only [p_spec_l6Rd_pick, v_spec_l6Rd_pick, spec_l6Rd_pick_b_ob, spec_l6Rd_pick_b, spec_l6Rd_pick_b_t, Tr.val, Tr.ob, AllP]
  simp only [h1, h2, hlt, cond_false, cmp_eql', hlb, rdByt_eq]
  by_cases h0 : (b.length : Int) = 0
  · simp only [h0, decide_true, ocR]
    refine ⟨by simp, trivial, Int.le_refl _, by omega⟩
  · have hL : 1 ≤ (b.length : Int) := by omega
    have hbne : b ≠ [] := by rintro rfl; exact h0 rfl
    by_cases h3 : p < (b.length : Int)
    · have hc : cmp .lss p (b.length : Int) = true := by rw [cmp_lss']; simpa using h3
      simp only [h0, decide_false, hc, ocR]
      have hx := rd_byte hb p
      rw [IntWalk.i64_in _ (by omega)]
      exact ⟨by simp [inb, hp.1, h3, hn0], trivial, Int.tmod_nonneg _ hx.1, Int.tmod_lt_of_pos _ (by omega)⟩
    · have hc : cmp .lss p (b.length : Int) = false := by rw [cmp_lss']; simpa using h3
      have hm : ar .mul .i64 p 7 = p * 7 := ar_mul (by omega)
      have hm3 : ar .add .i64 (p * 7) 3 = p * 7 + 3 := ar_add (by omega)
      simp only [h0, decide_false, hc, ocR, hm, hm3, ar_rem]
      have i1 : inb (p.tmod b.length) b.length := ⟨Int.tmod_nonneg _ hp.1, Int.tmod_lt_of_pos _ (by omega)⟩
      have i2 : inb ((p * 7 + 3).tmod b.length) b.length := ⟨Int.tmod_nonneg _ (by omega), Int.tmod_lt_of_pos _ (by omega)⟩
      refine ⟨by simp [hbne, i1, i2, hn0], trivial, ?_⟩
      have x1 := rd_byte hb (p.tmod b.length)
      have x2 := rd_byte hb ((p * 7 + 3).tmod b.length)
      generalize rdByt b (p.tmod b.length) = y1 at x1 ⊢
      generalize rdByt b ((p * 7 + 3).tmod b.length) = y2 at x2 ⊢
      rw [IntWalk.i64_in y1 (by omega), IntWalk.i64_in y2 (by omega)]
      have m1 : ar .mul .i64 y1 131 = y1 * 131 := ar_mul (by omega)
      have m2 : ar .mul .i64 y2 1117 = y2 * 1117 := ar_mul (by omega)
      have m3 : ar .mul .i64 p 29 = p * 29 := ar_mul (by omega)
      have m4 : ar .quo .i64 p b.length = p / b.length := ar_quo (by omega)
      have q0 : 0 ≤ p / (b.length : Int) := Int.ediv_nonneg hp.1 (by omega)
      have q1 : p / (b.length : Int) ≤ p := Int.ediv_le_self _ hp.1
      rw [m4]
      generalize p / (b.length : Int) = pl at q0 q1 ⊢
      have m5 : ar .mul .i64 pl 53 = pl * 53 := ar_mul (by omega)
      simp only [m1, m2, m3, m5]
      rw [ar_add (a := y1 * 131) (b := y2 * 1117) (by omega), ar_add (a := y1 * 131 + y2 * 1117) (b := p * 29) (by omega), ar_add (a := y1 * 131 + y2 * 1117 + p * 29) (b := pl * 53) (by omega)]
      have hX : 0 ≤ y1 * 131 + y2 * 1117 + p * 29 + pl * 53 ∧ y1 * 131 + y2 * 1117 + p * 29 + pl * 53 ≤ 1000000000000 := by omega
      generalize y1 * 131 + y2 * 1117 + p * 29 + pl * 53 = X at hX ⊢
      rw [ar_quo (by omega)]
      have hxr := xr_bound (a := X) (b := X / 64) (by omega) (by omega)
      exact ⟨Int.tmod_nonneg _ hxr.1, Int.tmod_lt_of_pos _ (by omega)⟩
theorem l6Open_ok {c : List Int} (hc : ∀ x ∈ c, 0 ≤ x ∧ x ≤ 255) : p_spec_l6Open c ∧ ∃ b, v_spec_l6Open c = (b, 0) ∧ RdOk b := by
  have hl : lenI .byte c = (c.length : Int) := rfl
  simp only [p_spec_l6Open, v_spec_l6Open, spec_l6Open_b_ob, spec_l6Open_b, spec_l6Open_c1_ob, spec_l6Open_c1, spec_l6Open_b_t, spec_l6Open_c1_S, spec_l6Open_c1_t, Tr.val, Tr.ob, AllP]
  by_cases h : 2000 < (c.length : Int)
  · have hg : cmp .gtr (lenI .byte c) 2000 = true := by rw [cmp_gtr', hl]; simpa using h
    have h3 : le3 0 2000 (lenI .byte c) := ⟨by omega, by omega, by rw [hl]; omega⟩
    simp only [hg, ocR]
    exact ⟨by simp [h3], _, rfl, fun x hx => hc x (List.mem_of_mem_take (List.mem_of_mem_drop hx)), by simp; omega⟩
  · have hg : cmp .gtr (lenI .byte c) 2000 = false := by rw [cmp_gtr', hl]; simpa using h
    simp only [hg, ocR]
    exact ⟨by simp, _, rfl, hc, by omega⟩
theorem l71Time_ok {b : List Int} (hb : RdOk b) {p : Int} (hp : 0 ≤ p ∧ p ≤ 900000) :
    p_spec_l71Time (b, p) ∧ (v_spec_l71Time (b, p)).2 = p + 3 := by
  obtain ⟨a1, a2, a3, a4⟩ := pick_ok hb (p := p) (n := 10) (by omega) (by omega)
  obtain ⟨b1, b2, b3, b4⟩ := pick_ok hb (p := p + 1) (n := 8) (by omega) (by omega)
  obtain ⟨c1, c2, c3, c4⟩ := pick_ok hb (p := p + 1 + 1) (n := 8) (by omega) (by omega)
  obtain ⟨d1, d2, d3, d4⟩ := pick_ok hb (p := p + 1) (n := 4) (by omega) (by omega)
  obtain ⟨e1, e2, e3, e4⟩ := pick_ok hb (p := p + 1 + 1) (n := 4) (by omega) (by omega)
  simp only [p_spec_l71Time, v_spec_l71Time, spec_l71Time_b_ob, spec_l71Time_b, spec_l71Time_b_t, Tr.val, Tr.ob, AllP]
  simp only [a2, b2, d2]
  cases h : cmp .eql (v_spec_l6Rd_pick (b, p) 10).1 0 with
  | true => simp only [ocR, c2]; exact ⟨⟨⟨a1, trivial⟩, (fun _ => ⟨⟨b1, c1, trivial⟩, trivial⟩), fun h => by cases h⟩, by omega⟩
  | false => simp only [ocR, e2]; exact ⟨⟨⟨a1, trivial⟩, (fun h => by cases h), fun _ => ⟨⟨d1, e1, trivial⟩, trivial⟩⟩, by omega⟩
theorem l71Row_ok {b : List Int} (hb : RdOk b) {p : Int} (hp : 0 ≤ p ∧ p ≤ 800000) :
    p_spec_l71Row (b, p) ∧ (v_spec_l71Row (b, p)).2 = p + 6 ∧ -3 ≤ (v_spec_l71Row (b, p)).1.Diff ∧ (v_spec_l71Row (b, p)).1.Diff ≤ 3 := by
  obtain ⟨a1, a2, a3, a4⟩ := pick_ok hb (p := p) (n := 4) (by omega) (by omega)
  obtain ⟨b1, b2, b3, b4⟩ := pick_ok hb (p := p + 1) (n := 9) (by omega) (by omega)
  obtain ⟨c1, c2⟩ := l71Time_ok hb (p := p + 1 + 1) (by omega)
  obtain ⟨d1, d2, d3, d4⟩ := pick_ok hb (p := p + 1 + 1 + 3) (n := 8) (by omega) (by omega)
  simp only [p_spec_l71Row, v_spec_l71Row, spec_l71Row_b_ob, spec_l71Row_b, spec_l71Row_b_t, Tr.val, Tr.ob, AllP]
  simp only [a2, b2, c2, ocR, d2]
  refine ⟨⟨⟨a1, b1, ⟨b3, by show _ < (9 : Int); exact b4⟩, c1, d1, ⟨d3, by show _ < (8 : Int); exact d4⟩, trivial⟩, trivial⟩, by omega, ?_⟩
  generalize (v_spec_l6Rd_pick (b, p + 1 + 1 + 3) 8).1 = i at d3 d4
  have hi : i = 0 ∨ i = 1 ∨ i = 2 ∨ i = 3 ∨ i = 4 ∨ i = 5 ∨ i = 6 ∨ i = 7 := by omega
  rcases hi with rfl | rfl | rfl | rfl | rfl | rfl | rfl | rfl <;> exact ⟨by decide, by decide⟩
end Go.Proofs.Ytopcofkpggefkaa

namespace Go.Proofs.Ytopcofkpggefkaa
open Go
def rK (r : Row) : List Int := [r.Key, r.Val, r.At.A, r.At.B]
def chR (xs : List Row) : List (List Int × Int) := xs.map fun r => (rK r, r.Diff)
def mkR (p : List Int × Int) : Row := match p.1 with
  | [k, v, a, b] => ⟨k, v, ⟨a, b⟩, p.2⟩
  | _ => ⟨0, 0, ⟨0, 0⟩, 0⟩
def gathR (xs : List Row) : List Row := (gathM (chR xs)).map mkR
theorem chR_keyd (xs : List Row) : Keyd 4 (chR xs) := by
  intro p hp
  obtain ⟨r, _, rfl⟩ := List.mem_map.1 hp
  rfl
theorem l2Comp_c2_ok (x y : List Int) (h : x.length = y.length) (hl : x.length < 1099511627776) :
    spec_l2Comp_c2_ob x y ∧ spec_l2Comp_c2 x y = if ltK x y = true then .r (-1) else if ltK y x = true then .r 1 else .x () := by
  have hz : (x.zip y).length = x.length := by rw [List.length_zip]; omega
  suffices key : ∃ q, Runs (fun s => ocLp ((fun (s : Int) => spec_l2Comp_c2_r x y s) s)) (fun s => spec_l2Comp_c2_r_ob x y s) 0 q ∧ q = if ltK x y = true then .r (-1) else if ltK y x = true then .r 1 else .x () by
    obtain ⟨q, h1, h2⟩ := key
    exact ⟨h1.t, h1.v.trans h2⟩
  refine Runs.list (x.zip y) (fun i (_ : Unit) => (i : Int))
    (fun l _ => ltK x y = ltK (x.drop l.length) (y.drop l.length) ∧ ltK y x = ltK (y.drop l.length) (x.drop l.length))
    (b0 := ()) rfl ⟨rfl, rfl⟩ ?_ ?_
  · rintro l ⟨u, v⟩ r ⟨⟩ hx ⟨i1, i2⟩
    have hlen : l.length < x.length := by rw [← hz, hx]; simp
    have hg : (x.zip y)[l.length]? = some (u, v) := by rw [hx]; simp
    rw [List.getElem?_zip_eq_some] at hg
    have hu : rd .int x (l.length : Int) = u := by
      show x.getD (Int.toNat l.length) 0 = u
      rw [Int.toNat_natCast, List.getD_eq_getElem?_getD, hg.1]; rfl
    have hv : rd .int y (l.length : Int) = v := by
      show y.getD (Int.toNat l.length) 0 = v
      rw [Int.toNat_natCast, List.getD_eq_getElem?_getD, hg.2]; rfl
    have hdx : x.drop l.length = u :: x.drop (l.length + 1) := by
      rw [List.drop_eq_getElem_cons hlen]
      congr 1
      have := hg.1
      rw [List.getElem?_eq_getElem hlen] at this
      exact Option.some.inj this
    have hdy : y.drop l.length = v :: y.drop (l.length + 1) := by
      rw [List.drop_eq_getElem_cons (by omega)]
      congr 1
      have := hg.2
      rw [List.getElem?_eq_getElem (by omega)] at this
      exact Option.some.inj this
    rw [hdx, hdy] at i1 i2
    have hlss : cmp .lss (l.length : Int) (lenI .int x) = true := by rw [cmp_lss']; simp [lenI]; omega
    have hi1 : inb (l.length : Int) (lenI .int x) := ⟨by omega, by simp [lenI]; omega⟩
    have hi2 : inb (l.length : Int) (lenI .int y) := ⟨by omega, by simp [lenI]; omega⟩
    refine ⟨by simp [spec_l2Comp_c2_r_ob, hlss, hi1, hi2, spec_l2Comp_c2_r_t, Tr.ob, AllP], ?_⟩
    show ((∃ b', ocLp (spec_l2Comp_c2_r x y (l.length : Int)) = _ ∧ _) ∨ ∃ q, ocLp (spec_l2Comp_c2_r x y (l.length : Int)) = _ ∧ _)
    simp only [spec_l2Comp_c2_r, spec_l2Comp_c2_r_t, Tr.val]
    rw [hlss, hu, hv, succ_mid (l := l) (by omega)]
    rcases Int.lt_trichotomy u v with c | c | c
    · right
      refine ⟨.r (-1), by rw [show cmp .lss u v = true by rw [cmp_lss']; simpa using c]; rfl, ?_⟩
      rw [if_pos (by rw [i1]; simp [ltK, c])]
    · left
      subst c
      refine ⟨(), by rw [show cmp .lss u u = false by rw [cmp_lss']; simp, show cmp .gtr u u = false by rw [cmp_gtr']; simp]; rfl, ?_⟩
      rw [List.length_append, List.length_singleton, i1, i2]
      simp [ltK]
    · right
      refine ⟨.r 1, by rw [show cmp .lss u v = false by rw [cmp_lss']; simp; omega, show cmp .gtr u v = true by rw [cmp_gtr']; simpa using c]; rfl, ?_⟩
      rw [if_neg (by rw [i1]; simp [ltK]; omega), if_pos (by rw [i2]; simp [ltK, c])]
  · rintro ⟨⟩ ⟨i1, i2⟩
    have hlss : cmp .lss ((x.zip y).length : Int) (lenI .int x) = false := by rw [cmp_lss', hz]; simp [lenI]
    refine ⟨by simp only [spec_l2Comp_c2_r_ob, hlss, spec_l2Comp_c2_r_t, Tr.ob, AllP]; simp, .x (), ?_, ?_⟩
    · show ocLp (spec_l2Comp_c2_r x y ((x.zip y).length : Int)) = _
      simp only [spec_l2Comp_c2_r, spec_l2Comp_c2_r_t, Tr.val]
      rw [hlss]; rfl
    · rw [hz, List.drop_length, show x.length = y.length from h, List.drop_length] at i1 i2
      rw [i1, i2]; rfl
theorem l2Comp_ok (a b : Row) : p_spec_l2Comp a b ∧ v_spec_l2Comp a b = if ltK (rK a) (rK b) = true then -1 else if ltK (rK b) (rK a) = true then 1 else 0 := by
  obtain ⟨h1, h2⟩ := l2Comp_c2_ok (rK a) (rK b) rfl (by simp [rK])
  unfold rK at h1 h2 ⊢
  simp only [p_spec_l2Comp, v_spec_l2Comp, spec_l2Comp_b_ob, spec_l2Comp_b, spec_l2Comp_c1_ob, spec_l2Comp_c1, spec_l2Comp_b_t, spec_l2Comp_c1_S, spec_l2Comp_c1_t, spec_l2Comp_c2_S, lpS, Tr.val, Tr.ob]
  rw [h2]
  refine ⟨by simp [h1], ?_⟩
  by_cases c1 : ltK [a.Key, a.Val, a.At.A, a.At.B] [b.Key, b.Val, b.At.A, b.At.B] = true
  · rw [if_pos c1, if_pos c1]; rfl
  · rw [if_neg c1, if_neg c1]
    by_cases c2 : ltK [b.Key, b.Val, b.At.A, b.At.B] [a.Key, a.Val, a.At.A, a.At.B] = true
    · rw [if_pos c2, if_pos c2]; rfl
    · rw [if_neg c2, if_neg c2]; rfl
def putR (r : Row) : List Row → List Row
  | [] => [r]
  | y :: ys => if ltK (rK r) (rK y) = true then r :: y :: ys else if rK y = rK r then ⟨r.Key, r.Val, ⟨r.At.A, r.At.B⟩, ar .add .i64 r.Diff y.Diff⟩ :: ys else y :: putR r ys
theorem chR_putR (r : Row) : ∀ ys : List Row, chR (putR r ys) = insP (rK r, r.Diff) (chR ys)
  | [] => rfl
  | y :: ys => by
    simp only [putR, chR, List.map_cons, insP]
    split
    · rfl
    · split
      · rfl
      · have := chR_putR r ys
        unfold chR at this
        rw [List.map_cons, this]
theorem putR_len (r : Row) : ∀ ys : List Row, (putR r ys).length ≤ ys.length + 1
  | [] => Nat.le_refl _
  | y :: ys => by
    have := putR_len r ys
    simp only [putR]
    split
    · simp
    · split <;> simp <;> omega
theorem l2Put_ok (xs : List Row) (r : Row) (hl : xs.length < 1000000000000) : p_spec_l2Put xs r ∧ v_spec_l2Put xs r = putR r xs := by
  suffices key : ∃ q, Runs (fun s => ocLp ((fun (s : Int × (List Row) × Bool × Int) => spec_l2Put_c2_r xs r s.1 s.2.1 s.2.2.1 s.2.2.2) s)) (fun s => spec_l2Put_c2_r_ob xs r s.1 s.2.1 s.2.2.1 s.2.2.2) (r.Diff, [], false, 0) q ∧
      ∃ d out done, q = .x (d, out, done) ∧ out.length ≤ xs.length + 1 ∧ ((done = false ∧ out ++ [⟨r.Key, r.Val, ⟨r.At.A, r.At.B⟩, d⟩] = putR r xs) ∨ (done = true ∧ out = putR r xs)) by
    obtain ⟨q, h1, h2⟩ := key
    obtain ⟨d, out, done, rfl, hlo, hd⟩ := h2
    have hc2 : spec_l2Put_c2 xs r = .x (d, out, done) := h1.v
    have ho2 : spec_l2Put_c2_ob xs r := h1.t
    have hlim : ∀ y : Row, lim (lenI .row out) (lenI .row [y]) := fun y => by simp [lim, lenI]; omega
    simp only [p_spec_l2Put, v_spec_l2Put, spec_l2Put_b_ob, spec_l2Put_b, spec_l2Put_c1_ob, spec_l2Put_c1, spec_l2Put_b_t, spec_l2Put_c1_S, spec_l2Put_c5_S, spec_l2Put_c1_t, spec_l2Put_c2_S, lpS, Tr.val, Tr.ob]
    rw [hc2]
    rcases hd with ⟨rfl, hd⟩ | ⟨rfl, hd⟩
    · simp only [spec_l2Put_c5, spec_l2Put_c5_ob, Bool.not_false, ocR, spec_l2Put_c5_t, Tr.val, Tr.ob, AllP]
      exact ⟨by simp [ho2, hlim], hd⟩
    · simp only [spec_l2Put_c5, spec_l2Put_c5_ob, Bool.not_true, ocR, spec_l2Put_c5_t, Tr.val, Tr.ob, AllP]
      exact ⟨by simp [ho2], hd⟩
  refine Runs.list
    xs (fun i (b : Int × List Row × Bool) => (b.1, b.2.1, b.2.2, (i : Int)))
    (fun l b => b.2.1.length ≤ l.length + 1 ∧ ((b.2.2 = false ∧ b.1 = r.Diff ∧ b.2.1 = l ∧ ∀ rest, putR r (l ++ rest) = l ++ putR r rest) ∨ (b.2.2 = true ∧ ∀ rest, putR r (l ++ rest) = b.2.1 ++ rest)))
    (b0 := (r.Diff, [], false)) rfl ⟨by simp, .inl ⟨rfl, rfl, rfl, fun _ => rfl⟩⟩ ?_ ?_
  · rintro l x rest ⟨d, out, done⟩ hx ⟨hlo, hI⟩
    have hlen : xs.length = l.length + (rest.length + 1) := by rw [hx]; simp
    have hrd : rd .row xs (l.length : Int) = x := by rw [hx]; exact rd_mid
    have hin : inb (l.length : Int) (lenI .row xs) := by rw [hx]; exact inb_mid (t := .row)
    have hlss : cmp .lss (l.length : Int) (lenI .row xs) = true := by rw [hx]; exact lss_mid
    have hlim : ∀ (o : List Row) (y : Row), o.length ≤ out.length + 1 → lim (lenI .row o) (lenI .row [y]) := fun o y ho => by simp only [lim, lenI, List.length_singleton] at *; omega
    have hrk : ∀ d, rK (Row.mk r.Key r.Val (Time.mk r.At.A r.At.B) d) = rK r := fun _ => rfl
    obtain ⟨pc, vc⟩ := l2Comp_ok x (Row.mk r.Key r.Val (Time.mk r.At.A r.At.B) d)
    rw [hrk] at vc
    have hlo : out.length ≤ l.length + 1 := hlo
    show spec_l2Put_c2_r_ob xs r d out done (l.length : Int) ∧ ((∃ b', ocLp (spec_l2Put_c2_r xs r d out done (l.length : Int)) = _ ∧ _) ∨ _)
    simp only [spec_l2Put_c2_r_ob, spec_l2Put_c2_r, spec_l2Put_c3_ob, spec_l2Put_c3, spec_l2Put_c4_ob, spec_l2Put_c4, spec_l2Put_c2_r_t, spec_l2Put_c3_S, spec_l2Put_c3_t, spec_l2Put_c4_S, spec_l2Put_c4_t, Tr.val, Tr.ob, AllP]
    rw [hlss, hrd, succ_mid (l := l) (by omega)]
    generalize hc : v_spec_l2Comp x (Row.mk r.Key r.Val (Time.mk r.At.A r.At.B) d) = c at vc
    have hi0 := hlim out x (by omega)
    have hi1 := fun y => hlim out y (by omega)
    have hi2 := fun y z => hlim (out ++ [y]) z (by simp)
    rcases hI with ⟨rfl, h2, h3, h4⟩ | ⟨rfl, h4⟩
    · have h2 : d = r.Diff := h2
      have h3 : out = l := h3
      subst h2 h3
      by_cases k1 : ltK (rK x) (rK r) = true
      · rw [if_pos k1] at vc
        subst vc
        refine ⟨by simp [cmp_gtr', cmp_eql', hin, pc, hi1], .inl ⟨(r.Diff, out ++ [x], false), by simp [cmp_gtr', cmp_eql', ocLp], ?_⟩⟩
        refine ⟨by simp, .inl ⟨rfl, rfl, rfl, fun rest => ?_⟩⟩
        rw [List.append_assoc, h4]
        have n1 : ¬ ltK (rK r) (rK x) = true := fun h => by have := ltK_trans k1 h; rw [ltK_irrefl] at this; cases this
        have n2 : ¬ rK x = rK r := fun h => by rw [h, ltK_irrefl] at k1; cases k1
        show out ++ putR r (x :: rest) = _
        simp [putR, n1, n2]
      · rw [if_neg k1] at vc
        by_cases k2 : ltK (rK r) (rK x) = true
        · rw [if_pos k2] at vc
          subst vc
          refine ⟨by simp [cmp_gtr', cmp_eql', hin, pc, hi1, hi2], .inl ⟨(r.Diff, out ++ [r] ++ [x], true), by simp [cmp_gtr', cmp_eql', ocLp], ?_⟩⟩
          refine ⟨by simp, .inr ⟨rfl, fun rest => ?_⟩⟩
          rw [List.append_assoc, h4]
          show out ++ putR r (x :: rest) = _
          simp [putR, k2]
        · rw [if_neg k2] at vc
          subst vc
          have he : rK x = rK r := by
            by_cases e : rK x = rK r
            · exact e
            · rcases ltK_total (a := rK x) (b := rK r) rfl e with h | h
              · exact absurd h k1
              · exact absurd h k2
          refine ⟨by simp [cmp_gtr', cmp_eql', hin, pc, hi1], .inl ⟨(ar .add .i64 r.Diff x.Diff, out ++ [⟨r.Key, r.Val, ⟨r.At.A, r.At.B⟩, ar .add .i64 r.Diff x.Diff⟩], true), by simp [cmp_gtr', cmp_eql', ocLp], ?_⟩⟩
          refine ⟨by simp, .inr ⟨rfl, fun rest => ?_⟩⟩
          rw [List.append_assoc, h4]
          show out ++ putR r (x :: rest) = _
          simp [putR, he, ltK_irrefl]
    · refine ⟨by simp [hin, pc, hi1], .inl ⟨(d, out ++ [x], true), by simp [ocLp], ?_⟩⟩
      refine ⟨by simp; omega, .inr ⟨rfl, fun rest => ?_⟩⟩
      rw [List.append_assoc, h4]
      simp
  · rintro ⟨d, out, done⟩ ⟨hlo, hI⟩
    have hlss : cmp .lss (xs.length : Int) (lenI .row xs) = false := lss_end
    show spec_l2Put_c2_r_ob xs r d out done (xs.length : Int) ∧ ∃ q, ocLp (spec_l2Put_c2_r xs r d out done (xs.length : Int)) = _ ∧ _
    simp only [spec_l2Put_c2_r_ob, spec_l2Put_c2_r, spec_l2Put_c2_r_t, spec_l2Put_c3_S, Tr.val, Tr.ob]
    rw [hlss]
    refine ⟨by simp, _, rfl, d, out, done, rfl, hlo, ?_⟩
    rcases hI with ⟨h1, h2, h3, h4⟩ | ⟨h1, h4⟩
    · have h2 : d = r.Diff := h2
      have h3 : out = xs := h3
      have := h4 []
      rw [List.append_nil] at this
      exact .inl ⟨h1, by rw [h2, h3, this]; rfl⟩
    · have := h4 []
      rw [List.append_nil, List.append_nil] at this
      exact .inr ⟨h1, this.symm⟩
theorem chR_foldl (xs : List Row) : ∀ s : List Row, chR (xs.foldl (fun s x => putR x s) s) = (chR xs).foldl (fun m q => insP q m) (chR s) := by
  induction xs with
  | nil => exact fun _ => rfl
  | cons x r ih =>
    intro s
    rw [List.foldl_cons, ih, chR_putR]; rfl
theorem foldl_putR_len (xs : List Row) : ∀ s : List Row, (xs.foldl (fun s x => putR x s) s).length ≤ s.length + xs.length := by
  induction xs with
  | nil => exact fun _ => by simp
  | cons x r ih =>
    intro s
    have h1 := ih (putR x s)
    have h2 := putR_len x s
    rw [List.foldl_cons, List.length_cons]
    omega
/-- Numbers that fit. -/
def InR (n : Int) : Prop := -9223372036854775808 ≤ n ∧ n ≤ 9223372036854775807
theorem putR_gathR {xs : List Row} (hr : ∀ x ∈ xs, InR x.Diff) : (xs.foldl (fun s x => putR x s) []).filter (fun x => x.Diff != 0) = gathR xs := by
  have h1 : chR (xs.foldl (fun s x => putR x s) []) = accP (chR xs) := chR_foldl xs []
  have h2 := accP_gathM (chR_keyd xs) (fun q hq => by
    obtain ⟨r, hr', rfl⟩ := List.mem_map.1 hq
    exact IntWalk.i64_in _ (hr r hr'))
  have h3 : ((chR (xs.foldl (fun s x => putR x s) [])).filter (fun p => p.2 != 0)).map mkR = ((accP (chR xs)).filter (fun p => p.2 != 0)).map mkR := by rw [h1]
  rw [h2] at h3
  unfold gathR
  rw [← h3]
  unfold chR
  rw [List.filter_map, List.map_map]
  exact ((List.map_congr_left fun x _ => rfl).trans (List.map_id _)).symm
theorem gathR_len {xs : List Row} (hr : ∀ x ∈ xs, InR x.Diff) : (gathR xs).length ≤ xs.length := by
  rw [← putR_gathR hr]
  have := foldl_putR_len xs []
  have h2 := List.length_filter_le (fun x : Row => x.Diff != 0) (xs.foldl (fun s x => putR x s) [])
  simp at this
  omega
theorem l2Sum_ok (xs : List Row) (hl : xs.length < 1000000000) (hr : ∀ x ∈ xs, InR x.Diff) : p_spec_l2Sum xs ∧ v_spec_l2Sum xs = gathR xs := by
  have k2 : Runs (fun s => ocLp ((fun (s : (List Row) × Int) => spec_l2Sum_c2_r xs s.1 s.2) s)) (fun s => spec_l2Sum_c2_r_ob xs s.1 s.2) ([], 0) (.x (xs.foldl (fun s x => putR x s) [])) := by
    refine Runs.fold xs (fun i b => (b, (i : Int))) (fun l => l.foldl (fun s x => putR x s) []) rfl (fun l x r hx => ?_) ?_
    · have hlen : xs.length = l.length + (r.length + 1) := by rw [hx]; simp
      have hfl := foldl_putR_len l []
      simp at hfl
      obtain ⟨p1, p2⟩ := l2Put_ok (l.foldl (fun s x => putR x s) []) x (by omega)
      have hrd : rd .row xs (l.length : Int) = x := by rw [hx]; exact rd_mid
      have hin : inb (l.length : Int) (lenI .row xs) := by rw [hx]; exact inb_mid (t := .row)
      have hlss : cmp .lss (l.length : Int) (lenI .row xs) = true := by rw [hx]; exact lss_mid
      simp only [spec_l2Sum_c2_r_ob, spec_l2Sum_c2_r, hlss, hrd, succ_mid (l := l) (by omega), p2, spec_l2Sum_c2_r_t, Tr.val, Tr.ob, AllP]
      exact ⟨by simp [hin, p1], by simp [ocLp]⟩
    · have hend : cmp .lss (xs.length : Int) (lenI .row xs) = false := lss_end (t := .row)
      simp only [spec_l2Sum_c2_r_ob, spec_l2Sum_c2_r, hend, spec_l2Sum_c2_r_t, Tr.val, Tr.ob, AllP]
      exact ⟨by simp, rfl⟩
  have hfl := foldl_putR_len xs []
  simp at hfl
  generalize hys : xs.foldl (fun s x => putR x s) [] = ys at k2 hfl
  have k4 : Runs (fun s => ocLp ((fun (s : (List Row) × Int) => spec_l2Sum_c4_r ys s.1 s.2) s)) (fun s => spec_l2Sum_c4_r_ob ys s.1 s.2) ([], 0) (.x (ys.filter (fun x => x.Diff != 0))) := by
    refine Runs.fold ys (fun i b => (b, (i : Int))) (fun l => l.filter (fun x => x.Diff != 0)) rfl (fun l x r hx => ?_) ?_
    · have hlen : ys.length = l.length + (r.length + 1) := by rw [hx]; simp
      have hfl := List.length_filter_le (fun x : Row => x.Diff != 0) l
      have hrd : rd .row ys (l.length : Int) = x := by rw [hx]; exact rd_mid
      have hin : inb (l.length : Int) (lenI .row ys) := by rw [hx]; exact inb_mid (t := .row)
      have hlss : cmp .lss (l.length : Int) (lenI .row ys) = true := by rw [hx]; exact lss_mid
      have hlim : lim (lenI .row (l.filter (fun x => x.Diff != 0))) (lenI .row [x]) := lim_one (t := .row) (show (l.filter (fun x : Row => x.Diff != 0)).length < 1099511627776 by omega)
      simp only [spec_l2Sum_c4_r_ob, spec_l2Sum_c4_r, spec_l2Sum_c5_ob, spec_l2Sum_c5, hlss, hrd, succ_mid (l := l) (by omega), cmp_neq', spec_l2Sum_c4_r_t, spec_l2Sum_c5_S, spec_l2Sum_c5_t, Tr.val, Tr.ob, AllP]
      by_cases h0 : x.Diff = 0
      · simp only [h0, decide_true, Bool.not_true]
        exact ⟨by simp [hin], by simp [ocLp, h0, List.filter_append]⟩
      · simp only [h0, decide_false, Bool.not_false]
        exact ⟨by simp [hin, hlim], by simp [ocLp, h0, List.filter_append]⟩
    · have hend : cmp .lss (ys.length : Int) (lenI .row ys) = false := lss_end (t := .row)
      simp only [spec_l2Sum_c4_r_ob, spec_l2Sum_c4_r, hend, spec_l2Sum_c4_r_t, spec_l2Sum_c5_S, Tr.val, Tr.ob]
      exact ⟨by simp, rfl⟩
  have a2 : spec_l2Sum_c2 xs = .x ys := k2.v
  have b2 : spec_l2Sum_c2_ob xs := k2.t
  have a4 : spec_l2Sum_c4 ys = .x (ys.filter (fun x => x.Diff != 0)) := k4.v
  have b4 : spec_l2Sum_c4_ob ys := k4.t
  rw [← putR_gathR hr, hys]
  simp only [p_spec_l2Sum, v_spec_l2Sum, spec_l2Sum_b_ob, spec_l2Sum_b, spec_l2Sum_c1_ob, spec_l2Sum_c1, spec_l2Sum_c3_ob, spec_l2Sum_c3, a2, a4, ocR, spec_l2Sum_b_t, spec_l2Sum_c1_S, spec_l2Sum_c3_S, spec_l2Sum_c1_t, spec_l2Sum_c2_S, spec_l2Sum_c3_t, spec_l2Sum_c4_S, lpS, Tr.val, Tr.ob]
  exact ⟨by simp [b2, b4], trivial⟩
def itR (x : Item) : Row := ⟨x.Key, x.Val, ⟨0, 0⟩, x.Count⟩
def rIt (x : Row) : Item := ⟨x.Key, x.Val, x.Diff⟩
theorem ltK_snoc : ∀ (a b : List Int), a.length = b.length → ltK (a ++ [0]) (b ++ [0]) = ltK a b
  | [], [], _ => by simp [ltK]
  | a :: r, b :: r', h => by simp only [List.cons_append, ltK]; rw [ltK_snoc r r' (by simpa using h)]
  | [], _ :: _, h => by simp at h
  | _ :: _, [], h => by simp at h
theorem chI_keyd (xs : List Item) : Keyd 3 (chI xs) := by
  intro p hp
  obtain ⟨r, _, rfl⟩ := List.mem_map.1 hp
  rfl
theorem gathI_key {xs : List Item} {p : List Int × Int} (hp : p ∈ gathM (chI xs)) : ∃ x ∈ xs, p.1 = kI x := by
  obtain ⟨h1, h2⟩ := mem_gathM.1 hp
  obtain ⟨q, hq, e⟩ := sumK_key (h1 ▸ h2)
  obtain ⟨x, hx, rfl⟩ := List.mem_map.1 hq
  exact ⟨x, hx, e.symm⟩
theorem gathR_itR (xs : List Item) : (gathR (xs.map itR)).map rIt = gathI xs := by
  have h1 : chR (xs.map itR) = (chI xs).map fun q => (q.1 ++ [0], q.2) := by
    unfold chR chI
    rw [List.map_map, List.map_map]
    rfl
  unfold gathR gathI
  rw [h1, gathM_map (n := 3) (m := 4) (f := fun k => k ++ [0]) (fun a b h => List.append_cancel_right h) (fun k h => by simp [h]) (fun a b ha hb => ltK_snoc a b (ha.trans hb.symm)) (chI_keyd xs), List.map_map, List.map_map]
  refine List.map_congr_left fun p hp => ?_
  obtain ⟨x, _, e⟩ := gathI_key hp
  show rIt (mkR (p.1 ++ [0], p.2)) = mkI p
  obtain ⟨k, d⟩ := p
  have e : k = kI x := e
  subst e
  rfl
theorem l2Items_ok (xs : List Item) (hl : xs.length < 100000000) (hr : ∀ x ∈ xs, InR x.Count) : p_spec_l2Items xs ∧ v_spec_l2Items xs = gathI xs := by
  have k2 : Runs (fun s => ocLp ((fun (s : (List Row) × Int) => spec_l2Items_c2_r xs s.1 s.2) s)) (fun s => spec_l2Items_c2_r_ob xs s.1 s.2) ([], 0) (.x (xs.map itR)) := by
    refine Runs.fold xs (fun i b => (b, (i : Int))) (fun l => l.map itR) rfl (fun l x r hx => ?_) ?_
    · have hlen : xs.length = l.length + (r.length + 1) := by rw [hx]; simp
      have hrd : rd .item xs (l.length : Int) = x := by rw [hx]; exact rd_mid
      have hin : inb (l.length : Int) (lenI .item xs) := by rw [hx]; exact inb_mid (t := .item)
      have hlss : cmp .lss (l.length : Int) (lenI .item xs) = true := by rw [hx]; exact lss_mid
      have hlim : ∀ y, lim (lenI .row (l.map itR)) (lenI .row [y]) := fun y => by simp only [lim, lenI, List.length_singleton, List.length_map]; omega
      simp only [spec_l2Items_c2_r_ob, spec_l2Items_c2_r, hlss, hrd, succ_mid (l := l) (by omega), spec_l2Items_c2_r_t, Tr.val, Tr.ob, AllP]
      exact ⟨by simp [hin, hlim], by simp [ocLp, itR]⟩
    · have hend : cmp .lss (xs.length : Int) (lenI .item xs) = false := lss_end (t := .item)
      simp only [spec_l2Items_c2_r_ob, spec_l2Items_c2_r, hend, spec_l2Items_c2_r_t, Tr.val, Tr.ob, AllP]
      exact ⟨by simp, rfl⟩
  have hr' : ∀ y ∈ xs.map itR, InR y.Diff := by
    intro y hy
    obtain ⟨x, hx, rfl⟩ := List.mem_map.1 hy
    exact hr x hx
  obtain ⟨p1, p2⟩ := l2Sum_ok (xs.map itR) (by simp; omega) hr'
  have hgl := gathR_len hr'
  rw [List.length_map] at hgl
  generalize hys : gathR (xs.map itR) = ys at p2 hgl
  have k4 : Runs (fun s => ocLp ((fun (s : (List Item) × Int) => spec_l2Items_c4_r ys s.1 s.2) s)) (fun s => spec_l2Items_c4_r_ob ys s.1 s.2) ([], 0) (.x (ys.map rIt)) := by
    refine Runs.fold ys (fun i b => (b, (i : Int))) (fun l => l.map rIt) rfl (fun l x r hx => ?_) ?_
    · have hlen : ys.length = l.length + (r.length + 1) := by rw [hx]; simp
      have hrd : rd .row ys (l.length : Int) = x := by rw [hx]; exact rd_mid
      have hin : inb (l.length : Int) (lenI .row ys) := by rw [hx]; exact inb_mid (t := .row)
      have hlss : cmp .lss (l.length : Int) (lenI .row ys) = true := by rw [hx]; exact lss_mid
      have hlim : ∀ y, lim (lenI .item (l.map rIt)) (lenI .item [y]) := fun y => by simp only [lim, lenI, List.length_singleton, List.length_map]; omega
      simp only [spec_l2Items_c4_r_ob, spec_l2Items_c4_r, hlss, hrd, succ_mid (l := l) (by omega), spec_l2Items_c4_r_t, Tr.val, Tr.ob, AllP]
      exact ⟨by simp [hin, hlim], by simp [ocLp, rIt]⟩
    · have hend : cmp .lss (ys.length : Int) (lenI .row ys) = false := lss_end (t := .row)
      simp only [spec_l2Items_c4_r_ob, spec_l2Items_c4_r, hend, spec_l2Items_c4_r_t, Tr.val, Tr.ob, AllP]
      exact ⟨by simp, rfl⟩
  have a2 : spec_l2Items_c2 xs = .x (xs.map itR) := k2.v
  have b2 : spec_l2Items_c2_ob xs := k2.t
  have a4 : spec_l2Items_c4 ys = .x (ys.map rIt) := k4.v
  have b4 : spec_l2Items_c4_ob ys := k4.t
  rw [← gathR_itR, hys]
  simp only [p_spec_l2Items, v_spec_l2Items, spec_l2Items_b_ob, spec_l2Items_b, spec_l2Items_c1_ob, spec_l2Items_c1, spec_l2Items_c3_ob, spec_l2Items_c3, a2, p2, a4, ocR, spec_l2Items_b_t, spec_l2Items_c1_S, spec_l2Items_c3_S, spec_l2Items_c1_t, spec_l2Items_c2_S, spec_l2Items_c3_t, spec_l2Items_c4_S, lpS, Tr.val, Tr.ob, AllP]
  exact ⟨by simp [b2, b4, p1, p2], trivial⟩
end Go.Proofs.Ytopcofkpggefkaa

namespace Go.Proofs.Ytopcofkpggefkaa
open Go
def sumT : List (List Int × Int) → List Int → Int
  | [], _ => 0
  | q :: r, k => (if q.1 = k then q.2 else 0) + sumT r k
def absT : List (List Int × Int) → Int
  | [] => 0
  | q :: r => (if 0 ≤ q.2 then q.2 else -q.2) + absT r
theorem absT_nonneg : ∀ l, 0 ≤ absT l
  | [] => Int.le_refl _
  | q :: r => by have := absT_nonneg r; simp only [absT]; split <;> omega
theorem sumT_le : ∀ l k, sumT l k ≤ absT l ∧ -absT l ≤ sumT l k
  | [], k => by simp [sumT, absT]
  | q :: r, k => by
    have := sumT_le r k
    simp only [absT, sumT]
    split <;> split <;> omega
theorem sumK_eq {l : List (List Int × Int)} (h : absT l ≤ 1000000000000000) (k : List Int) : sumK l k = sumT l k := by
  suffices ∀ (l : List (List Int × Int)) (s B : Int), B + absT l ≤ 1000000000000000 → s ≤ B ∧ -B ≤ s → l.foldl (fun s q => if q.1 = k then ar .add .i64 s q.2 else s) s = s + sumT l k by
    have := this l 0 0 (by omega) (by omega)
    unfold sumK
    rw [this, Int.zero_add]
  intro l
  induction l with
  | nil => intro s B _ _; simp [sumT]
  | cons q r ih =>
    intro s B h1 h2
    have hn := absT_nonneg r
    simp only [absT] at h1
    rw [List.foldl_cons]
    have key : ∀ t : Int, (if q.1 = k then ar .add .i64 s q.2 else s) = t → (t = s + (if q.1 = k then q.2 else 0)) → (r.foldl (fun s q => if q.1 = k then ar .add .i64 s q.2 else s) (if q.1 = k then ar .add .i64 s q.2 else s)) = s + sumT (q :: r) k := by
      intro t h3 h4
      rw [h3, ih t (B + (if 0 ≤ q.2 then q.2 else -q.2)) (by split at h1 <;> split <;> omega) (by split at h4 <;> split <;> omega), h4]
      simp only [sumT]
      omega
    refine key _ rfl ?_
    by_cases hq : q.1 = k
    · rw [if_pos hq, if_pos hq, ar_add]
      split at h1 <;> omega
    · rw [if_neg hq, if_neg hq, Int.add_zero]
/-- Counts that are at most 'c'. -/
def Small (c : Int) (xs : List Item) : Prop := ∀ x ∈ xs, -c ≤ x.Count ∧ x.Count ≤ c
theorem Small.mono {c d : Int} {xs : List Item} (h : Small c xs) (hc : c ≤ d) : Small d xs := fun x hx => by have := h x hx; omega
theorem absT_chI {c : Int} : ∀ {xs : List Item}, Small c xs → absT (chI xs) ≤ (xs.length : Int) * c
  | [], _ => by simp [chI, absT]
  | x :: r, h => by
    have h1 := absT_chI (xs := r) (fun y hy => h y (by simp [hy]))
    have h2 := h x (by simp)
    show (if 0 ≤ x.Count then x.Count else -x.Count) + absT (chI r) ≤ _
    rw [List.length_cons, Int.natCast_add, Int.add_mul]
    split <;> omega
theorem gathI_small {c : Int} {xs : List Item} (h : Small c xs) (hb : (xs.length : Int) * c ≤ 1000000000000) : Small ((xs.length : Int) * c) (gathI xs) := by
  intro y hy
  obtain ⟨p, hp, rfl⟩ := List.mem_map.1 hy
  obtain ⟨x, _, e⟩ := gathI_key hp
  obtain ⟨h1, _⟩ := mem_gathM.1 hp
  have h2 := absT_chI h
  have hc : (mkI p).Count = p.2 := by
    obtain ⟨k, d⟩ := p
    have e : k = kI x := e
    subst e; rfl
  rw [hc, h1, sumK_eq (by omega)]
  have := sumT_le (chI xs) p.1
  omega
theorem gathI_len {xs : List Item} (h : ∀ x ∈ xs, InR x.Count) : (gathI xs).length ≤ xs.length := by
  rw [← gathR_itR, List.length_map]
  have := gathR_len (xs := xs.map itR) (fun y hy => by obtain ⟨x, hx, rfl⟩ := List.mem_map.1 hy; exact h x hx)
  simpa using this
theorem Small.inR {c : Int} {xs : List Item} (h : Small c xs) (hc : c ≤ 1000000000000) : ∀ x ∈ xs, InR x.Count := fun x hx => by
  have := h x hx
  unfold InR; omega
theorem l6In_p (a b c : Int) : p_spec_l6In a b c := trivial
theorem l6In_v (a b c : Int) : v_spec_l6In a b c = (decide (b ≤ a) && decide (a ≤ c)) := by
  show cond (cmp .geq a b) (cmp .leq a c) false = _
  rw [cmp_geq', cmp_leq']
  cases decide (b ≤ a) <;> rfl
theorem TimeOk_p (t : Time) : p_spec_TimeOk t := ⟨⟨l6In_p _ _ _, fun _ => l6In_p _ _ _, trivial⟩, trivial⟩
theorem TimeLess_p (s t : Time) : p_spec_TimeLess s t := ⟨⟨TimeOk_p _, fun _ => TimeOk_p _, trivial⟩, trivial⟩
theorem l2Row_p (r : Row) : p_spec_l2Row r := ⟨⟨l6In_p _ _ _, fun _ => l6In_p _ _ _, fun _ => TimeOk_p _, fun _ => l6In_p _ _ _, trivial⟩, trivial⟩
theorem l71Rows_c4_ok {b : List Int} (hb : RdOk b) {p n : Int} (hp : 0 ≤ p ∧ p ≤ 700000) {out : List Row} (hl : out.length ≤ 1000) (hd : ∀ x ∈ out, -3 ≤ x.Diff ∧ x.Diff ≤ 3) {x : Row} (hx : -3 ≤ x.Diff ∧ x.Diff ≤ 3) :
    spec_l71Rows_c4_ob b p out n x ∧ ∃ p' k v d, spec_l71Rows_c4 b p out n x = .n (p', k, v, d) ∧ p ≤ p' ∧ p' ≤ p + 3 ∧ -3 ≤ d ∧ d ≤ 3 := by
  have hL : lenI .row out = (out.length : Int) := rfl
  simp only [spec_l71Rows_c4_ob, spec_l71Rows_c4, spec_l71Rows_c4_t, Tr.val, Tr.ob, AllP]
  simp only [hL, cmp_gtr', cmp_eql']
  by_cases h0 : 0 < (out.length : Int)
  · obtain ⟨a1, a2, a3, a4⟩ := pick_ok hb (p := p) (n := 3) (by omega) (by omega)
    obtain ⟨b1, b2, b3, b4⟩ := pick_ok hb (p := p + 1) (n := (out.length : Int)) (by omega) (by omega)
    obtain ⟨c1, c2, c3, c4⟩ := pick_ok hb (p := p + 1 + 1) (n := 2) (by omega) (by omega)
    have hin : inb (v_spec_l6Rd_pick (b, p + 1) (out.length : Int)).1 (out.length : Int) := ⟨b3, b4⟩
    have hy : -3 ≤ (rd .row out (v_spec_l6Rd_pick (b, p + 1) (out.length : Int)).1).Diff ∧ (rd .row out (v_spec_l6Rd_pick (b, p + 1) (out.length : Int)).1).Diff ≤ 3 := by
      have hlt : (v_spec_l6Rd_pick (b, p + 1) (out.length : Int)).1.toNat < out.length := by omega
      have he : rd .row out (v_spec_l6Rd_pick (b, p + 1) (out.length : Int)).1 = out[(v_spec_l6Rd_pick (b, p + 1) (out.length : Int)).1.toNat] := by
        show out.getD _ _ = _
        rw [List.getD_eq_getElem?_getD, List.getElem?_eq_getElem hlt]; rfl
      rw [he]
      exact hd _ (List.getElem_mem _)
    simp only [h0, decide_true, Bool.and_true, cond_true, a2, b2]
    by_cases e1 : (v_spec_l6Rd_pick (b, p) 3).1 = 0
    · simp only [e1, decide_true]
      by_cases e2 : (v_spec_l6Rd_pick (b, p + 1 + 1) 2).1 = 0
      · simp only [e2, decide_true]
        refine ⟨by simp [a1, b1, c1, hin], _, _, _, _, rfl, by omega, by omega, ?_⟩
        rw [IntWalk.i64_in _ (by omega)]
        omega
      · simp only [e2, decide_false]
        exact ⟨by simp [a1, b1, c1, hin], _, _, _, _, rfl, by omega, by omega, hx⟩
    · simp only [e1, decide_false]
      exact ⟨by simp [a1], _, _, _, _, rfl, by omega, by omega, hx⟩
  · simp only [h0, decide_false, Bool.false_and, cond_false]
    exact ⟨by simp, _, _, _, _, rfl, by omega, by omega, hx⟩
/-- A loop that counts down. -/
theorem Runs.down {σ ρ β : Type} [Inhabited ρ] {step : σ → Lp σ ρ} {ob : σ → Prop} (st : Nat → β → σ) (I : Nat → β → Prop) {Q : ρ → Prop} {n0 : Nat} {b0 : β} {s0 : σ} (hs : st n0 b0 = s0) (h0 : I n0 b0)
    (hgo : ∀ n b, n + 1 ≤ n0 → I (n + 1) b → ob (st (n + 1) b) ∧ ∃ b', step (st (n + 1) b) = .go (st n b') ∧ I n b')
    (hout : ∀ b, I 0 b → ob (st 0 b) ∧ ∃ q, step (st 0 b) = .out q ∧ Q q) : ∃ q, Runs step ob s0 q ∧ Q q := by
  subst hs
  suffices ∀ (n : Nat) (b : β), n ≤ n0 → I n b → ∃ q, Runs step ob (st n b) q ∧ Q q from this n0 b0 (Nat.le_refl _) h0
  intro n
  induction n with
  | zero =>
    intro b _ hI
    obtain ⟨ho, q, h1, h2⟩ := hout b hI
    exact ⟨q, .out ho h1, h2⟩
  | succ n ih =>
    intro b hn hI
    obtain ⟨ho, b', h1, h2⟩ := hgo n b hn hI
    obtain ⟨q, hq, hQ⟩ := ih b' (by omega) h2
    exact ⟨q, .go ho h1 hq, hQ⟩
theorem l71Rows_ok {b : List Int} (hb : RdOk b) {p m : Int} (hp : 0 ≤ p ∧ p ≤ 500000) (hm : 0 ≤ m ∧ m ≤ 100) :
    p_spec_l71Rows (b, p) m ∧ p ≤ (v_spec_l71Rows (b, p) m).2 ∧ (v_spec_l71Rows (b, p) m).2 ≤ p + 1 + 9 * m ∧ ((v_spec_l71Rows (b, p) m).1.length : Int) ≤ m ∧ ∀ x ∈ (v_spec_l71Rows (b, p) m).1, -3 ≤ x.Diff ∧ x.Diff ≤ 3 := by
  have h1 : ar .add .i64 m 1 = m + 1 := ar_add (by omega)
  obtain ⟨a1, a2, a3, a4⟩ := pick_ok hb (p := p) (n := m + 1) (by omega) (by omega)
  generalize hn : (v_spec_l6Rd_pick (b, p) (m + 1)).1 = n at a3 a4
  obtain ⟨n0, rfl⟩ : ∃ n0 : Nat, n = (n0 : Int) := ⟨n.toNat, by omega⟩
  have key : ∃ q, Runs (fun s => ocLp ((fun (s : Int × (List Row) × Int) => spec_l71Rows_c2_r b (p + 1) (n0 : Int) s.1 s.2.1 s.2.2) s)) (fun s => spec_l71Rows_c2_r_ob b (p + 1) (n0 : Int) s.1 s.2.1 s.2.2) (p + 1, [], (n0 : Int)) q ∧
      ∃ p' out, q = .x (p', out) ∧ p + 1 ≤ p' ∧ p' ≤ p + 1 + 9 * n0 ∧ out.length ≤ n0 ∧ ∀ x ∈ out, -3 ≤ x.Diff ∧ x.Diff ≤ 3 := by
    refine Runs.down (fun i (b : Int × List Row) => (b.1, b.2, (i : Int))) (fun i b => p + 1 ≤ b.1 ∧ b.1 + 9 * i ≤ p + 1 + 9 * n0 ∧ b.2.length + i ≤ n0 ∧ ∀ x ∈ b.2, -3 ≤ x.Diff ∧ x.Diff ≤ 3) (n0 := n0) (b0 := (p + 1, [])) rfl ⟨by simp, by simp, by simp, fun x hx => by simp at hx⟩ ?_ ?_
    · rintro i ⟨q, out⟩ hi ⟨i1, i2, i3, i4⟩
      simp only [] at i1 i2 i3 i4
      have hg : cmp .gtr (((i + 1 : Nat) : Int)) 0 = true := by rw [cmp_gtr']; simp
      have hs : ar .sub .i64 (((i + 1 : Nat) : Int)) 1 = (i : Int) := by rw [ar_sub (by omega)]; omega
      obtain ⟨r1, r2, r3, r4⟩ := l71Row_ok hb (p := q) (by omega)
      obtain ⟨c1, p', k, v, d, c2, c3, c4, c5⟩ := l71Rows_c4_ok hb (p := q + 6) (n := ((i + 1 : Nat) : Int)) (by omega) (out := out) (by omega) i4 (x := (v_spec_l71Row (b, q)).1) ⟨r3, r4⟩
      have hlim : ∀ y, lim (lenI .row out) (lenI .row [y]) := fun y => lim_one (t := .row) (show out.length < 1099511627776 by omega)
      simp only [spec_l71Rows_c2_r_ob, spec_l71Rows_c2_r, spec_l71Rows_c3_ob, spec_l71Rows_c3, hg, hs, r2, c2, spec_l71Rows_c2_r_t, spec_l71Rows_c3_S, spec_l71Rows_c3_t, spec_l71Rows_c4_S, Tr.val, Tr.ob, AllP]
      have c1' : spec_l71Rows_c4_ob b (q + 6) out ((i : Int) + 1) (v_spec_l71Row (b, q)).1 := c1
      refine ⟨by simp [r1, c1', hlim], ⟨p', out ++ [⟨k, v, (v_spec_l71Row (b, q)).1.At, d⟩]⟩, rfl, by simp only []; omega, by simp only []; omega, by simp; omega, fun x hx => ?_⟩
      rcases List.mem_append.1 hx with h | h
      · exact i4 x h
      · simp at h; subst h; exact c5
    · rintro ⟨q, out⟩ ⟨i1, i2, i3, i4⟩
      have hg : cmp .gtr ((0 : Nat) : Int) 0 = false := rfl
      simp only [spec_l71Rows_c2_r_ob, spec_l71Rows_c2_r, hg, spec_l71Rows_c2_r_t, spec_l71Rows_c3_S, Tr.val, Tr.ob]
      exact ⟨by simp, _, rfl, q, out, rfl, i1, by simp at i2; omega, by simpa using i3, i4⟩
  obtain ⟨q, k1, p', out, rfl, k2, k3, k4, k5⟩ := key
  have a5 : spec_l71Rows_c2 b (p + 1) (n0 : Int) = .x (p', out) := k1.v
  have b5 : spec_l71Rows_c2_ob b (p + 1) (n0 : Int) := k1.t
  simp only [p_spec_l71Rows, v_spec_l71Rows, spec_l71Rows_b_ob, spec_l71Rows_b, spec_l71Rows_c1_ob, spec_l71Rows_c1, h1, a2, hn, a5, ocR, spec_l71Rows_b_t, spec_l71Rows_c1_S, spec_l71Rows_c1_t, spec_l71Rows_c2_S, lpS, Tr.val, Tr.ob, AllP]
  exact ⟨by simp [a1, b5], by omega, by omega, by omega, k5⟩
end Go.Proofs.Ytopcofkpggefkaa

namespace Go.Proofs.Ytopcofkpggefkaa
open Go
def okI (x : Item) : Bool := decide (0 ≤ x.Key ∧ x.Key ≤ 3 ∧ 0 ≤ x.Val ∧ x.Val ≤ 99 ∧ x.Count ≠ 0 ∧ -1099511627776 ≤ x.Count ∧ x.Count ≤ 1099511627776)
def badI : Option Item → Item → Bool
  | none, _ => false
  | some y, x => decide (x.Key < y.Key ∨ (y.Key = x.Key ∧ x.Val ≤ y.Val))
def okR : Option Item → List Item → Bool
  | _, [] => true
  | y, x :: r => okI x && (!badI y x && okR (some x) r)
def setOk (s : List Item) : Bool := okR none s && decide (s.length ≤ 400)
theorem last_cases {α : Type} (l : List α) : (l = [] ∧ l.getLast? = none) ∨ ∃ l' y, l = l' ++ [y] ∧ l.getLast? = some y := by
  rcases List.eq_nil_or_concat l with h | ⟨l', y, h⟩
  · exact .inl ⟨h, by rw [h]; rfl⟩
  · exact .inr ⟨l', y, by rw [h, List.concat_eq_append], by rw [h]; simp⟩
theorem impl_SetOk_ok (xs : List Item) (hl : xs.length < 1000000000) : p_impl_SetOk xs ∧ v_impl_SetOk xs = setOk xs := by
  have key : ∃ q, Runs (fun s => ocLp ((fun (s : Int) => impl_SetOk_c2_r xs (lenI .item xs) s) s)) (fun s => impl_SetOk_c2_r_ob xs (lenI .item xs) s) 0 q ∧ q = (if okR none xs = true then .x () else .r false) := by
    refine Runs.list xs (fun i (_ : Unit) => (i : Int)) (fun l _ => okR none xs = okR l.getLast? (xs.drop l.length)) (b0 := ()) rfl rfl ?_ ?_
    · rintro l x r ⟨⟩ hx hI
      have hlen : xs.length = l.length + (r.length + 1) := by rw [hx]; simp
      have hrd : rd .item xs (l.length : Int) = x := by rw [hx]; exact rd_mid
      have hin : inb (l.length : Int) (lenI .item xs) := by rw [hx]; exact inb_mid (t := .item)
      have hlss : cmp .lss (l.length : Int) (lenI .item xs) = true := by rw [hx]; exact lss_mid
      have hdrop : xs.drop l.length = x :: r := by rw [hx]; simp
      have hdrop2 : xs.drop (l ++ [x]).length = r := by rw [hx]; simp
      rw [hdrop] at hI
      simp only [okR] at hI
      have e1 : (cond (cond (cond (cond (cond (cond (cmp .lss x.Key 0) true (cmp .geq x.Key 4)) true (cmp .lss x.Val 0)) true (cmp .geq x.Val 100)) true (cmp .eql x.Count 0)) true (cmp .lss x.Count (-1099511627776))) true (cmp .gtr x.Count 1099511627776)) = !okI x := by
        simp only [cmp_lss', cmp_geq', cmp_eql', cmp_gtr']
        rw [Bool.eq_iff_iff]
        simp [okI]
        omega
      have hprev : inb (ar .sub .i64 (l.length : Int) 1) (lenI .item xs) ∨ l = [] := by
        rcases last_cases l with ⟨h, _⟩ | ⟨l', y, h, _⟩
        · exact .inr h
        · left
          rw [ar_sub (by omega)]
          rw [h] at hin ⊢
          unfold inb at hin ⊢
          simp at hin ⊢
          omega
      have e2 : (cond (cmp .gtr (l.length : Int) 0) (cond (cmp .gtr (rd .item xs (ar .sub .i64 (l.length : Int) 1)).Key x.Key) true (cond (cmp .eql (rd .item xs (ar .sub .i64 (l.length : Int) 1)).Key x.Key) (cmp .geq (rd .item xs (ar .sub .i64 (l.length : Int) 1)).Val x.Val) false)) false) = badI l.getLast? x := by
        rcases last_cases l with ⟨h, h2⟩ | ⟨l', y, h, h2⟩
        · rw [h2, h]; rfl
        · have hs : ar .sub .i64 (l.length : Int) 1 = (l'.length : Int) := by rw [ar_sub (by omega), h]; simp
          have hy : rd .item xs (l'.length : Int) = y := by rw [hx, h, List.append_assoc]; exact rd_mid
          have hg : cmp .gtr (l.length : Int) 0 = true := by rw [cmp_gtr', h]; simp
          rw [h2, hs, hy, hg]
          simp only [cmp_geq', cmp_eql', cmp_gtr', badI]
          rw [Bool.eq_iff_iff]
          simp
      have hob : impl_SetOk_c2_r_ob xs (lenI .item xs) (l.length : Int) := by
        simp only [impl_SetOk_c2_r_ob, impl_SetOk_c2_r_t, Tr.ob, AllP]
        rcases hprev with hp | hp
        · simp [hin, hp]
        · subst hp
          have hin0 : inb (0 : Int) (lenI .item xs) := hin
          simp [hin0, cmp_gtr']
      refine ⟨hob, ?_⟩
      show (∃ b', ocLp (impl_SetOk_c2_r xs (lenI .item xs) (l.length : Int)) = _ ∧ _) ∨ ∃ q, ocLp (impl_SetOk_c2_r xs (lenI .item xs) (l.length : Int)) = _ ∧ _
      simp only [impl_SetOk_c2_r, hlss, hrd, succ_mid (l := l) (by omega), e1, e2, impl_SetOk_c2_r_t, Tr.val]
      cases h1 : okI x with
      | false =>
        rw [h1] at hI
        exact .inr ⟨.r false, rfl, by rw [hI]; rfl⟩
      | true =>
        cases h2 : badI l.getLast? x with
        | true =>
          rw [h1, h2] at hI
          exact .inr ⟨.r false, rfl, by rw [hI]; rfl⟩
        | false =>
          rw [h1, h2] at hI
          exact .inl ⟨(), rfl, by rw [hdrop2, hI]; simp⟩
    · rintro ⟨⟩ hI
      have hend : cmp .lss (xs.length : Int) (lenI .item xs) = false := lss_end (t := .item)
      rw [List.drop_length] at hI
      simp only [impl_SetOk_c2_r_ob, impl_SetOk_c2_r, hend, impl_SetOk_c2_r_t, Tr.val, Tr.ob, AllP]
      exact ⟨by simp, _, rfl, by rw [hI]; rfl⟩
  obtain ⟨q, h1, h2⟩ := key
  have b2 : impl_SetOk_c2_ob xs (lenI .item xs) := h1.t
  have a2 : impl_SetOk_c2 xs (lenI .item xs) = _ := h1.v.trans h2
  simp only [p_impl_SetOk, v_impl_SetOk, impl_SetOk_b_ob, impl_SetOk_b, impl_SetOk_c1_ob, impl_SetOk_c1, setOk, a2, impl_SetOk_b_t, impl_SetOk_c1_S, impl_SetOk_c1_t, impl_SetOk_c2_S, lpS, Tr.val, Tr.ob]
  refine ⟨by simp [b2], ?_⟩
  cases okR none xs with
  | false => rfl
  | true =>
    show cmp .leq (xs.length : Int) 400 = _
    rw [cmp_leq', Bool.true_and]
    rw [Bool.eq_iff_iff]
    simp
    omega
theorem l3Item_p (x : Item) : p_spec_l3Item x := ⟨⟨l6In_p _ _ _, fun _ => l6In_p _ _ _, trivial⟩, trivial⟩
theorem l3Item_v (x : Item) : v_spec_l3Item x = decide (0 ≤ x.Key ∧ x.Key ≤ 3 ∧ 0 ≤ x.Val ∧ x.Val ≤ 99 ∧ x.Count ≠ 0) := by
  show cond (cond (v_spec_l6In x.Key 0 3) (v_spec_l6In x.Val 0 99) false) (cmp .neq x.Count 0) false = _
  rw [l6In_v, l6In_v, cmp_neq', Bool.eq_iff_iff]
  simp
  omega
theorem l3Big_v : v_spec_l3Big = 1099511627776 := rfl
theorem l3Big_p : p_spec_l3Big := trivial
theorem spec_SetOk_ok (xs : List Item) (hl : xs.length < 1000000000) : p_spec_SetOk xs ∧ v_spec_SetOk xs = setOk xs := by
  have key : ∃ q, Runs (fun s => ocLp ((fun (s : Int) => spec_SetOk_c2_r xs s) s)) (fun s => spec_SetOk_c2_r_ob xs s) 0 q ∧ q = (if okR none xs = true then .x () else .r false) := by
    refine Runs.list xs (fun i (_ : Unit) => (i : Int)) (fun l _ => okR none xs = okR l.getLast? (xs.drop l.length)) (b0 := ()) rfl rfl ?_ ?_
    · rintro l x r ⟨⟩ hx hI
      have hlen : xs.length = l.length + (r.length + 1) := by rw [hx]; simp
      have hrd : rd .item xs (l.length : Int) = x := by rw [hx]; exact rd_mid
      have hin : inb (l.length : Int) (lenI .item xs) := by rw [hx]; exact inb_mid (t := .item)
      have hlss : cmp .lss (l.length : Int) (lenI .item xs) = true := by rw [hx]; exact lss_mid
      have hdrop : xs.drop l.length = x :: r := by rw [hx]; simp
      have hdrop2 : xs.drop (l ++ [x]).length = r := by rw [hx]; simp
      rw [hdrop] at hI
      simp only [okR] at hI
      have hw : IntKind.wrap .i64 (0 - v_spec_l3Big) = -1099511627776 := by rw [l3Big_v, IntWalk.i64_in _ (by omega)]; rfl
      have e1 : (cond (!(v_spec_l3Item x)) true (!(v_spec_l6In x.Count (IntKind.wrap .i64 (0 - v_spec_l3Big)) v_spec_l3Big))) = !okI x := by
        rw [l3Item_v, hw, l3Big_v, l6In_v, Bool.eq_iff_iff]
        simp [okI]
        omega
      have hprev : inb (ar .sub .i64 (l.length : Int) 1) (lenI .item xs) ∨ l = [] := by
        rcases last_cases l with ⟨h, _⟩ | ⟨l', y, h, _⟩
        · exact .inr h
        · left
          rw [ar_sub (by omega)]
          rw [h] at hin ⊢
          unfold inb at hin ⊢
          simp at hin ⊢
          omega
      have e2 : (cond (cmp .gtr (l.length : Int) 0) (cond (cmp .gtr (rd .item xs (ar .sub .i64 (l.length : Int) 1)).Key x.Key) true (cond (cmp .eql (rd .item xs (ar .sub .i64 (l.length : Int) 1)).Key x.Key) (cmp .geq (rd .item xs (ar .sub .i64 (l.length : Int) 1)).Val x.Val) false)) false) = badI l.getLast? x := by
        rcases last_cases l with ⟨h, h2⟩ | ⟨l', y, h, h2⟩
        · rw [h2, h]; rfl
        · have hs : ar .sub .i64 (l.length : Int) 1 = (l'.length : Int) := by rw [ar_sub (by omega), h]; simp
          have hy : rd .item xs (l'.length : Int) = y := by rw [hx, h, List.append_assoc]; exact rd_mid
          have hg : cmp .gtr (l.length : Int) 0 = true := by rw [cmp_gtr', h]; simp
          rw [h2, hs, hy, hg]
          simp only [cmp_geq', cmp_eql', cmp_gtr', badI]
          rw [Bool.eq_iff_iff]
          simp
      have hob : spec_SetOk_c2_r_ob xs (l.length : Int) := by
        simp only [spec_SetOk_c2_r_ob, spec_SetOk_c2_r_t, Tr.ob, AllP]
        rcases hprev with hp | hp
        · simp [hin, hp, hrd, l3Item_p, l3Big_p, l6In_p]
        · subst hp
          have hrd0 : rd .item xs (0 : Int) = x := hrd
          have hin0 : inb (0 : Int) (lenI .item xs) := hin
          simp [hin0, cmp_gtr', hrd0, l3Item_p, l3Big_p, l6In_p]
      refine ⟨hob, ?_⟩
      show (∃ b', ocLp (spec_SetOk_c2_r xs (l.length : Int)) = _ ∧ _) ∨ ∃ q, ocLp (spec_SetOk_c2_r xs (l.length : Int)) = _ ∧ _
      simp only [spec_SetOk_c2_r, hlss, hrd, succ_mid (l := l) (by omega), e1, e2, spec_SetOk_c2_r_t, Tr.val]
      cases h1 : okI x with
      | false =>
        rw [h1] at hI
        exact .inr ⟨.r false, rfl, by rw [hI]; rfl⟩
      | true =>
        cases h2 : badI l.getLast? x with
        | true =>
          rw [h1, h2] at hI
          exact .inr ⟨.r false, rfl, by rw [hI]; rfl⟩
        | false =>
          rw [h1, h2] at hI
          exact .inl ⟨(), rfl, by rw [hdrop2, hI]; simp⟩
    · rintro ⟨⟩ hI
      have hend : cmp .lss (xs.length : Int) (lenI .item xs) = false := lss_end (t := .item)
      rw [List.drop_length] at hI
      simp only [spec_SetOk_c2_r_ob, spec_SetOk_c2_r, hend, spec_SetOk_c2_r_t, Tr.val, Tr.ob, AllP]
      exact ⟨by simp, _, rfl, by rw [hI]; rfl⟩
  obtain ⟨q, h1, h2⟩ := key
  have b2 : spec_SetOk_c2_ob xs := h1.t
  have a2 : spec_SetOk_c2 xs = _ := h1.v.trans h2
  simp only [p_spec_SetOk, v_spec_SetOk, spec_SetOk_b_ob, spec_SetOk_b, spec_SetOk_c1_ob, spec_SetOk_c1, setOk, a2, spec_SetOk_b_t, spec_SetOk_c1_S, spec_SetOk_c1_t, spec_SetOk_c2_S, lpS, Tr.val, Tr.ob]
  refine ⟨by simp [b2], ?_⟩
  have hg : cmp .gtr (lenI .item xs) 400 = !decide (xs.length ≤ 400) := by
    show cmp .gtr (xs.length : Int) 400 = _
    rw [cmp_gtr', Bool.eq_iff_iff]
    simp
    omega
  rw [hg]
  cases decide (xs.length ≤ 400) <;> cases okR none xs <;> rfl
def onceI (xs : List Item) : List Item := (xs.filter fun x => decide (0 < x.Count)).map fun x => ⟨x.Key, x.Val, 1⟩
theorem once_ok (xs : List Item) (hl : xs.length < 1000000000) : p_impl_once xs ∧ v_impl_once xs = onceI xs := by
  have k2 : Runs (fun s => ocLp ((fun (s : (List Item) × Int) => impl_once_c2_r xs (lenI .item xs) s.1 s.2) s)) (fun s => impl_once_c2_r_ob xs (lenI .item xs) s.1 s.2) ([], 0) (.x (onceI xs)) := by
    refine Runs.fold xs (fun i b => (b, (i : Int))) onceI rfl (fun l x r hx => ?_) ?_
    · have hlen : xs.length = l.length + (r.length + 1) := by rw [hx]; simp
      have hrd : rd .item xs (l.length : Int) = x := by rw [hx]; exact rd_mid
      have hin : inb (l.length : Int) (lenI .item xs) := by rw [hx]; exact inb_mid (t := .item)
      have hlss : cmp .lss (l.length : Int) (lenI .item xs) = true := by rw [hx]; exact lss_mid
      have ho : (onceI l).length ≤ l.length := by unfold onceI; rw [List.length_map]; exact List.length_filter_le _ _
      have hlim : ∀ y, lim (lenI .item (onceI l)) (lenI .item [y]) := fun y => lim_one (t := .item) (show (onceI l).length < 1099511627776 by omega)
      simp only [impl_once_c2_r_ob, impl_once_c2_r, impl_once_c3_ob, impl_once_c3, hlss, hrd, succ_mid (l := l) (by omega), cmp_gtr', impl_once_c2_r_t, impl_once_c3_S, impl_once_c3_t, Tr.val, Tr.ob, AllP]
      by_cases h0 : 0 < x.Count
      · simp only [h0, decide_true]
        exact ⟨by simp [hin, hlim], by simp [ocLp, onceI, h0, List.filter_append]⟩
      · simp only [h0, decide_false]
        exact ⟨by simp [hin], by simp [ocLp, onceI, h0, List.filter_append]⟩
    · have hend : cmp .lss (xs.length : Int) (lenI .item xs) = false := lss_end (t := .item)
      simp only [impl_once_c2_r_ob, impl_once_c2_r, hend, impl_once_c2_r_t, impl_once_c3_S, Tr.val, Tr.ob]
      exact ⟨by simp, rfl⟩
  have a2 : impl_once_c2 xs (lenI .item xs) = .x (onceI xs) := k2.v
  have b2 : impl_once_c2_ob xs (lenI .item xs) := k2.t
  simp only [p_impl_once, v_impl_once, impl_once_b_ob, impl_once_b, impl_once_c1_ob, impl_once_c1, a2, ocR, impl_once_b_t, impl_once_c1_S, impl_once_c1_t, impl_once_c2_S, lpS, Tr.val, Tr.ob]
  exact ⟨by simp [b2], trivial⟩
def keyI (x : Item) : Item := ⟨x.Key, 0, x.Count⟩
def lead1 (now : List Item) (x : Item) : List Item := (now.filter fun y => decide (x.Key = y.Key)).map fun y => ⟨ar .rem .i64 x.Val 4, 0, ar .mul .i64 x.Count y.Count⟩
def leadI (ties now : List Item) : List Item := ties.flatMap (lead1 now)
def allI (ties first now : List Item) : List Item := first.map keyI ++ leadI ties now
theorem lead1_len (now : List Item) (x : Item) : (lead1 now x).length ≤ now.length := by
  unfold lead1; rw [List.length_map]; exact List.length_filter_le _ _
theorem leadI_len (ties now : List Item) : (leadI ties now).length ≤ ties.length * now.length := by
  induction ties with
  | nil => simp [leadI]
  | cons x r ih =>
    have := lead1_len now x
    simp only [leadI, List.flatMap_cons, List.length_append, List.length_cons] at ih ⊢
    rw [Nat.add_mul, Nat.one_mul]
    omega
theorem leadI_len4 {ties now : List Item} (h1 : ties.length ≤ 400) (h2 : now.length ≤ 400) : (leadI ties now).length ≤ 160000 :=
  Nat.le_trans (leadI_len ties now) (Nat.mul_le_mul h1 h2)
theorem loopStep_ok (ties first now : List Item) (h1 : ties.length ≤ 400) (h2 : first.length ≤ 400) (h3 : now.length ≤ 400) (hs : ∀ x ∈ allI ties first now, InR x.Count) :
    p_impl_loopStep ties first now ∧ v_impl_loopStep ties first now = onceI (gathI (allI ties first now)) := by
  have k2 : Runs (fun s => ocLp ((fun (s : (List Item) × Int) => impl_loopStep_c2_r ties now first (lenI .item first) s.1 s.2) s)) (fun s => impl_loopStep_c2_r_ob ties now first (lenI .item first) s.1 s.2) ([], 0) (.x (first.map keyI)) := by
    refine Runs.fold first (fun i b => (b, (i : Int))) (fun l => l.map keyI) rfl (fun l x r hx => ?_) ?_
    · have hlen : first.length = l.length + (r.length + 1) := by rw [hx]; simp
      have hrd : rd .item first (l.length : Int) = x := by rw [hx]; exact rd_mid
      have hin : inb (l.length : Int) (lenI .item first) := by rw [hx]; exact inb_mid (t := .item)
      have hlss : cmp .lss (l.length : Int) (lenI .item first) = true := by rw [hx]; exact lss_mid
      have hlim : ∀ y, lim (lenI .item (l.map keyI)) (lenI .item [y]) := fun y => lim_one (t := .item) (show (l.map keyI).length < 1099511627776 by rw [List.length_map]; omega)
      simp only [impl_loopStep_c2_r_ob, impl_loopStep_c2_r, hlss, hrd, succ_mid (l := l) (by omega), impl_loopStep_c2_r_t, Tr.val, Tr.ob, AllP]
      exact ⟨by simp [hin, hlim], by simp [ocLp, keyI]⟩
    · have hend : cmp .lss (first.length : Int) (lenI .item first) = false := lss_end (t := .item)
      simp only [impl_loopStep_c2_r_ob, impl_loopStep_c2_r, hend, impl_loopStep_c2_r_t, Tr.val, Tr.ob, AllP]
      exact ⟨by simp, rfl⟩
  have k6 : ∀ (acc : List Item) (x : Item) (o : List Item) (m k : Int), acc.length ≤ 200000 →
      Runs (fun s => ocLp ((fun (s : (List Item) × Int) => impl_loopStep_c6_r now acc x o m k (lenI .item now) s.1 s.2) s)) (fun s => impl_loopStep_c6_r_ob now acc x o m k (lenI .item now) s.1 s.2) (acc, 0) (.x (acc ++ lead1 now x)) := by
    intro acc x o m k hacc
    refine Runs.fold now (fun i b => (b, (i : Int))) (fun l => acc ++ lead1 l x) (by simp [lead1]) (fun l y r hx => ?_) ?_
    · have hlen : now.length = l.length + (r.length + 1) := by rw [hx]; simp
      have hrd : rd .item now (l.length : Int) = y := by rw [hx]; exact rd_mid
      have hin : inb (l.length : Int) (lenI .item now) := by rw [hx]; exact inb_mid (t := .item)
      have hlss : cmp .lss (l.length : Int) (lenI .item now) = true := by rw [hx]; exact lss_mid
      have hl1 := lead1_len l x
      have hlim : ∀ y, lim (lenI .item (acc ++ lead1 l x)) (lenI .item [y]) := fun y => lim_one (t := .item) (show (acc ++ lead1 l x).length < 1099511627776 by rw [List.length_append]; omega)
      simp only [impl_loopStep_c6_r_ob, impl_loopStep_c6_r, impl_loopStep_c7_ob, impl_loopStep_c7, hlss, hrd, succ_mid (l := l) (by omega), cmp_eql', impl_loopStep_c6_r_t, impl_loopStep_c7_S, impl_loopStep_c7_t, Tr.val, Tr.ob, AllP]
      by_cases h0 : x.Key = y.Key
      · simp only [h0, decide_true]
        exact ⟨by simp [hin, hlim], by simp [ocLp, lead1, h0, List.filter_append]⟩
      · simp only [h0, decide_false]
        exact ⟨by simp [hin], by simp [ocLp, lead1, h0, List.filter_append]⟩
    · have hend : cmp .lss (now.length : Int) (lenI .item now) = false := lss_end (t := .item)
      simp only [impl_loopStep_c6_r_ob, impl_loopStep_c6_r, hend, impl_loopStep_c6_r_t, impl_loopStep_c7_S, Tr.val, Tr.ob]
      exact ⟨by simp, rfl⟩
  have k4 : Runs (fun s => ocLp ((fun (s : (List Item) × Int) => impl_loopStep_c4_r now (first.map keyI) ties (lenI .item ties) s.1 s.2) s)) (fun s => impl_loopStep_c4_r_ob now (first.map keyI) ties (lenI .item ties) s.1 s.2) (first.map keyI, 0) (.x (allI ties first now)) := by
    refine Runs.fold ties (fun i b => (b, (i : Int))) (fun l => first.map keyI ++ leadI l now) (by simp [leadI]) (fun l x r hx => ?_) ?_
    · have hlen : ties.length = l.length + (r.length + 1) := by rw [hx]; simp
      have hrd : rd .item ties (l.length : Int) = x := by rw [hx]; exact rd_mid
      have hin : inb (l.length : Int) (lenI .item ties) := by rw [hx]; exact inb_mid (t := .item)
      have hlss : cmp .lss (l.length : Int) (lenI .item ties) = true := by rw [hx]; exact lss_mid
      have hl1 := leadI_len4 (ties := l) (now := now) (by omega) h3
      have k := k6 (first.map keyI ++ leadI l now) x ties (lenI .item ties) (l.length : Int) (by rw [List.length_append, List.length_map]; omega)
      have a6 : impl_loopStep_c6 now (first.map keyI ++ leadI l now) x ties (lenI .item ties) (l.length : Int) (lenI .item now) = .x (first.map keyI ++ leadI l now ++ lead1 now x) := k.v
      have b6 : impl_loopStep_c6_ob now (first.map keyI ++ leadI l now) x ties (lenI .item ties) (l.length : Int) (lenI .item now) := k.t
      simp only [impl_loopStep_c4_r_ob, impl_loopStep_c4_r, impl_loopStep_c5_ob, impl_loopStep_c5, hlss, hrd, succ_mid (l := l) (by omega), a6, impl_loopStep_c4_r_t, impl_loopStep_c5_S, impl_loopStep_c5_t, impl_loopStep_c6_S, lpS, Tr.val, Tr.ob, AllP]
      exact ⟨by simp [hin, b6], by simp [ocLp, leadI]⟩
    · have hend : cmp .lss (ties.length : Int) (lenI .item ties) = false := lss_end (t := .item)
      simp only [impl_loopStep_c4_r_ob, impl_loopStep_c4_r, hend, impl_loopStep_c4_r_t, impl_loopStep_c5_S, Tr.val, Tr.ob]
      exact ⟨by simp, rfl⟩
  have a2 : impl_loopStep_c2 ties now first (lenI .item first) = .x (first.map keyI) := k2.v
  have b2 : impl_loopStep_c2_ob ties now first (lenI .item first) := k2.t
  have a4 : impl_loopStep_c4 now (first.map keyI) ties (lenI .item ties) = .x (allI ties first now) := k4.v
  have b4 : impl_loopStep_c4_ob now (first.map keyI) ties (lenI .item ties) := k4.t
  have hal : (allI ties first now).length ≤ 200000 := by
    have := leadI_len4 (ties := ties) (now := now) h1 h3
    unfold allI
    rw [List.length_append, List.length_map]
    omega
  have hgl := gathI_len hs
  obtain ⟨o1, o2⟩ := once_ok (gathI (allI ties first now)) (by omega)
  have hp : p_impl_gathered (allI ties first now) := by
    show ((allI ties first now).length : Int) + 1 ≤ 1099511627776
    omega
  have hv : v_impl_gathered (allI ties first now) = gathI (allI ties first now) := rfl
  simp only [p_impl_loopStep, v_impl_loopStep, impl_loopStep_b_ob, impl_loopStep_b, impl_loopStep_c1_ob, impl_loopStep_c1, impl_loopStep_c3_ob, impl_loopStep_c3, a2, a4, hv, o2, ocR, impl_loopStep_b_t, impl_loopStep_c1_S, impl_loopStep_c3_S, impl_loopStep_c1_t, impl_loopStep_c2_S, impl_loopStep_c3_t, impl_loopStep_c4_S, lpS, Tr.val, Tr.ob, AllP]
  exact ⟨by simp [b2, b4, a4, hp, hv, o1], trivial⟩
theorem LoopStep_ok (ties first now : List Item) (h1 : ties.length < 1000000000) (h2 : first.length < 1000000000) (h3 : now.length < 1000000000)
    (hs : setOk ties = true → setOk first = true → setOk now = true → ∀ x ∈ allI ties first now, InR x.Count) :
    p_impl_LoopStep ties first now ∧ v_impl_LoopStep ties first now = if setOk ties = true ∧ setOk first = true ∧ setOk now = true then onceI (gathI (allI ties first now)) else [] := by
  obtain ⟨a1, a2⟩ := impl_SetOk_ok ties h1
  obtain ⟨b1, b2⟩ := impl_SetOk_ok first h2
  obtain ⟨c1, c2⟩ := impl_SetOk_ok now h3
  simp only [p_impl_LoopStep, v_impl_LoopStep, impl_LoopStep_b_ob, impl_LoopStep_b, impl_LoopStep_b_t, Tr.val, Tr.ob, AllP]
  rw [a2, b2, c2]
  cases e1 : setOk ties with
  | false => exact ⟨by simp [a1, b1, c1], rfl⟩
  | true =>
    cases e2 : setOk first with
    | false => exact ⟨by simp [a1, b1, c1], rfl⟩
    | true =>
      cases e3 : setOk now with
      | false => exact ⟨by simp [a1, b1, c1], rfl⟩
      | true =>
        have hlen : ∀ s : List Item, setOk s = true → s.length ≤ 400 := fun s h => by simp only [setOk, Bool.and_eq_true, decide_eq_true_eq] at h; exact h.2
        obtain ⟨d1, d2⟩ := loopStep_ok ties first now (hlen _ e1) (hlen _ e2) (hlen _ e3) (hs e1 e2 e3)
        refine ⟨by simp [a1, b1, c1, d1], ?_⟩
        rw [if_pos ⟨rfl, rfl, rfl⟩]
        exact d2
end Go.Proofs.Ytopcofkpggefkaa

namespace Go.Proofs.Ytopcofkpggefkaa
open Go
theorem l22Keys_ok (xs : List Item) (hl : xs.length < 1000000000) : p_spec_l22Keys xs ∧ v_spec_l22Keys xs = xs.map keyI := by
  have k2 : Runs (fun s => ocLp ((fun (s : (List Item) × Int) => spec_l22Keys_c2_r xs s.1 s.2) s)) (fun s => spec_l22Keys_c2_r_ob xs s.1 s.2) ([], 0) (.x (xs.map keyI)) := by
    refine Runs.fold xs (fun i b => (b, (i : Int))) (fun l => l.map keyI) rfl (fun l x r hx => ?_) ?_
    · have hlen : xs.length = l.length + (r.length + 1) := by rw [hx]; simp
      have hrd : rd .item xs (l.length : Int) = x := by rw [hx]; exact rd_mid
      have hin : inb (l.length : Int) (lenI .item xs) := by rw [hx]; exact inb_mid (t := .item)
      have hlss : cmp .lss (l.length : Int) (lenI .item xs) = true := by rw [hx]; exact lss_mid
      have hlim : ∀ y, lim (lenI .item (l.map keyI)) (lenI .item [y]) := fun y => lim_one (t := .item) (show (l.map keyI).length < 1099511627776 by rw [List.length_map]; omega)
      simp only [spec_l22Keys_c2_r_ob, spec_l22Keys_c2_r, hlss, hrd, succ_mid (l := l) (by omega), spec_l22Keys_c2_r_t, Tr.val, Tr.ob, AllP]
      exact ⟨by simp [hin, hlim], by simp [ocLp, keyI]⟩
    · have hend : cmp .lss (xs.length : Int) (lenI .item xs) = false := lss_end (t := .item)
      simp only [spec_l22Keys_c2_r_ob, spec_l22Keys_c2_r, hend, spec_l22Keys_c2_r_t, Tr.val, Tr.ob, AllP]
      exact ⟨by simp, rfl⟩
  have a2 : spec_l22Keys_c2 xs = .x (xs.map keyI) := k2.v
  have b2 : spec_l22Keys_c2_ob xs := k2.t
  simp only [p_spec_l22Keys, v_spec_l22Keys, spec_l22Keys_b_ob, spec_l22Keys_b, spec_l22Keys_c1_ob, spec_l22Keys_c1, a2, ocR, spec_l22Keys_b_t, spec_l22Keys_c1_S, spec_l22Keys_c1_t, spec_l22Keys_c2_S, lpS, Tr.val, Tr.ob]
  exact ⟨by simp [b2], trivial⟩
theorem l22Lead_ok (ties now : List Item) (h1 : ties.length ≤ 400) (h3 : now.length ≤ 400) : p_spec_l22Lead ties now ∧ v_spec_l22Lead ties now = leadI ties now := by
  have k4 : ∀ (acc : List Item) (i : Int) (x : Item), acc.length ≤ 200000 → rd .item ties i = x → inb i (lenI .item ties) →
      Runs (fun s => ocLp ((fun (s : (List Item) × Int) => spec_l22Lead_c4_r ties now acc i s.1 s.2) s)) (fun s => spec_l22Lead_c4_r_ob ties now acc i s.1 s.2) (acc, 0) (.x (acc ++ lead1 now x)) := by
    intro acc i x hacc hxi hini
    refine Runs.fold now (fun i b => (b, (i : Int))) (fun l => acc ++ lead1 l x) (by simp [lead1]) (fun l y r hx => ?_) ?_
    · have hlen : now.length = l.length + (r.length + 1) := by rw [hx]; simp
      have hrd : rd .item now (l.length : Int) = y := by rw [hx]; exact rd_mid
      have hin : inb (l.length : Int) (lenI .item now) := by rw [hx]; exact inb_mid (t := .item)
      have hlss : cmp .lss (l.length : Int) (lenI .item now) = true := by rw [hx]; exact lss_mid
      have hl1 := lead1_len l x
      have hlim : ∀ y, lim (lenI .item (acc ++ lead1 l x)) (lenI .item [y]) := fun y => lim_one (t := .item) (show (acc ++ lead1 l x).length < 1099511627776 by rw [List.length_append]; omega)
      simp only [spec_l22Lead_c4_r_ob, spec_l22Lead_c4_r, spec_l22Lead_c5_ob, spec_l22Lead_c5, hlss, hrd, hxi, succ_mid (l := l) (by omega), cmp_eql', spec_l22Lead_c4_r_t, spec_l22Lead_c5_S, spec_l22Lead_c5_t, Tr.val, Tr.ob, AllP]
      by_cases h0 : x.Key = y.Key
      · simp only [h0, decide_true]
        exact ⟨by simp [hin, hlim, hini], by simp [ocLp, lead1, h0, List.filter_append]⟩
      · simp only [h0, decide_false]
        exact ⟨by simp [hin, hini], by simp [ocLp, lead1, h0, List.filter_append]⟩
    · have hend : cmp .lss (now.length : Int) (lenI .item now) = false := lss_end (t := .item)
      simp only [spec_l22Lead_c4_r_ob, spec_l22Lead_c4_r, hend, spec_l22Lead_c4_r_t, spec_l22Lead_c5_S, Tr.val, Tr.ob]
      exact ⟨by simp, rfl⟩
  have k2 : Runs (fun s => ocLp ((fun (s : (List Item) × Int) => spec_l22Lead_c2_r ties now s.1 s.2) s)) (fun s => spec_l22Lead_c2_r_ob ties now s.1 s.2) ([], 0) (.x (leadI ties now)) := by
    refine Runs.fold ties (fun i b => (b, (i : Int))) (fun l => leadI l now) (by simp [leadI]) (fun l x r hx => ?_) ?_
    · have hlen : ties.length = l.length + (r.length + 1) := by rw [hx]; simp
      have hrd : rd .item ties (l.length : Int) = x := by rw [hx]; exact rd_mid
      have hin : inb (l.length : Int) (lenI .item ties) := by rw [hx]; exact inb_mid (t := .item)
      have hlss : cmp .lss (l.length : Int) (lenI .item ties) = true := by rw [hx]; exact lss_mid
      have hl1 := leadI_len4 (ties := l) (now := now) (by omega) h3
      have k := k4 (leadI l now) (l.length : Int) x (by omega) hrd hin
      have a4 : spec_l22Lead_c4 ties now (leadI l now) (l.length : Int) = .x (leadI l now ++ lead1 now x) := k.v
      have b4 : spec_l22Lead_c4_ob ties now (leadI l now) (l.length : Int) := k.t
      simp only [spec_l22Lead_c2_r_ob, spec_l22Lead_c2_r, spec_l22Lead_c3_ob, spec_l22Lead_c3, hlss, succ_mid (l := l) (by omega), a4, spec_l22Lead_c2_r_t, spec_l22Lead_c3_S, spec_l22Lead_c3_t, spec_l22Lead_c4_S, lpS, Tr.val, Tr.ob]
      exact ⟨by simp [b4], by simp [ocLp, leadI]⟩
    · have hend : cmp .lss (ties.length : Int) (lenI .item ties) = false := lss_end (t := .item)
      simp only [spec_l22Lead_c2_r_ob, spec_l22Lead_c2_r, hend, spec_l22Lead_c2_r_t, spec_l22Lead_c3_S, Tr.val, Tr.ob]
      exact ⟨by simp, rfl⟩
  have a2 : spec_l22Lead_c2 ties now = .x (leadI ties now) := k2.v
  have b2 : spec_l22Lead_c2_ob ties now := k2.t
  simp only [p_spec_l22Lead, v_spec_l22Lead, spec_l22Lead_b_ob, spec_l22Lead_b, spec_l22Lead_c1_ob, spec_l22Lead_c1, a2, ocR, spec_l22Lead_b_t, spec_l22Lead_c1_S, spec_l22Lead_c1_t, spec_l22Lead_c2_S, lpS, Tr.val, Tr.ob]
  exact ⟨by simp [b2], trivial⟩
def l3K (s : List Item) (k : Int) : List Item := (s.filter fun x => decide (x.Key = k) && decide (0 < x.Count)).map fun x => ⟨k, x.Val, 1⟩
theorem l3K_len (s : List Item) (k : Int) : (l3K s k).length ≤ s.length := by
  unfold l3K; rw [List.length_map]; exact List.length_filter_le _ _
theorem l3Key_ok (xs : List Item) (k : Int) (hl : xs.length < 1000000000) : p_spec_l3Key xs k 2 ∧ v_spec_l3Key xs k 2 = l3K xs k := by
  have key : ∃ q, Runs (fun s => ocLp ((fun (s : (List Item) × Int × Int) => spec_l3Key_c2_r xs k 2 s.1 s.2.1 s.2.2) s)) (fun s => spec_l3Key_c2_r_ob xs k 2 s.1 s.2.1 s.2.2) ([], 0, 0) q ∧ ∃ n, q = .x (l3K xs k, n) := by
    refine Runs.list xs (fun i (b : List Item × Int) => (b.1, b.2, (i : Int))) (fun l b => b.1 = l3K l k) (b0 := ([], 0)) rfl rfl ?_ ?_
    · rintro l x r ⟨out, n⟩ hx hI
      have hI : out = l3K l k := hI
      subst hI
      have hlen : xs.length = l.length + (r.length + 1) := by rw [hx]; simp
      have hrd : rd .item xs (l.length : Int) = x := by rw [hx]; exact rd_mid
      have hin : inb (l.length : Int) (lenI .item xs) := by rw [hx]; exact inb_mid (t := .item)
      have hlss : cmp .lss (l.length : Int) (lenI .item xs) = true := by rw [hx]; exact lss_mid
      have hl1 := l3K_len l k
      have hlim : ∀ y, lim (lenI .item (l3K l k)) (lenI .item [y]) := fun y => lim_one (t := .item) (show (l3K l k).length < 1099511627776 by omega)
      simp only [spec_l3Key_c2_r_ob, spec_l3Key_c2_r, spec_l3Key_c3_ob, spec_l3Key_c3, hlss, hrd, succ_mid (l := l) (by omega), cmp_neq', cmp_gtr', spec_l3Key_c2_r_t, spec_l3Key_c3_S, spec_l3Key_c3_t, Tr.val, Tr.ob, AllP]
      by_cases h0 : x.Key = k
      · by_cases h1 : 0 < x.Count
        · simp only [h0, h1, decide_true, Bool.not_true, cond_true, cmp_eql']
          refine ⟨by simp [hin, hlim], .inl ⟨(l3K (l ++ [x]) k, ar .add .i64 n x.Count), ?_, rfl⟩⟩
          simp [ocLp, l3K, h0, h1, List.filter_append]
        · simp only [h0, h1, decide_true, decide_false, Bool.not_true, cond_false]
          refine ⟨by simp [hin], .inl ⟨(l3K (l ++ [x]) k, ar .add .i64 n x.Count), ?_, rfl⟩⟩
          simp [ocLp, l3K, h0, h1, List.filter_append]
      · simp only [h0, decide_false, Bool.not_false]
        refine ⟨by simp [hin], .inl ⟨(l3K (l ++ [x]) k, n), ?_, rfl⟩⟩
        simp [ocLp, l3K, h0, List.filter_append]
    · rintro ⟨out, n⟩ hI
      have hI : out = l3K xs k := hI
      subst hI
      have hend : cmp .lss (xs.length : Int) (lenI .item xs) = false := lss_end (t := .item)
      simp only [spec_l3Key_c2_r_ob, spec_l3Key_c2_r, hend, spec_l3Key_c2_r_t, spec_l3Key_c3_S, Tr.val, Tr.ob]
      exact ⟨by simp, _, rfl, n, rfl⟩
  obtain ⟨q, h1, n, rfl⟩ := key
  have a2 : spec_l3Key_c2 xs k 2 = .x (l3K xs k, n) := h1.v
  have b2 : spec_l3Key_c2_ob xs k 2 := h1.t
  have hc : cond (cmp .eql (2 : Int) 1) (cmp .neq n 0) false = false := by rw [cmp_eql']; rfl
  simp only [p_spec_l3Key, v_spec_l3Key, spec_l3Key_b_ob, spec_l3Key_b, spec_l3Key_c1_ob, spec_l3Key_c1, spec_l3Key_c4_ob, spec_l3Key_c4, a2, hc, ocR, spec_l3Key_b_t, spec_l3Key_c1_S, spec_l3Key_c4_S, spec_l3Key_c1_t, spec_l3Key_c2_S, spec_l3Key_c4_t, lpS, Tr.val, Tr.ob, AllP]
  exact ⟨by simp [b2, cmp_eql'], trivial⟩
def onceK (s : List Item) : List Item := [0, 1, 2, 3].flatMap (l3K s)
theorem SetOnce_ok (xs : List Item) (hl : xs.length < 100000000) (hok : setOk xs = true) : p_spec_SetOnce xs ∧ v_spec_SetOnce xs = onceK xs := by
  obtain ⟨s1, s2⟩ := spec_SetOk_ok xs (by omega)
  rw [hok] at s2
  have k2 : Runs (fun s => ocLp ((fun (s : (List Item) × Int) => spec_l3Sum_c2_r xs 2 s.1 s.2) s)) (fun s => spec_l3Sum_c2_r_ob xs 2 s.1 s.2) ([], 0) (.x (onceK xs)) := by
    refine Runs.fold ([0, 1, 2, 3] : List Int) (fun i b => (b, (i : Int))) (fun l => l.flatMap (l3K xs)) rfl (fun l x r hx => ?_) ?_
    · have hlen : 4 = l.length + (r.length + 1) := by rw [show (4 : Nat) = ([0, 1, 2, 3] : List Int).length from rfl, hx]; simp
      have hxl : x = (l.length : Int) := by
        have h1 : ([0, 1, 2, 3] : List Int)[l.length]? = some x := by rw [hx]; simp
        have h2 : l.length = 0 ∨ l.length = 1 ∨ l.length = 2 ∨ l.length = 3 := by omega
        rcases h2 with h | h | h | h <;> rw [h] at h1 ⊢ <;> simp at h1 <;> omega
      obtain ⟨q1, q2⟩ := l3Key_ok xs x (by omega)
      have hfl : (l.flatMap (l3K xs)).length ≤ l.length * xs.length := by
        clear hx hlen hxl q1 q2
        induction l with
        | nil => simp
        | cons y l ih =>
          have := l3K_len xs y
          simp only [List.flatMap_cons, List.length_append, List.length_cons]
          rw [Nat.add_mul, Nat.one_mul]
          omega
      have hlx := l3K_len xs x
      have hl4 : l.length * xs.length ≤ 4 * xs.length := Nat.mul_le_mul_right _ (by omega)
      have hlim : lim (lenI .item (l.flatMap (l3K xs))) (lenI .item (l3K xs x)) := lim_two (t := .item) (show (l.flatMap (l3K xs)).length + (l3K xs x).length < 1099511627776 by omega)
      have hlss : cmp .lss x 4 = true := by rw [cmp_lss', hxl]; simp; omega
      have hsucc := succ_mid (l := l) (by omega)
      rw [← hxl] at hsucc ⊢
      simp only [spec_l3Sum_c2_r_ob, spec_l3Sum_c2_r, hlss, s2, q2, hsucc, cond_true, spec_l3Sum_c2_r_t, Tr.val, Tr.ob, AllP]
      exact ⟨by simp [s1, q1, hlim], by simp [ocLp]⟩
    · have hend : cmp .lss ((([0, 1, 2, 3] : List Int).length : Nat) : Int) 4 = false := rfl
      simp only [spec_l3Sum_c2_r_ob, spec_l3Sum_c2_r, hend, cond_false, spec_l3Sum_c2_r_t, Tr.val, Tr.ob, AllP]
      exact ⟨by simp, rfl⟩
  have a2 : spec_l3Sum_c2 xs 2 = .x (onceK xs) := k2.v
  have b2 : spec_l3Sum_c2_ob xs 2 := k2.t
  have hp : p_spec_l3Sum xs 2 := by
    simp only [p_spec_l3Sum, spec_l3Sum_b_ob, spec_l3Sum_c1_ob, spec_l3Sum_b_t, spec_l3Sum_c1_S, spec_l3Sum_c1_t, spec_l3Sum_c2_S, lpS, Tr.ob]
    simp [b2]
  have hv : v_spec_l3Sum xs 2 = onceK xs := by
    simp only [v_spec_l3Sum, spec_l3Sum_b, spec_l3Sum_c1, a2, ocR, spec_l3Sum_b_t, spec_l3Sum_c1_S, spec_l3Sum_c1_t, spec_l3Sum_c2_S, lpS, Tr.val]
  exact ⟨⟨⟨hp, trivial⟩, trivial⟩, hv⟩
theorem specLoopStep_ok (ties first now : List Item) (h1 : ties.length < 1000000000) (h2 : first.length < 1000000000) (h3 : now.length < 1000000000)
    (hs : setOk ties = true → setOk first = true → setOk now = true → (∀ x ∈ allI ties first now, InR x.Count) ∧ setOk (gathI (allI ties first now)) = true) :
    p_spec_LoopStep ties first now ∧ v_spec_LoopStep ties first now = if setOk ties = true ∧ setOk first = true ∧ setOk now = true then onceK (gathI (allI ties first now)) else [] := by
  obtain ⟨a1, a2⟩ := spec_SetOk_ok ties h1
  obtain ⟨b1, b2⟩ := spec_SetOk_ok first h2
  obtain ⟨c1, c2⟩ := spec_SetOk_ok now h3
  simp only [p_spec_LoopStep, v_spec_LoopStep, spec_LoopStep_b_ob, spec_LoopStep_b, spec_LoopStep_b_t, Tr.val, Tr.ob, AllP]
  rw [a2, b2, c2]
  cases e1 : setOk ties with
  | false => exact ⟨by simp [a1, b1, c1], rfl⟩
  | true =>
    cases e2 : setOk first with
    | false => exact ⟨by simp [a1, b1, c1], rfl⟩
    | true =>
      cases e3 : setOk now with
      | false => exact ⟨by simp [a1, b1, c1], rfl⟩
      | true =>
        have hlen : ∀ s : List Item, setOk s = true → s.length ≤ 400 := fun s h => by simp only [setOk, Bool.and_eq_true, decide_eq_true_eq] at h; exact h.2
        obtain ⟨r1, r2⟩ := hs e1 e2 e3
        have l1 := hlen _ e1
        have l2 := hlen _ e2
        have l3 := hlen _ e3
        obtain ⟨k1, k2⟩ := l22Keys_ok first (by omega)
        obtain ⟨d1, d2⟩ := l22Lead_ok ties now l1 l3
        have hll := leadI_len4 (ties := ties) (now := now) l1 l3
        have hal : (allI ties first now).length ≤ 200000 := by unfold allI; rw [List.length_append, List.length_map]; omega
        have hal2 : first.map keyI ++ leadI ties now = allI ties first now := rfl
        obtain ⟨i1, i2⟩ := l2Items_ok (allI ties first now) (by omega) r1
        have hgl := gathI_len r1
        obtain ⟨o1, o2⟩ := SetOnce_ok (gathI (allI ties first now)) (by omega) r2
        have hlim : lim (lenI .item (first.map keyI)) (lenI .item (leadI ties now)) := lim_two (t := .item) (show (first.map keyI).length + (leadI ties now).length < 1099511627776 by rw [List.length_map]; omega)
        simp only [k2, d2, hal2, i2, o2, ocR]
        exact ⟨by simp [a1, b1, c1, k1, d1, hlim, i1, o1], by simp⟩
end Go.Proofs.Ytopcofkpggefkaa

namespace Go.Proofs.Ytopcofkpggefkaa
open Go
def ltIt (x y : Item) : Prop := x.Key < y.Key ∨ (x.Key = y.Key ∧ x.Val < y.Val)
theorem ltIt_irr (a : Item) : ¬ ltIt a a := fun h => by unfold ltIt at h; omega
theorem ltIt_tr {a b c : Item} (h1 : ltIt a b) (h2 : ltIt b c) : ltIt a c := by unfold ltIt at *; omega
theorem badI_iff (y x : Item) : badI (some y) x = false ↔ ltIt y x := by
  unfold badI ltIt
  rw [decide_eq_false_iff_not]
  omega
theorem okR_pw : ∀ {s : List Item} {y : Option Item}, okR y s = true → (∀ x ∈ s, okI x = true) ∧ s.Pairwise ltIt ∧ ∀ z, y = some z → ∀ x ∈ s, ltIt z x
  | [], _, _ => ⟨fun x hx => by simp at hx, List.Pairwise.nil, fun _ _ x hx => by simp at hx⟩
  | x :: r, y, h => by
    simp only [okR, Bool.and_eq_true, Bool.not_eq_true'] at h
    obtain ⟨h1, h2, h3⟩ := okR_pw h.2.2
    have h4 := h3 x rfl
    refine ⟨fun z hz => ?_, List.pairwise_cons.2 ⟨h4, h2⟩, fun z hz u hu => ?_⟩
    · rcases List.mem_cons.1 hz with rfl | hz
      · exact h.1
      · exact h1 z hz
    · subst hz
      have hzx := (badI_iff z x).1 h.2.1
      rcases List.mem_cons.1 hu with rfl | hu
      · exact hzx
      · exact ltIt_tr hzx (h4 u hu)
theorem okR_of : ∀ {s : List Item} {y : Option Item}, (∀ x ∈ s, okI x = true) → s.Pairwise ltIt → (∀ z, y = some z → ∀ x ∈ s, ltIt z x) → okR y s = true
  | [], _, _, _, _ => rfl
  | x :: r, y, h1, h2, h3 => by
    have h2' := List.pairwise_cons.1 h2
    simp only [okR, Bool.and_eq_true, Bool.not_eq_true']
    refine ⟨h1 x (by simp), ?_, okR_of (fun z hz => h1 z (by simp [hz])) h2'.2 fun z hz u hu => ?_⟩
    · cases y with
      | none => rfl
      | some z => exact (badI_iff z x).2 (h3 z rfl x (by simp))
    · cases hz; exact h2'.1 u hu
theorem gathI_pw (xs : List Item) : (gathI xs).Pairwise ltIt := by
  unfold gathI
  refine List.pairwise_map.2 ((gathM_asc (chI_keyd xs)).imp_of_mem fun {a b} ha hb h => ?_)
  obtain ⟨x, _, ea⟩ := gathI_key ha
  obtain ⟨y, _, eb⟩ := gathI_key hb
  obtain ⟨k, d⟩ := a
  obtain ⟨k', d'⟩ := b
  have ea : k = kI x := ea
  have eb : k' = kI y := eb
  subst ea eb
  have h : ltK (kI x) (kI y) = true := h
  simp only [kI, ltK, Bool.or_eq_true, Bool.and_eq_true, decide_eq_true_eq] at h
  show x.Key < y.Key ∨ (x.Key = y.Key ∧ x.Val < y.Val)
  rcases h with h | ⟨he, h | ⟨_, h | ⟨_, h⟩⟩⟩
  · exact .inl h
  · exact .inr ⟨he, h⟩
  · omega
  · cases h
theorem mem_gathI {xs : List Item} {z : Item} : z ∈ gathI xs ↔ z.Count = sumK (chI xs) (kI z) ∧ z.Count ≠ 0 := by
  unfold gathI
  rw [List.mem_map]
  constructor
  · rintro ⟨⟨k, d⟩, hp, rfl⟩
    obtain ⟨x, _, e⟩ := gathI_key hp
    have e : k = kI x := e
    subst e
    exact mem_gathM.1 hp
  · rintro ⟨h1, h2⟩
    exact ⟨(kI z, z.Count), mem_gathM.2 ⟨h1, h2⟩, rfl⟩
theorem gathI_from {xs : List Item} {z : Item} (h : z ∈ gathI xs) : ∃ x ∈ xs, x.Key = z.Key ∧ x.Val = z.Val := by
  obtain ⟨h1, h2⟩ := mem_gathI.1 h
  obtain ⟨q, hq, e⟩ := sumK_key (h1 ▸ h2)
  obtain ⟨x, hx, rfl⟩ := List.mem_map.1 hq
  have e : kI x = kI z := e
  simp only [kI, List.cons.injEq, and_true] at e
  exact ⟨x, hx, e.1, e.2⟩
theorem mem_onceI {s : List Item} {z : Item} : z ∈ onceI s ↔ ∃ x ∈ s, 0 < x.Count ∧ z = ⟨x.Key, x.Val, 1⟩ := by
  unfold onceI
  simp only [List.mem_map, List.mem_filter, decide_eq_true_eq]
  constructor
  · rintro ⟨x, ⟨h1, h2⟩, rfl⟩; exact ⟨x, h1, h2, rfl⟩
  · rintro ⟨x, h1, h2, rfl⟩; exact ⟨x, ⟨h1, h2⟩, rfl⟩
theorem onceI_pw {s : List Item} (h : s.Pairwise ltIt) : (onceI s).Pairwise ltIt :=
  List.pairwise_map.2 ((h.sublist List.filter_sublist).imp fun h => h)
theorem l3K_pw {s : List Item} (h : s.Pairwise ltIt) (k : Int) : (l3K s k).Pairwise ltIt := by
  refine List.pairwise_map.2 ((h.sublist List.filter_sublist).imp_of_mem fun {a b} ha hb h => ?_)
  have ha := (List.mem_filter.1 ha).2
  have hb := (List.mem_filter.1 hb).2
  simp only [Bool.and_eq_true, decide_eq_true_eq] at ha hb
  unfold ltIt at h
  exact .inr ⟨rfl, show a.Val < b.Val by omega⟩
theorem mem_l3K {s : List Item} {k : Int} {z : Item} : z ∈ l3K s k ↔ ∃ x ∈ s, x.Key = k ∧ 0 < x.Count ∧ z = ⟨x.Key, x.Val, 1⟩ := by
  unfold l3K
  simp only [List.mem_map, List.mem_filter, Bool.and_eq_true, decide_eq_true_eq]
  constructor
  · rintro ⟨x, ⟨h1, h2, h3⟩, rfl⟩; exact ⟨x, h1, h2, h3, by rw [h2]⟩
  · rintro ⟨x, h1, h2, h3, rfl⟩; exact ⟨x, ⟨h1, h2, h3⟩, by rw [h2]⟩
theorem onceK_eq {s : List Item} (h : okR none s = true) : onceK s = onceI s := by
  obtain ⟨h1, h2, _⟩ := okR_pw h
  refine pw_eq (lt := ltIt) ltIt_irr ltIt_tr ?_ (onceI_pw h2) fun z => ?_
  · have hk : ∀ {k : Int} {z : Item}, z ∈ l3K s k → z.Key = k := fun hz => by
      obtain ⟨x, _, e, _, rfl⟩ := mem_l3K.1 hz
      exact e
    have hc : ∀ {k k' : Int}, k < k' → ∀ a ∈ l3K s k, ∀ b ∈ l3K s k', ltIt a b := fun hlt a ha b hb => .inl (by rw [hk ha, hk hb]; exact hlt)
    show (l3K s 0 ++ (l3K s 1 ++ (l3K s 2 ++ (l3K s 3 ++ [])))).Pairwise ltIt
    rw [List.append_nil]
    refine List.pairwise_append.2 ⟨l3K_pw h2 0, List.pairwise_append.2 ⟨l3K_pw h2 1, List.pairwise_append.2 ⟨l3K_pw h2 2, l3K_pw h2 3, hc (by omega)⟩, fun a ha b hb => ?_⟩, fun a ha b hb => ?_⟩
    · rcases List.mem_append.1 hb with hb | hb
      · exact hc (by omega) a ha b hb
      · exact hc (by omega) a ha b hb
    · rcases List.mem_append.1 hb with hb | hb
      · exact hc (by omega) a ha b hb
      · rcases List.mem_append.1 hb with hb | hb
        · exact hc (by omega) a ha b hb
        · exact hc (by omega) a ha b hb
  · rw [mem_onceI]
    unfold onceK
    rw [List.mem_flatMap]
    constructor
    · rintro ⟨k, _, hz⟩
      obtain ⟨x, a, _, b, c⟩ := mem_l3K.1 hz
      exact ⟨x, a, b, c⟩
    · rintro ⟨x, a, b, c⟩
      have hx := h1 x a
      simp only [okI, decide_eq_true_eq] at hx
      refine ⟨x.Key, ?_, mem_l3K.2 ⟨x, a, rfl, b, c⟩⟩
      have : x.Key = 0 ∨ x.Key = 1 ∨ x.Key = 2 ∨ x.Key = 3 := by omega
      simp
      exact this
/-- The keys that hold, as a set. -/
def canon (P : Int → Bool) : List Item := (([0, 1, 2, 3] : List Int).filter P).map fun k => ⟨k, 0, 1⟩
theorem mem_canon {P : Int → Bool} {z : Item} : z ∈ canon P ↔ (0 ≤ z.Key ∧ z.Key ≤ 3) ∧ P z.Key = true ∧ z.Val = 0 ∧ z.Count = 1 := by
  unfold canon
  simp only [List.mem_map, List.mem_filter]
  constructor
  · rintro ⟨k, ⟨h1, h2⟩, rfl⟩
    simp at h1
    exact ⟨⟨by simp only; omega, by simp only; omega⟩, h2, rfl, rfl⟩
  · rintro ⟨h1, h2, h3, h4⟩
    refine ⟨z.Key, ⟨?_, h2⟩, ?_⟩
    · simp; omega
    · obtain ⟨k, v, c⟩ := z
      have h3 : v = 0 := h3
      have h4 : c = 1 := h4
      subst h3 h4
      rfl
theorem canon_pw (P : Int → Bool) : (canon P).Pairwise ltIt := by
  refine List.pairwise_map.2 (List.Pairwise.sublist List.filter_sublist ?_)
  show List.Pairwise (fun a b => ltIt ⟨a, 0, 1⟩ ⟨b, 0, 1⟩) ([0, 1, 2, 3] : List Int)
  unfold ltIt
  simp
theorem canon_len (P : Int → Bool) : (canon P).length ≤ 4 := by
  unfold canon
  rw [List.length_map]
  exact List.length_filter_le _ _
theorem canon_ok (P : Int → Bool) : setOk (canon P) = true := by
  simp only [setOk, Bool.and_eq_true, decide_eq_true_eq]
  refine ⟨okR_of (fun x hx => ?_) (canon_pw P) (fun z hz => by cases hz), Nat.le_trans (canon_len P) (by omega)⟩
  obtain ⟨h1, _, h3, h4⟩ := mem_canon.1 hx
  simp only [okI, decide_eq_true_eq]
  omega
/-- A set that is well formed and small. -/
structure G9 (s : List Item) : Prop where
  ok : setOk s = true
  len : s.length ≤ 9
  small : Small 240 s
theorem G9.item {s : List Item} (h : G9 s) {x : Item} (hx : x ∈ s) : 0 ≤ x.Key ∧ x.Key ≤ 3 ∧ 0 ≤ x.Val := by
  have := h.ok
  simp only [setOk, Bool.and_eq_true] at this
  have := (okR_pw this.1).1 x hx
  simp only [okI, decide_eq_true_eq] at this
  omega
theorem canon_G9 (P : Int → Bool) : G9 (canon P) :=
  ⟨canon_ok P, Nat.le_trans (canon_len P) (by omega), fun x hx => by have := (mem_canon.1 hx).2.2.2; omega⟩
theorem mul_bound {a b : Int} (ha : -240 ≤ a ∧ a ≤ 240) (hb : -240 ≤ b ∧ b ≤ 240) : -57600 ≤ a * b ∧ a * b ≤ 57600 := by
  have h1 : a.natAbs ≤ 240 := by omega
  have h2 : b.natAbs ≤ 240 := by omega
  have h3 : (a * b).natAbs ≤ 240 * 240 := by rw [Int.natAbs_mul]; exact Nat.mul_le_mul h1 h2
  omega
section
variable {ties first now : List Item} (ht : G9 ties) (hf : G9 first) (hn : G9 now)
include ht hf hn
theorem allI_ok : (allI ties first now).length ≤ 90 ∧ Small 57600 (allI ties first now) ∧ ∀ x ∈ allI ties first now, 0 ≤ x.Key ∧ x.Key ≤ 3 ∧ x.Val = 0 := by
  refine ⟨?_, fun x hx => ?_, fun x hx => ?_⟩
  · have h1 := leadI_len ties now
    have h2 := Nat.mul_le_mul ht.len hn.len
    have h3 := hf.len
    unfold allI
    rw [List.length_append, List.length_map]
    omega
  · rcases List.mem_append.1 hx with h | h
    · obtain ⟨y, hy, rfl⟩ := List.mem_map.1 h
      have := hf.small y hy
      simp only [keyI]
      omega
    · obtain ⟨y, hy, h⟩ := List.mem_flatMap.1 h
      obtain ⟨z, hz, rfl⟩ := List.mem_map.1 h
      have hz := (List.mem_filter.1 hz).1
      have := mul_bound (ht.small y hy) (hn.small z hz)
      simp only
      rw [ar_mul (by omega)]
      exact this
  · rcases List.mem_append.1 hx with h | h
    · obtain ⟨y, hy, rfl⟩ := List.mem_map.1 h
      have := hf.item hy
      exact ⟨this.1, this.2.1, rfl⟩
    · obtain ⟨y, hy, h⟩ := List.mem_flatMap.1 h
      obtain ⟨z, hz, rfl⟩ := List.mem_map.1 h
      have := ht.item hy
      have h1 := Int.tmod_nonneg 4 this.2.2
      have h2 := Int.tmod_lt_of_pos y.Val (show (0 : Int) < 4 by omega)
      exact ⟨h1, show y.Val.tmod 4 ≤ 3 by omega, rfl⟩
theorem allI_abs : absT (chI (allI ties first now)) ≤ 5184000 := by
  obtain ⟨h1, h2, _⟩ := allI_ok ht hf hn
  have := absT_chI h2
  omega
theorem allI_inR : ∀ x ∈ allI ties first now, InR x.Count := fun x hx => by
  have := (allI_ok ht hf hn).2.1 x hx
  unfold InR; omega
theorem gath_ok : setOk (gathI (allI ties first now)) = true := by
  obtain ⟨h1, h2, h3⟩ := allI_ok ht hf hn
  have hl := gathI_len (allI_inR ht hf hn)
  have hs := gathI_small h2 (by omega)
  simp only [setOk, Bool.and_eq_true, decide_eq_true_eq]
  refine ⟨okR_of (fun x hx => ?_) (gathI_pw _) (fun z hz => by cases hz), by omega⟩
  obtain ⟨y, hy, e1, e2⟩ := gathI_from hx
  have := h3 y hy
  have hc := (mem_gathI.1 hx).2
  have hb := hs x hx
  simp only [okI, decide_eq_true_eq]
  omega
/-- The sum of a key's changes in a step. -/
def stepS_ (ties first now : List Item) (k : Int) : Int := sumT (chI (allI ties first now)) [k, 0, 0]
theorem step_canon : onceI (gathI (allI ties first now)) = canon fun k => decide (0 < stepS_ ties first now k) := by
  have habs := allI_abs ht hf hn
  refine pw_eq (lt := ltIt) ltIt_irr ltIt_tr (onceI_pw (gathI_pw _)) (canon_pw _) fun z => ?_
  rw [mem_onceI, mem_canon]
  constructor
  · rintro ⟨x, h1, h2, rfl⟩
    obtain ⟨y, hy, e1, e2⟩ := gathI_from h1
    have h3 := (allI_ok ht hf hn).2.2 y hy
    have h4 := (mem_gathI.1 h1).1
    rw [sumK_eq (by omega)] at h4
    have hv : x.Val = 0 := by omega
    refine ⟨⟨by simp only; omega, by simp only; omega⟩, ?_, hv, rfl⟩
    have hk : kI x = [x.Key, 0, 0] := by unfold kI; rw [hv]
    exact decide_eq_true (show 0 < sumT (chI (allI ties first now)) [x.Key, 0, 0] by rw [← hk, ← h4]; exact h2)
  · rintro ⟨h1, h2, h3, h4⟩
    have h2 : 0 < sumT (chI (allI ties first now)) [z.Key, 0, 0] := of_decide_eq_true h2
    refine ⟨⟨z.Key, 0, sumT (chI (allI ties first now)) [z.Key, 0, 0]⟩, mem_gathI.2 ⟨?_, show sumT (chI (allI ties first now)) [z.Key, 0, 0] ≠ 0 by omega⟩, h2, ?_⟩
    · rw [sumK_eq (by omega)]; rfl
    · obtain ⟨k, v, c⟩ := z
      have h3 : v = 0 := h3
      have h4 : c = 1 := h4
      subst h3 h4
      rfl
end
def stepI (ties first now : List Item) : List Item := onceI (gathI (allI ties first now))
theorem stepI_G9 {ties first now : List Item} (ht : G9 ties) (hf : G9 first) (hn : G9 now) : G9 (stepI ties first now) := by
  unfold stepI
  rw [step_canon ht hf hn]
  exact canon_G9 _
theorem nil_G9 : G9 [] := ⟨rfl, by simp, fun x hx => by simp at hx⟩
/-- What is drawn for a set: well formed or not, it is small. -/
structure D9 (s : List Item) : Prop where
  len : s.length ≤ 9
  small : Small 240 s
theorem D9.g {s : List Item} (h : D9 s) (ho : setOk s = true) : G9 s := ⟨ho, h.len, h.small⟩
theorem G9.d {s : List Item} (h : G9 s) : D9 s := ⟨h.len, h.small⟩
/-- The step of the program and the one of the reference. -/
theorem steps_ok {ties first now : List Item} (ht : D9 ties) (hf : D9 first) (hn : D9 now) :
    (p_impl_LoopStep ties first now ∧ v_impl_LoopStep ties first now = if setOk ties = true ∧ setOk first = true ∧ setOk now = true then stepI ties first now else []) ∧
    (p_spec_LoopStep ties first now ∧ v_spec_LoopStep ties first now = if setOk ties = true ∧ setOk first = true ∧ setOk now = true then stepI ties first now else []) := by
  have h1 := ht.len
  have h2 := hf.len
  have h3 := hn.len
  refine ⟨LoopStep_ok ties first now (by omega) (by omega) (by omega) (fun a b c => allI_inR (ht.g a) (hf.g b) (hn.g c)), ?_⟩
  obtain ⟨q1, q2⟩ := specLoopStep_ok ties first now (by omega) (by omega) (by omega) (fun a b c => ⟨allI_inR (ht.g a) (hf.g b) (hn.g c), gath_ok (ht.g a) (hf.g b) (hn.g c)⟩)
  refine ⟨q1, q2.trans ?_⟩
  by_cases h : setOk ties = true ∧ setOk first = true ∧ setOk now = true
  · rw [if_pos h, if_pos h]
    have hg := gath_ok (ht.g h.1) (hf.g h.2.1) (hn.g h.2.2)
    simp only [setOk, Bool.and_eq_true] at hg
    exact onceK_eq hg.1
  · rw [if_neg h, if_neg h]
end Go.Proofs.Ytopcofkpggefkaa

namespace Go.Proofs.Ytopcofkpggefkaa
open Go
theorem item_ext {x y : Item} (h1 : x.Key = y.Key) (h2 : x.Val = y.Val) (h3 : x.Count = y.Count) : x = y := by
  cases x; cases y; simp only at h1 h2 h3; rw [h1, h2, h3]
theorem eqIt (x y : Item) : (cmp .eql x.Key y.Key && (cmp .eql x.Val y.Val && (cmp .eql x.Count y.Count && true))) = true ↔ x = y := by
  rw [cmp_eql', cmp_eql', cmp_eql']
  simp only [Bool.and_eq_true, decide_eq_true_eq, and_true]
  constructor
  · rintro ⟨h1, h2, h3⟩; exact item_ext h1 h2 h3
  · rintro rfl; exact ⟨rfl, rfl, rfl⟩
theorem lwItems_ok (a b : List Item) (hl : a.length < 1000000000) : p_laws_lwItems a b ∧ (v_laws_lwItems a b = true ↔ a = b) := by
  by_cases hlen : a.length = b.length
  · have hz : (a.zip b).length = a.length := by rw [List.length_zip]; omega
    have key : ∃ q, Runs (fun s => ocLp ((fun (s : Int) => laws_lwItems_c2_r a b s) s)) (fun s => laws_lwItems_c2_r_ob a b s) 0 q ∧ ((q = .x () ∧ a = b) ∨ (q = .r false ∧ a ≠ b)) := by
      refine Runs.list (a.zip b) (fun i (_ : Unit) => (i : Int)) (fun l _ => a.take l.length = b.take l.length) (b0 := ()) rfl rfl ?_ ?_
      · rintro l ⟨u, v⟩ r ⟨⟩ hx hI
        have hll : l.length < a.length := by rw [← hz, hx]; simp
        have hg : (a.zip b)[l.length]? = some (u, v) := by rw [hx]; simp
        rw [List.getElem?_zip_eq_some] at hg
        have hu : rd .item a (l.length : Int) = u := by
          show a.getD (Int.toNat l.length) _ = u
          rw [Int.toNat_natCast, List.getD_eq_getElem?_getD, hg.1]; rfl
        have hv : rd .item b (l.length : Int) = v := by
          show b.getD (Int.toNat l.length) _ = v
          rw [Int.toNat_natCast, List.getD_eq_getElem?_getD, hg.2]; rfl
        have hla : lenI .item a = (a.length : Int) := rfl
        have hlb : lenI .item b = (b.length : Int) := rfl
        have hlss : cmp .lss (l.length : Int) (lenI .item a) = true := by rw [cmp_lss', hla]; simp; omega
        have hi1 : inb (l.length : Int) (lenI .item a) := ⟨by omega, by omega⟩
        have hi2 : inb (l.length : Int) (lenI .item b) := ⟨by omega, by omega⟩
        refine ⟨by simp [laws_lwItems_c2_r_ob, hlss, hi1, hi2, laws_lwItems_c2_r_t, Tr.ob, AllP], ?_⟩
        show (∃ b', ocLp (laws_lwItems_c2_r a b (l.length : Int)) = _ ∧ _) ∨ ∃ q, ocLp (laws_lwItems_c2_r a b (l.length : Int)) = _ ∧ _
        simp only [laws_lwItems_c2_r, hlss, hu, hv, succ_mid (l := l) (by omega), laws_lwItems_c2_r_t, Tr.val]
        by_cases he : u = v
        · left
          subst he
          rw [(eqIt u u).2 rfl]
          refine ⟨(), rfl, ?_⟩
          rw [List.length_append, List.length_singleton, List.take_add_one, List.take_add_one, hI, hg.1, hg.2]
        · right
          have hne : (cmp .eql u.Key v.Key && (cmp .eql u.Val v.Val && (cmp .eql u.Count v.Count && true))) = false := by
            rw [← Bool.not_eq_true, eqIt]; exact he
          rw [hne]
          refine ⟨.r false, rfl, .inr ⟨rfl, fun hab => he ?_⟩⟩
          have := hg.1
          rw [hab, hg.2] at this
          exact (Option.some.inj this).symm
      · rintro ⟨⟩ hI
        have hend : cmp .lss ((a.zip b).length : Int) (lenI .item a) = false := by rw [cmp_lss', hz]; simp [lenI]
        rw [hz, List.take_length, hlen, List.take_length] at hI
        simp only [laws_lwItems_c2_r_ob, laws_lwItems_c2_r, hend, laws_lwItems_c2_r_t, Tr.val, Tr.ob, AllP]
        exact ⟨by simp, _, rfl, .inl ⟨rfl, hI⟩⟩
    obtain ⟨q, h1, h2⟩ := key
    have b2 : laws_lwItems_c2_ob a b := h1.t
    have hn : cmp .neq (lenI .item a) (lenI .item b) = false := by
      show cmp .neq (a.length : Int) (b.length : Int) = false
      rw [cmp_neq', hlen]; simp
    rcases h2 with ⟨rfl, h2⟩ | ⟨rfl, h2⟩
    · have a2 : laws_lwItems_c2 a b = .x () := h1.v
      simp only [p_laws_lwItems, v_laws_lwItems, laws_lwItems_b_ob, laws_lwItems_b, laws_lwItems_c1_ob, laws_lwItems_c1, hn, a2, ocR, laws_lwItems_b_t, laws_lwItems_c1_S, laws_lwItems_c1_t, laws_lwItems_c2_S, lpS, Tr.val, Tr.ob]
      exact ⟨by simp [b2], fun _ => h2, fun _ => trivial⟩
    · have a2 : laws_lwItems_c2 a b = .r false := h1.v
      simp only [p_laws_lwItems, v_laws_lwItems, laws_lwItems_b_ob, laws_lwItems_b, laws_lwItems_c1_ob, laws_lwItems_c1, hn, a2, ocR, laws_lwItems_b_t, laws_lwItems_c1_S, laws_lwItems_c1_t, laws_lwItems_c2_S, lpS, Tr.val, Tr.ob]
      exact ⟨by simp [b2], (fun h => by cases h), fun h => absurd h h2⟩
  · have hn : cmp .neq (lenI .item a) (lenI .item b) = true := by
      show cmp .neq (a.length : Int) (b.length : Int) = true
      rw [cmp_neq']; simp; omega
    simp only [p_laws_lwItems, v_laws_lwItems, laws_lwItems_b_ob, laws_lwItems_b, hn, ocR, laws_lwItems_b_t, laws_lwItems_c1_S, Tr.val, Tr.ob]
    exact ⟨by simp, (fun h => by cases h), fun h => absurd (by rw [h]) hlen⟩
theorem lwItems_p {a b : List Item} (hl : a.length < 1000000000) : p_laws_lwItems a b := (lwItems_ok a b hl).1
theorem lwItems_self {a : List Item} (hl : a.length < 1000000000) : v_laws_lwItems a a = true := (lwItems_ok a a hl).2.2 rfl
end Go.Proofs.Ytopcofkpggefkaa

namespace Go.Proofs.Ytopcofkpggefkaa
open Go
def iterI (ties first : List Item) : Nat → List Item
  | 0 => []
  | n + 1 => stepI ties first (iterI ties first n)
theorem iterI_G9 {ties first : List Item} (ht : G9 ties) (hf : G9 first) : ∀ n, G9 (iterI ties first n)
  | 0 => nil_G9
  | n + 1 => stepI_G9 ht hf (iterI_G9 ht hf n)
/-- What the program's loop comes to, and the reference's. -/
def roundsV (ties first : List Item) (n : Int) : List Item := if setOk ties = true ∧ setOk first = true ∧ 0 ≤ n ∧ n ≤ 6 then iterI ties first n.toNat else []
theorem specLoopSet_ok {ties first : List Item} (ht : D9 ties) (hf : D9 first) (n : Int) : p_spec_LoopSet ties first n ∧ v_spec_LoopSet ties first n = roundsV ties first n := by
  have h1 := ht.len
  have h2 := hf.len
  obtain ⟨a1, a2⟩ := spec_SetOk_ok ties (by omega)
  obtain ⟨b1, b2⟩ := spec_SetOk_ok first (by omega)
  have c1 := l6In_p n 0 6
  have c2 := l6In_v n 0 6
  by_cases h : setOk ties = true ∧ setOk first = true ∧ 0 ≤ n ∧ n ≤ 6
  · obtain ⟨e1, e2, e3, e4⟩ := h
    have gt := ht.g e1
    have gf := hf.g e2
    obtain ⟨m, rfl⟩ : ∃ m : Nat, n = (m : Int) := ⟨n.toNat, by omega⟩
    have key : Runs (fun s => ocLp ((fun (s : (List Item) × Int) => spec_LoopSet_c2_r ties first (m : Int) s.1 s.2) s)) (fun s => spec_LoopSet_c2_r_ob ties first (m : Int) s.1 s.2) ([], 0) (.x (iterI ties first m)) := by
      have hm : (List.replicate m ()).length = m := List.length_replicate
      have hr := Runs.fold (step := fun s => ocLp ((fun (s : (List Item) × Int) => spec_LoopSet_c2_r ties first (m : Int) s.1 s.2) s)) (ob := fun s => spec_LoopSet_c2_r_ob ties first (m : Int) s.1 s.2) (fin := .x (iterI ties first m)) (s0 := ([], 0))
        (List.replicate m ()) (fun i b => (b, (i : Int))) (fun l => iterI ties first l.length) rfl (fun l x r hx => ?_) ?_
      · exact hr
      · have hlen : m = l.length + (r.length + 1) := by rw [← hm, hx]; simp
        have hlss : cmp .lss (l.length : Int) (m : Int) = true := by rw [cmp_lss']; simp; omega
        have gn := iterI_G9 gt gf l.length
        obtain ⟨s1, s2⟩ := (steps_ok ht hf gn.d).2
        rw [if_pos ⟨e1, e2, gn.ok⟩] at s2
        simp only [spec_LoopSet_c2_r_ob, spec_LoopSet_c2_r, hlss, s2, succ_mid (l := l) (by omega), spec_LoopSet_c2_r_t, Tr.val, Tr.ob, AllP]
        exact ⟨by simp [s1], by simp [ocLp, iterI]⟩
      · have hend : cmp .lss ((List.replicate m ()).length : Int) (m : Int) = false := by rw [cmp_lss', hm]; simp
        simp only [spec_LoopSet_c2_r_ob, spec_LoopSet_c2_r, hend, spec_LoopSet_c2_r_t, Tr.val, Tr.ob, AllP]
        exact ⟨by simp, by rw [hm]; rfl⟩
    have k1 : spec_LoopSet_c2 ties first (m : Int) = .x (iterI ties first m) := key.v
    have k2 : spec_LoopSet_c2_ob ties first (m : Int) := key.t
    have q1 : v_spec_l6In (m : Int) 0 6 = true := by rw [c2]; simp; omega
    rw [roundsV, if_pos ⟨e1, e2, e3, e4⟩]
    simp only [p_spec_LoopSet, v_spec_LoopSet, spec_LoopSet_b_ob, spec_LoopSet_b, spec_LoopSet_c1_ob, spec_LoopSet_c1, a2, b2, e1, e2, q1, k1, Bool.not_true, cond_false, ocR, Int.toNat_natCast, spec_LoopSet_b_t, spec_LoopSet_c1_S, spec_LoopSet_c1_t, spec_LoopSet_c2_S, lpS, Tr.val, Tr.ob, AllP]
    exact ⟨by simp [a1, b1, c1, k2], trivial⟩
  · have hc : cond (cond (!v_spec_SetOk ties) true (!v_spec_SetOk first)) true (!v_spec_l6In n 0 6) = true := by
      rw [a2, b2, c2]
      cases e1 : setOk ties <;> cases e2 : setOk first <;> first | rfl | (simp; have : ¬ (0 ≤ n ∧ n ≤ 6) := fun h' => h ⟨e1, e2, h'⟩; omega)
    rw [roundsV, if_neg h]
    simp only [p_spec_LoopSet, v_spec_LoopSet, spec_LoopSet_b_ob, spec_LoopSet_b, hc, ocR, spec_LoopSet_b_t, spec_LoopSet_c1_S, Tr.val, Tr.ob, AllP]
    exact ⟨by simp [a1, b1, c1], trivial⟩
end Go.Proofs.Ytopcofkpggefkaa

namespace Go.Proofs.Ytopcofkpggefkaa
open Go
def sumF (φ : List Int → Bool) : List (List Int × Int) → Int
  | [] => 0
  | q :: r => (if φ q.1 = true then q.2 else 0) + sumF φ r
theorem absT_append : ∀ l l', absT (l ++ l') = absT l + absT l'
  | [], l' => by simp [absT]
  | q :: r, l' => by have := absT_append r l'; simp only [List.cons_append, absT, this]; omega
theorem sumT_append' : ∀ (l l' : List (List Int × Int)) (k : List Int), sumT (l ++ l') k = sumT l k + sumT l' k
  | [], l', k => by simp [sumT]
  | q :: r, l', k => by have := sumT_append' r l' k; simp only [List.cons_append, sumT, this]; omega
theorem sumT_sumF (k : List Int) : ∀ l, sumT l k = sumF (fun x => decide (x = k)) l
  | [] => rfl
  | q :: r => by simp only [sumT, sumF, sumT_sumF k r, decide_eq_true_eq]
theorem sumF_nz (φ : List Int → Bool) : ∀ m : MP, sumF φ (m.filter fun p => p.2 != 0) = sumF φ m ∧ absT (m.filter fun p => p.2 != 0) = absT m
  | [] => ⟨rfl, rfl⟩
  | p :: m => by
    obtain ⟨h1, h2⟩ := sumF_nz φ m
    by_cases h : p.2 = 0
    · simp [h, sumF, absT, h1, h2]
    · simp [h, sumF, absT, h1, h2]
theorem insP_sums (φ : List Int → Bool) (q : List Int × Int) : ∀ m : MP, (if 0 ≤ q.2 then q.2 else -q.2) + absT m ≤ 1000000000000000 →
    sumF φ (insP q m) = (if φ q.1 = true then q.2 else 0) + sumF φ m ∧ absT (insP q m) ≤ (if 0 ≤ q.2 then q.2 else -q.2) + absT m
  | [], _ => by simp [insP, sumF, absT]
  | p :: m, h => by
    have hn := absT_nonneg m
    unfold insP
    split
    · exact ⟨rfl, Int.le_refl _⟩
    · split
      · rename_i h1 h2
        simp only [absT] at h
        have ha : ar .add .i64 q.2 p.2 = q.2 + p.2 := ar_add (by split at h <;> split at h <;> omega)
        simp only [sumF, absT, ha, h2]
        constructor
        · split <;> omega
        · split <;> split <;> split <;> omega
      · simp only [absT] at h
        obtain ⟨h1, h2⟩ := insP_sums φ q m (by split at h <;> split at h <;> split <;> omega)
        simp only [sumF, absT, h1]
        exact ⟨by omega, by omega⟩
theorem accP_sums (φ : List Int → Bool) (l : List (List Int × Int)) (h : absT l ≤ 1000000000000000) : sumF φ (accP l) = sumF φ l ∧ absT (accP l) ≤ absT l := by
  suffices ∀ (l : List (List Int × Int)) (m : MP), absT m + absT l ≤ 1000000000000000 → sumF φ (l.foldl (fun m q => insP q m) m) = sumF φ m + sumF φ l ∧ absT (l.foldl (fun m q => insP q m) m) ≤ absT m + absT l by
    have := this l [] (by simp [absT]; exact h)
    simpa [accP, sumF, absT] using this
  intro l
  induction l with
  | nil => intro m _; simp [sumF, absT]
  | cons q r ih =>
    intro m h
    have hn := absT_nonneg r
    simp only [absT] at h
    obtain ⟨h1, h2⟩ := insP_sums φ q m (by omega)
    obtain ⟨h3, h4⟩ := ih (insP q m) (by omega)
    rw [List.foldl_cons]
    simp only [sumF, absT]
    exact ⟨by omega, by omega⟩
theorem absT_wrap : ∀ {l : List (List Int × Int)}, absT l ≤ 1000000000000000 → ∀ q ∈ l, IntKind.i64.wrap q.2 = q.2
  | [], _, q, hq => by simp at hq
  | p :: r, h, q, hq => by
    have hn := absT_nonneg r
    simp only [absT] at h
    rcases List.mem_cons.1 hq with rfl | hq
    · exact IntWalk.i64_in _ (by split at h <;> omega)
    · exact absT_wrap (l := r) (by split at h <;> omega) q hq
theorem gathM_sums {n : Nat} {l : List (List Int × Int)} (hk : Keyd n l) (h : absT l ≤ 1000000000000000) (φ : List Int → Bool) : sumF φ (gathM l) = sumF φ l ∧ absT (gathM l) ≤ absT l := by
  obtain ⟨h1, h2⟩ := accP_sums φ l h
  obtain ⟨h3, h4⟩ := sumF_nz φ (accP l)
  rw [← accP_gathM hk (absT_wrap h), h3, h4]
  exact ⟨h1, h2⟩
/-- What is left depends on the sums alone. -/
theorem gathM_congr {n : Nat} {l l' : List (List Int × Int)} (hk : Keyd n l) (hk' : Keyd n l') (h : absT l ≤ 1000000000000000) (h' : absT l' ≤ 1000000000000000) (hs : ∀ k, sumT l k = sumT l' k) : gathM l = gathM l' :=
  asc_mem (gathM_asc hk) (gathM_asc hk') fun p => by rw [mem_gathM, mem_gathM, sumK_eq h, sumK_eq h', hs]
theorem chI_gathI (xs : List Item) : chI (gathI xs) = gathM (chI xs) := by
  unfold gathI
  have : ∀ m : MP, (∀ p ∈ m, ∃ x ∈ xs, p.1 = kI x) → chI (m.map mkI) = m := by
    intro m
    induction m with
    | nil => exact fun _ => rfl
    | cons p m ih =>
      intro h
      obtain ⟨x, _, e⟩ := h p (by simp)
      show (kI (mkI p), (mkI p).Count) :: chI (m.map mkI) = _
      rw [ih fun q hq => h q (by simp [hq])]
      obtain ⟨k, d⟩ := p
      have e : k = kI x := e
      subst e; rfl
  exact this _ fun p hp => gathI_key hp
theorem gathR_key {xs : List Row} {p : List Int × Int} (hp : p ∈ gathM (chR xs)) : ∃ x ∈ xs, p.1 = rK x := by
  obtain ⟨h1, h2⟩ := mem_gathM.1 hp
  obtain ⟨q, hq, e⟩ := sumK_key (h1 ▸ h2)
  obtain ⟨x, hx, rfl⟩ := List.mem_map.1 hq
  exact ⟨x, hx, e.symm⟩
theorem chR_gathR (xs : List Row) : chR (gathR xs) = gathM (chR xs) := by
  unfold gathR
  have : ∀ m : MP, (∀ p ∈ m, ∃ x ∈ xs, p.1 = rK x) → chR (m.map mkR) = m := by
    intro m
    induction m with
    | nil => exact fun _ => rfl
    | cons p m ih =>
      intro h
      obtain ⟨x, _, e⟩ := h p (by simp)
      show (rK (mkR p), (mkR p).Diff) :: chR (m.map mkR) = _
      rw [ih fun q hq => h q (by simp [hq])]
      obtain ⟨k, d⟩ := p
      have e : k = rK x := e
      subst e; rfl
  exact this _ fun p hp => gathR_key hp
theorem chI_append (a b : List Item) : chI (a ++ b) = chI a ++ chI b := List.map_append
theorem chR_append (a b : List Row) : chR (a ++ b) = chR a ++ chR b := List.map_append
theorem gathI_congr {a b : List Item} (ha : absT (chI a) ≤ 1000000000000000) (hb : absT (chI b) ≤ 1000000000000000) (h : ∀ k, sumT (chI a) k = sumT (chI b) k) : gathI a = gathI b :=
  congrArg (List.map mkI) (gathM_congr (chI_keyd a) (chI_keyd b) ha hb h)
theorem gathR_congr {a b : List Row} (ha : absT (chR a) ≤ 1000000000000000) (hb : absT (chR b) ≤ 1000000000000000) (h : ∀ k, sumT (chR a) k = sumT (chR b) k) : gathR a = gathR b :=
  congrArg (List.map mkR) (gathM_congr (chR_keyd a) (chR_keyd b) ha hb h)
theorem gathI_sumT {a : List Item} (ha : absT (chI a) ≤ 1000000000000000) (k : List Int) : sumT (chI (gathI a)) k = sumT (chI a) k := by
  rw [chI_gathI, sumT_sumF, sumT_sumF]
  exact (gathM_sums (chI_keyd a) ha _).1
theorem gathI_absT {a : List Item} (ha : absT (chI a) ≤ 1000000000000000) : absT (chI (gathI a)) ≤ absT (chI a) := by
  rw [chI_gathI]
  exact (gathM_sums (chI_keyd a) ha fun _ => true).2
theorem gathR_absT {a : List Row} (ha : absT (chR a) ≤ 1000000000000000) : absT (chR (gathR a)) ≤ absT (chR a) := by
  rw [chR_gathR]
  exact (gathM_sums (chR_keyd a) ha fun _ => true).2
theorem absT_mem : ∀ {l : List (List Int × Int)} {q : List Int × Int}, q ∈ l → -absT l ≤ q.2 ∧ q.2 ≤ absT l
  | p :: r, q, h => by
    have hn := absT_nonneg r
    simp only [absT]
    rcases List.mem_cons.1 h with rfl | h
    · split <;> omega
    · have := absT_mem h
      split <;> omega
theorem absT_chR_mem {xs : List Row} {x : Row} (h : x ∈ xs) : -absT (chR xs) ≤ x.Diff ∧ x.Diff ≤ absT (chR xs) :=
  absT_mem (q := (rK x, x.Diff)) (List.mem_map.2 ⟨x, h, rfl⟩)
theorem absT_chI_mem {xs : List Item} {x : Item} (h : x ∈ xs) : -absT (chI xs) ≤ x.Count ∧ x.Count ≤ absT (chI xs) :=
  absT_mem (q := (kI x, x.Count)) (List.mem_map.2 ⟨x, h, rfl⟩)
theorem absT_chR {c : Int} : ∀ {xs : List Row}, (∀ x ∈ xs, -c ≤ x.Diff ∧ x.Diff ≤ c) → absT (chR xs) ≤ (xs.length : Int) * c
  | [], _ => by simp [chR, absT]
  | x :: r, h => by
    have h1 := absT_chR (xs := r) (fun y hy => h y (by simp [hy]))
    have h2 := h x (by simp)
    show (if 0 ≤ x.Diff then x.Diff else -x.Diff) + absT (chR r) ≤ _
    rw [List.length_cons, Int.natCast_add, Int.add_mul]
    split <;> omega
/-- What rows come to at a time. -/
def belowT (s t : Time) : Bool := decide (s.A ≤ t.A) && decide (s.B ≤ t.B)
def itemsAt (L : List Row) (t : Time) : List Item := (L.filter fun r => belowT r.At t).map rIt
def presI (L : List Row) (t : Time) : List Item := gathI (itemsAt L t)
theorem itemsAt_append (a b : List Row) (t : Time) : itemsAt (a ++ b) t = itemsAt a t ++ itemsAt b t := by simp [itemsAt]
/-- Changes of this item, at no later time. -/
def φT (k : List Int) (t : Time) : List Int → Bool
  | [a, b, x, y] => decide ([a, b, 0] = k) && (decide (x ≤ t.A) && decide (y ≤ t.B))
  | _ => false
theorem itemsAt_sumT (k : List Int) (t : Time) : ∀ L : List Row, sumT (chI (itemsAt L t)) k = sumF (φT k t) (chR L)
  | [] => rfl
  | r :: L => by
    have ih := itemsAt_sumT k t L
    show _ = (if φT k t (rK r) = true then r.Diff else 0) + sumF (φT k t) (chR L)
    rw [← ih]
    unfold itemsAt
    by_cases h : belowT r.At t = true
    · rw [List.filter_cons_of_pos (by exact h)]
      show (if kI (rIt r) = k then r.Diff else 0) + _ = _
      have h2 : (decide (r.At.A ≤ t.A) && decide (r.At.B ≤ t.B)) = true := h
      have : φT k t (rK r) = decide (kI (rIt r) = k) := by
        show (decide ([r.Key, r.Val, 0] = k) && (decide (r.At.A ≤ t.A) && decide (r.At.B ≤ t.B))) = _
        rw [h2, Bool.and_true]; rfl
      rw [this]
      simp only [decide_eq_true_eq]
      rfl
    · rw [List.filter_cons_of_neg (by exact h)]
      have h2 : (decide (r.At.A ≤ t.A) && decide (r.At.B ≤ t.B)) = false := by simpa [belowT] using h
      have : φT k t (rK r) = false := by
        show (decide ([r.Key, r.Val, 0] = k) && (decide (r.At.A ≤ t.A) && decide (r.At.B ≤ t.B))) = _
        rw [h2, Bool.and_false]
      rw [this]
      simp
theorem itemsAt_absT (t : Time) : ∀ L : List Row, absT (chI (itemsAt L t)) ≤ absT (chR L)
  | [] => Int.le_refl _
  | r :: L => by
    have ih := itemsAt_absT t L
    show _ ≤ (if 0 ≤ r.Diff then r.Diff else -r.Diff) + absT (chR L)
    unfold itemsAt
    rw [List.filter_cons]
    split
    · show (if 0 ≤ r.Diff then r.Diff else -r.Diff) + absT (chI (itemsAt L t)) ≤ _
      omega
    · show absT (chI (itemsAt L t)) ≤ _
      split <;> omega
theorem presI_gathR {L : List Row} (h : absT (chR L) ≤ 1000000000000000) (t : Time) : presI (gathR L) t = presI L t := by
  have h2 := gathR_absT h
  have h3 := itemsAt_absT t (gathR L)
  have h4 := itemsAt_absT t L
  refine gathI_congr (by omega) (by omega) fun k => ?_
  rw [itemsAt_sumT, itemsAt_sumT, chR_gathR]
  exact (gathM_sums (chR_keyd L) h _).1
/-- The order of rows. -/
def ltRow (x y : Row) : Prop := ltK (rK x) (rK y) = true
theorem gathR_pw (xs : List Row) : (gathR xs).Pairwise ltRow := by
  have h := gathM_asc (chR_keyd xs)
  rw [← chR_gathR] at h
  have h2 := List.pairwise_map.1 (show ((gathR xs).map fun r => (rK r, r.Diff)).Pairwise (fun p q => ltK p.1 q.1 = true) from h)
  exact h2
theorem mem_gathR {xs : List Row} {z : Row} : z ∈ gathR xs ↔ z.Diff = sumK (chR xs) (rK z) ∧ z.Diff ≠ 0 := by
  have h : z ∈ gathR xs ↔ (rK z, z.Diff) ∈ chR (gathR xs) := by
    refine ⟨fun h => List.mem_map.2 ⟨z, h, rfl⟩, fun h => ?_⟩
    obtain ⟨y, hy, e⟩ := List.mem_map.1 h
    have : y = z := by
      obtain ⟨a, b, ⟨c, d⟩, f⟩ := y
      obtain ⟨a', b', ⟨c', d'⟩, f'⟩ := z
      simp [rK] at e
      obtain ⟨⟨rfl, rfl, rfl, rfl⟩, rfl⟩ := e
      rfl
    exact this ▸ hy
  rw [h, chR_gathR, mem_gathM]
theorem gathR_from {xs : List Row} {z : Row} (h : z ∈ gathR xs) : ∃ x ∈ xs, rK x = rK z := by
  obtain ⟨h1, h2⟩ := mem_gathR.1 h
  obtain ⟨q, hq, e⟩ := sumK_key (h1 ▸ h2)
  obtain ⟨x, hx, rfl⟩ := List.mem_map.1 hq
  exact ⟨x, hx, e⟩
end Go.Proofs.Ytopcofkpggefkaa

namespace Go.Proofs.Ytopcofkpggefkaa
open Go
def negI (x : Item) : Item := ⟨x.Key, x.Val, IntKind.wrap .i64 (0 - x.Count)⟩
theorem neg_sums {xs : List Item} (h : absT (chI xs) ≤ 1000000000000000) : (∀ k, sumT (chI (xs.map negI)) k = -sumT (chI xs) k) ∧ absT (chI (xs.map negI)) = absT (chI xs) := by
  induction xs with
  | nil => exact ⟨fun _ => rfl, rfl⟩
  | cons x r ih =>
    have hn := absT_nonneg (chI r)
    have h : (if 0 ≤ x.Count then x.Count else -x.Count) + absT (chI r) ≤ 1000000000000000 := h
    obtain ⟨h1, h2⟩ := ih (by split at h <;> omega)
    have hw : IntKind.wrap .i64 (0 - x.Count) = -x.Count := by rw [IntWalk.i64_in _ (by split at h <;> omega)]; omega
    constructor
    · intro k
      show (if kI x = k then IntKind.wrap .i64 (0 - x.Count) else 0) + sumT (chI (r.map negI)) k = -((if kI x = k then x.Count else 0) + sumT (chI r) k)
      rw [hw, h1]
      split <;> omega
    · show (if 0 ≤ IntKind.wrap .i64 (0 - x.Count) then IntKind.wrap .i64 (0 - x.Count) else -IntKind.wrap .i64 (0 - x.Count)) + absT (chI (r.map negI)) = (if 0 ≤ x.Count then x.Count else -x.Count) + absT (chI r)
      rw [hw, h2]
      split <;> split <;> omega
/-- What is come to at times and rounds. -/
structure FlowS (S : Nat → Nat → List Item) : Prop where
  z0 : ∀ b, S 0 b = []
  zb : ∀ a, S a 0 = []
  can : ∀ a b, ∃ P, S a b = canon P
theorem canon_absT (P : Int → Bool) : absT (chI (canon P)) ≤ 4 := by
  have h := absT_chI (c := 1) (xs := canon P) fun x hx => by have := (mem_canon.1 hx).2.2.2; omega
  have := canon_len P
  omega
theorem FlowS.abs {S : Nat → Nat → List Item} (h : FlowS S) (a b : Nat) : absT (chI (S a b)) ≤ 4 := by
  obtain ⟨P, e⟩ := h.can a b
  rw [e]; exact canon_absT P
section
variable {S : Nat → Nat → List Item}
/-- What lacks at a time (0, 1, ..) and a round (one more than 'b'). -/
def dPre (S : Nat → Nat → List Item) (a b : Nat) : List Item := S (a + 1) (b + 1) ++ ((S a (b + 1)).map negI ++ ((S (a + 1) b).map negI ++ S a b))
def dI (S : Nat → Nat → List Item) (a b : Nat) : List Item := gathI (dPre S a b)
def rowAt (a b : Int) (x : Item) : Row := ⟨x.Key, x.Val, ⟨a, b⟩, x.Count⟩
def dR (S : Nat → Nat → List Item) (a b : Nat) : List Row := (dI S a b).map (rowAt a ((b + 1 : Nat) : Int))
def colR (S : Nat → Nat → List Item) (n a : Nat) : List Row := (List.range n).flatMap (dR S a)
def allA (S : Nat → Nat → List Item) (n m : Nat) : List Row := (List.range m).flatMap (colR S n)
def rowR (S : Nat → Nat → List Item) (m b : Nat) : List Row := (List.range m).flatMap fun a => dR S a b
def allQ (S : Nat → Nat → List Item) (n m : Nat) : List Row := (List.range n).flatMap (rowR S m)
theorem colR_succ (n a : Nat) : colR S (n + 1) a = colR S n a ++ dR S a n := by simp [colR, List.range_succ, List.flatMap_append]
theorem allA_succ (n m : Nat) : allA S n (m + 1) = allA S n m ++ colR S n m := by simp [allA, List.range_succ, List.flatMap_append]
theorem rowR_succ (m b : Nat) : rowR S (m + 1) b = rowR S m b ++ dR S m b := by simp [rowR, List.range_succ, List.flatMap_append]
theorem allQ_succ (n m : Nat) : allQ S (n + 1) m = allQ S n m ++ rowR S m n := by simp [allQ, List.range_succ, List.flatMap_append]
def sS (S : Nat → Nat → List Item) (k : List Int) (a b : Nat) : Int := sumT (chI (S a b)) k
theorem dPre_sum (h : FlowS S) (a b : Nat) : (∀ k, sumT (chI (dPre S a b)) k = sS S k (a + 1) (b + 1) - sS S k a (b + 1) - sS S k (a + 1) b + sS S k a b) ∧ absT (chI (dPre S a b)) ≤ 16 := by
  have a1 := h.abs (a + 1) (b + 1)
  have a2 := h.abs a (b + 1)
  have a3 := h.abs (a + 1) b
  have a4 := h.abs a b
  obtain ⟨n1, n2⟩ := neg_sums (xs := S a (b + 1)) (by omega)
  obtain ⟨m1, m2⟩ := neg_sums (xs := S (a + 1) b) (by omega)
  unfold dPre
  simp only [chI_append, sumT_append', absT_append, n1, m1, n2, m2, sS]
  exact ⟨fun k => by omega, by omega⟩
theorem dI_sum (h : FlowS S) (a b : Nat) (k : List Int) : sumT (chI (dI S a b)) k = sS S k (a + 1) (b + 1) - sS S k a (b + 1) - sS S k (a + 1) b + sS S k a b := by
  have := dPre_sum h a b
  rw [← this.1]
  exact gathI_sumT (by omega) k
theorem dI_abs (h : FlowS S) (a b : Nat) : absT (chI (dI S a b)) ≤ 16 := by
  have := dPre_sum h a b
  exact Int.le_trans (gathI_absT (by omega)) this.2
theorem asc_len : ∀ (l : List Int) (lo : Int), l.Pairwise (· < ·) → (∀ x ∈ l, lo ≤ x ∧ x ≤ 3) → lo ≤ 4 → (l.length : Int) ≤ 4 - lo
  | [], lo, _, _, h => by simp; omega
  | x :: r, lo, hp, hb, _ => by
    have h1 := hb x (by simp)
    have hp' := List.pairwise_cons.1 hp
    have := asc_len r (x + 1) hp'.2 (fun y hy => ⟨by have := hp'.1 y hy; omega, (hb y (by simp [hy])).2⟩) (by omega)
    simp only [List.length_cons]
    omega
theorem dI_item (h : FlowS S) {a b : Nat} {x : Item} (hx : x ∈ dI S a b) : 0 ≤ x.Key ∧ x.Key ≤ 3 ∧ x.Val = 0 ∧ x.Count ≠ 0 ∧ -16 ≤ x.Count ∧ x.Count ≤ 16 := by
  have h1 := absT_chI_mem hx
  have h2 := dI_abs h a b
  have h3 := (mem_gathI.1 hx).2
  obtain ⟨y, hy, e1, e2⟩ := gathI_from hx
  have key : ∀ a b, ∀ y ∈ S a b, 0 ≤ y.Key ∧ y.Key ≤ 3 ∧ y.Val = 0 := fun a b y hy => by
    obtain ⟨P, e⟩ := h.can a b
    rw [e] at hy
    have := mem_canon.1 hy
    omega
  have hy2 : 0 ≤ y.Key ∧ y.Key ≤ 3 ∧ y.Val = 0 := by
    unfold dPre at hy
    rcases List.mem_append.1 hy with hy | hy
    · exact key _ _ y hy
    · rcases List.mem_append.1 hy with hy | hy
      · obtain ⟨z, hz, rfl⟩ := List.mem_map.1 hy
        exact key _ _ z hz
      · rcases List.mem_append.1 hy with hy | hy
        · obtain ⟨z, hz, rfl⟩ := List.mem_map.1 hy
          exact key _ _ z hz
        · exact key _ _ y hy
  omega
theorem dI_len (h : FlowS S) (a b : Nat) : (dI S a b).length ≤ 4 := by
  have h1 : ((dI S a b).map Item.Key).Pairwise (· < ·) := by
    refine List.pairwise_map.2 ((gathI_pw (dPre S a b)).imp_of_mem fun {x y} hx hy hxy => ?_)
    have a1 := dI_item h (show x ∈ dI S a b from hx)
    have a2 := dI_item h (show y ∈ dI S a b from hy)
    unfold ltIt at hxy
    omega
  have := asc_len _ 0 h1 (fun k hk => by
    obtain ⟨x, hx, rfl⟩ := List.mem_map.1 hk
    have := dI_item h hx
    omega) (by omega)
  rw [List.length_map] at this
  omega

-- how many, how large
theorem flat_bound {α : Type} (f : α → List Row) (c d : Nat) : ∀ l : List α, (∀ a ∈ l, (f a).length ≤ c ∧ absT (chR (f a)) ≤ d) → (l.flatMap f).length ≤ l.length * c ∧ absT (chR (l.flatMap f)) ≤ l.length * d
  | [], _ => by simp [chR, absT]
  | a :: l, h => by
    obtain ⟨h1, h2⟩ := flat_bound f c d l fun x hx => h x (by simp [hx])
    obtain ⟨h3, h4⟩ := h a (by simp)
    simp only [List.flatMap_cons, List.length_append, chR_append, absT_append, List.length_cons, Int.natCast_add, Nat.add_mul, Int.add_mul]
    exact ⟨by omega, by omega⟩
theorem dR_bound (h : FlowS S) (a b : Nat) : (dR S a b).length ≤ 4 ∧ absT (chR (dR S a b)) ≤ ((16 : Nat) : Int) := by
  refine ⟨by unfold dR; rw [List.length_map]; exact dI_len h a b, ?_⟩
  have h1 := dI_abs h a b
  have : ∀ xs : List Item, absT (chR (xs.map (rowAt a ((b + 1 : Nat) : Int)))) = absT (chI xs) := by
    intro xs
    induction xs with
    | nil => rfl
    | cons x r ih =>
      show (if 0 ≤ x.Count then x.Count else -x.Count) + absT (chR (r.map _)) = (if 0 ≤ x.Count then x.Count else -x.Count) + absT (chI r)
      rw [ih]
  unfold dR
  rw [this]
  omega
theorem colR_bound (h : FlowS S) (n a : Nat) : (colR S n a).length ≤ n * 4 ∧ absT (chR (colR S n a)) ≤ ((n * 16 : Nat) : Int) := by
  have := flat_bound (dR S a) 4 16 (List.range n) fun b _ => dR_bound h a b
  rw [List.length_range] at this
  exact ⟨this.1, by rw [Int.natCast_mul]; exact this.2⟩
theorem rowR_bound (h : FlowS S) (m b : Nat) : (rowR S m b).length ≤ m * 4 ∧ absT (chR (rowR S m b)) ≤ ((m * 16 : Nat) : Int) := by
  have := flat_bound (fun a => dR S a b) 4 16 (List.range m) fun a _ => dR_bound h a b
  rw [List.length_range] at this
  exact ⟨this.1, by rw [Int.natCast_mul]; exact this.2⟩
theorem allA_bound (h : FlowS S) (n m : Nat) : (allA S n m).length ≤ m * (n * 4) ∧ absT (chR (allA S n m)) ≤ ((m * (n * 16) : Nat) : Int) := by
  have := flat_bound (colR S n) (n * 4) (n * 16) (List.range m) fun a _ => colR_bound h n a
  rw [List.length_range] at this
  exact ⟨this.1, by rw [Int.natCast_mul]; exact this.2⟩
theorem allQ_bound (h : FlowS S) (n m : Nat) : (allQ S n m).length ≤ n * (m * 4) ∧ absT (chR (allQ S n m)) ≤ ((n * (m * 16) : Nat) : Int) := by
  have := flat_bound (rowR S m) (m * 4) (m * 16) (List.range n) fun b _ => rowR_bound h m b
  rw [List.length_range] at this
  exact ⟨this.1, by rw [Int.natCast_mul]; exact this.2⟩

-- sums at a time
theorem itemsAt_dR (a' b' : Nat) (t : Time) : itemsAt (dR S a' b') t = if (a' : Int) ≤ t.A ∧ ((b' + 1 : Nat) : Int) ≤ t.B then dI S a' b' else [] := by
  unfold itemsAt dR
  generalize dI S a' b' = xs
  have hb : ∀ x, belowT (rowAt a' ((b' + 1 : Nat) : Int) x).At t = (decide ((a' : Int) ≤ t.A) && decide (((b' + 1 : Nat) : Int) ≤ t.B)) := fun x => rfl
  by_cases h : (a' : Int) ≤ t.A ∧ ((b' + 1 : Nat) : Int) ≤ t.B
  · rw [if_pos h, List.filter_eq_self.2 (fun y hy => by
      obtain ⟨x, _, rfl⟩ := List.mem_map.1 hy
      rw [hb, decide_eq_true h.1, decide_eq_true h.2]; rfl), List.map_map]
    have : rIt ∘ rowAt a' ((b' + 1 : Nat) : Int) = id := rfl
    rw [this, List.map_id]
  · rw [if_neg h, List.filter_eq_nil_iff.2 (fun y hy => by
      obtain ⟨x, _, rfl⟩ := List.mem_map.1 hy
      rw [hb, Bool.and_eq_true, decide_eq_true_eq, decide_eq_true_eq]
      exact h)]
    rfl
def preS (k : List Int) (L : List Row) (a b : Nat) : Int := sumT (chI (itemsAt L ⟨a, b⟩)) k
theorem preS_append (k : List Int) (L L' : List Row) (a b : Nat) : preS k (L ++ L') a b = preS k L a b + preS k L' a b := by
  unfold preS; rw [itemsAt_append, chI_append, sumT_append']
theorem preS_dR (h : FlowS S) (k : List Int) (a' b' a b : Nat) : preS k (dR S a' b') a b = if a' ≤ a ∧ b' + 1 ≤ b then sS S k (a' + 1) (b' + 1) - sS S k a' (b' + 1) - sS S k (a' + 1) b' + sS S k a' b' else 0 := by
  unfold preS
  rw [itemsAt_dR]
  by_cases hc : a' ≤ a ∧ b' + 1 ≤ b
  · rw [if_pos hc, if_pos ⟨Int.ofNat_le.2 hc.1, Int.ofNat_le.2 hc.2⟩, dI_sum h]
  · rw [if_neg hc, if_neg fun e => hc ⟨Int.ofNat_le.1 e.1, Int.ofNat_le.1 e.2⟩]; rfl
theorem sS_zb (h : FlowS S) (k : List Int) (a : Nat) : sS S k a 0 = 0 := by unfold sS; rw [h.zb]; rfl
theorem sS_z0 (h : FlowS S) (k : List Int) (b : Nat) : sS S k 0 b = 0 := by unfold sS; rw [h.z0]; rfl
theorem preS_col (h : FlowS S) (k : List Int) (a' a b : Nat) : ∀ n, preS k (colR S n a') a b = if a' ≤ a then sS S k (a' + 1) (min n b) - sS S k a' (min n b) else 0
  | 0 => by
    rw [Nat.zero_min, sS_zb h, sS_zb h]
    show (0 : Int) = _
    split <;> rfl
  | n + 1 => by
    rw [colR_succ, preS_append, preS_col h k a' a b n, preS_dR h]
    by_cases ha : a' ≤ a
    · by_cases hb : n + 1 ≤ b
      · rw [if_pos ha, if_pos ha, if_pos ⟨ha, hb⟩, Nat.min_eq_left hb, Nat.min_eq_left (show n ≤ b by omega)]
        omega
      · rw [if_pos ha, if_pos ha, if_neg fun e => hb e.2, show min (n + 1) b = min n b by omega]
        omega
    · rw [if_neg ha, if_neg ha, if_neg fun e => ha e.1]; rfl
theorem preS_allA (h : FlowS S) (k : List Int) (n a b : Nat) : ∀ m, preS k (allA S n m) a b = sS S k (min m (a + 1)) (min n b)
  | 0 => by rw [Nat.zero_min, sS_z0 h]; rfl
  | m + 1 => by
    rw [allA_succ, preS_append, preS_allA h k n a b m, preS_col h]
    by_cases ha : m ≤ a
    · rw [if_pos ha, Nat.min_eq_left (show m + 1 ≤ a + 1 by omega), Nat.min_eq_left (show m ≤ a + 1 by omega)]
      omega
    · rw [if_neg ha, show min (m + 1) (a + 1) = min m (a + 1) by omega]
      omega
theorem preS_row (h : FlowS S) (k : List Int) (b' a b : Nat) : ∀ m, preS k (rowR S m b') a b = if b' + 1 ≤ b then sS S k (min m (a + 1)) (b' + 1) - sS S k (min m (a + 1)) b' else 0
  | 0 => by
    rw [Nat.zero_min, sS_z0 h, sS_z0 h]
    show (0 : Int) = _
    split <;> rfl
  | m + 1 => by
    rw [rowR_succ, preS_append, preS_row h k b' a b m, preS_dR h]
    by_cases hb : b' + 1 ≤ b
    · by_cases ha : m ≤ a
      · rw [if_pos hb, if_pos hb, if_pos ⟨ha, hb⟩, Nat.min_eq_left (show m + 1 ≤ a + 1 by omega), Nat.min_eq_left (show m ≤ a + 1 by omega)]
        omega
      · rw [if_pos hb, if_pos hb, if_neg fun e => ha e.1, show min (m + 1) (a + 1) = min m (a + 1) by omega]
        omega
    · rw [if_neg hb, if_neg hb, if_neg fun e => hb e.2]; rfl
theorem preS_allQ (h : FlowS S) (k : List Int) (m a b : Nat) : ∀ n, preS k (allQ S n m) a b = sS S k (min m (a + 1)) (min n b)
  | 0 => by rw [Nat.zero_min, sS_zb h]; rfl
  | n + 1 => by
    rw [allQ_succ, preS_append, preS_allQ h k m a b n, preS_row h]
    by_cases hb : n + 1 ≤ b
    · rw [if_pos hb, Nat.min_eq_left hb, Nat.min_eq_left (show n ≤ b by omega)]
      omega
    · rw [if_neg hb, show min (n + 1) b = min n b by omega]
      omega
/-- What lacks of what is come to, where all before has been told: by times, and rounds within. -/
theorem dueA (h : FlowS S) {n a b : Nat} (hb : b + 1 ≤ n) (hn : n ≤ 10) (ha : a ≤ 10) :
    gathI (S (a + 1) (b + 1) ++ (presI (allA S n a ++ colR S b a) ⟨a, ((b + 1 : Nat) : Int)⟩).map negI) = dI S a b := by
  have l1 := allA_bound h n a
  have l2 := colR_bound h b a
  have hL : absT (chR (allA S n a ++ colR S b a)) ≤ 2000 := by
    rw [chR_append, absT_append]
    have e1 : a * (n * 16) ≤ 10 * (10 * 16) := Nat.mul_le_mul ha (Nat.mul_le_mul_right _ hn)
    have e2 : ((a * (n * 16) : Nat) : Int) ≤ 1600 := by omega
    omega
  have hI := itemsAt_absT ⟨a, ((b + 1 : Nat) : Int)⟩ (allA S n a ++ colR S b a)
  have hp := gathI_absT (a := itemsAt (allA S n a ++ colR S b a) ⟨a, ((b + 1 : Nat) : Int)⟩) (by omega)
  obtain ⟨n1, n2⟩ := neg_sums (xs := presI (allA S n a ++ colR S b a) ⟨a, ((b + 1 : Nat) : Int)⟩) (Int.le_trans hp (by omega))
  have hs := h.abs (a + 1) (b + 1)
  have hd := dPre_sum h a b
  refine gathI_congr ?_ (by omega) fun k => ?_
  · rw [chI_append, absT_append, n2]
    unfold presI at *
    omega
  · rw [chI_append, sumT_append', n1, hd.1]
    have e : sumT (chI (presI (allA S n a ++ colR S b a) ⟨a, ((b + 1 : Nat) : Int)⟩)) k = preS k (allA S n a ++ colR S b a) a (b + 1) := gathI_sumT (by omega) k
    rw [e, preS_append, preS_allA h, preS_col h, if_pos (Nat.le_refl a), Nat.min_eq_left (show a ≤ a + 1 by omega), Nat.min_eq_right hb, Nat.min_eq_left (show b ≤ b + 1 by omega)]
    show sS S k (a + 1) (b + 1) + _ = _
    omega
/-- ... by rounds, and times within. -/
theorem dueB (h : FlowS S) {m a b : Nat} (ha : a + 1 ≤ m) (hm : m ≤ 10) (hb : b ≤ 10) :
    gathI (S (a + 1) (b + 1) ++ (itemsAt (allQ S b m ++ rowR S a b) ⟨a, ((b + 1 : Nat) : Int)⟩).map negI) = dI S a b := by
  have l1 := allQ_bound h b m
  have l2 := rowR_bound h a b
  have hL : absT (chR (allQ S b m ++ rowR S a b)) ≤ 2000 := by
    rw [chR_append, absT_append]
    have e1 : b * (m * 16) ≤ 10 * (10 * 16) := Nat.mul_le_mul hb (Nat.mul_le_mul_right _ hm)
    have e2 : ((b * (m * 16) : Nat) : Int) ≤ 1600 := by omega
    omega
  have hI := itemsAt_absT ⟨a, ((b + 1 : Nat) : Int)⟩ (allQ S b m ++ rowR S a b)
  obtain ⟨n1, n2⟩ := neg_sums (xs := itemsAt (allQ S b m ++ rowR S a b) ⟨a, ((b + 1 : Nat) : Int)⟩) (by omega)
  have hs := h.abs (a + 1) (b + 1)
  have hd := dPre_sum h a b
  refine gathI_congr ?_ (by omega) fun k => ?_
  · rw [chI_append, absT_append, n2]
    omega
  · rw [chI_append, sumT_append', n1, hd.1]
    have e : sumT (chI (itemsAt (allQ S b m ++ rowR S a b) ⟨a, ((b + 1 : Nat) : Int)⟩)) k = preS k (allQ S b m ++ rowR S a b) a (b + 1) := rfl
    rw [e, preS_append, preS_allQ h, preS_row h, if_pos (Nat.le_refl _), Nat.min_eq_right ha, Nat.min_eq_left (show a ≤ a + 1 by omega), Nat.min_eq_left (show b ≤ b + 1 by omega)]
    show sS S k (a + 1) (b + 1) + _ = _
    omega

-- the two orders
def sumN (f : Nat → Int) : Nat → Int
  | 0 => 0
  | n + 1 => sumN f n + f n
theorem sumN_add (f g : Nat → Int) : ∀ n, sumN (fun i => f i + g i) n = sumN f n + sumN g n
  | 0 => rfl
  | n + 1 => by simp only [sumN, sumN_add f g n]; omega
theorem sumN_zero : ∀ n, sumN (fun _ => 0) n = 0
  | 0 => rfl
  | n + 1 => by simp only [sumN, sumN_zero n]; rfl
theorem sumN_comm (f : Nat → Nat → Int) (n : Nat) : ∀ m, sumN (fun a => sumN (f a) n) m = sumN (fun b => sumN (fun a => f a b) m) n
  | 0 => by simp only [sumN]; exact (sumN_zero n).symm
  | m + 1 => by
    simp only [sumN]
    rw [sumN_comm f n m, sumN_add]
theorem flat_sum (f : Nat → List Row) (k : List Int) : ∀ n, sumT (chR ((List.range n).flatMap f)) k = sumN (fun i => sumT (chR (f i)) k) n
  | 0 => rfl
  | n + 1 => by
    rw [List.range_succ, List.flatMap_append, chR_append, sumT_append', flat_sum f k n]
    simp [sumN]
theorem two_orders (h : FlowS S) {n m : Nat} (hn : n ≤ 10) (hm : m ≤ 10) : gathR (allA S n m) = gathR (allQ S n m) := by
  have l1 := allA_bound h n m
  have l2 := allQ_bound h n m
  have e1 : m * (n * 16) ≤ 10 * (10 * 16) := Nat.mul_le_mul hm (Nat.mul_le_mul_right _ hn)
  have e2 : n * (m * 16) ≤ 10 * (10 * 16) := Nat.mul_le_mul hn (Nat.mul_le_mul_right _ hm)
  have e3 : ((m * (n * 16) : Nat) : Int) ≤ 1600 := by omega
  have e4 : ((n * (m * 16) : Nat) : Int) ≤ 1600 := by omega
  refine gathR_congr (by omega) (by omega) fun k => ?_
  unfold allA allQ
  rw [flat_sum, flat_sum]
  have c1 : (fun a => sumT (chR (colR S n a)) k) = fun a => sumN (fun b => sumT (chR (dR S a b)) k) n := funext fun a => flat_sum _ k n
  have c2 : (fun b => sumT (chR (rowR S m b)) k) = fun b => sumN (fun a => sumT (chR (dR S a b)) k) m := funext fun b => flat_sum _ k m
  rw [c1, c2, sumN_comm]
end
end Go.Proofs.Ytopcofkpggefkaa

namespace Go.Proofs.Ytopcofkpggefkaa
open Go
/-- A look at each of a list, with the one before it. -/
def scanB {α : Type} (bad : Option α → α → Bool) : Option α → List α → Bool
  | _, [] => true
  | y, x :: r => !bad y x && scanB bad (some x) r
theorem scanB_all {α : Type} (ok : α → Bool) : ∀ (xs : List α) (y : Option α), scanB (fun _ x => !ok x) y xs = xs.all ok
  | [], _ => rfl
  | x :: r, y => by simp only [scanB, List.all_cons, scanB_all ok r (some x), Bool.not_not]
theorem Runs.scan {ρ α : Type} [Inhabited ρ] {step : Int → Lp Int ρ} {ob : Int → Prop} (xs : List α) (bad : Option α → α → Bool) {no yes : ρ}
    (hstep : ∀ l x r, xs = l ++ x :: r → ob (l.length : Int) ∧ step (l.length : Int) = (if bad l.getLast? x = true then .out no else .go (((l.length + 1 : Nat)) : Int))) (hend : ob (xs.length : Int) ∧ step (xs.length : Int) = .out yes) :
    Runs step ob 0 (if scanB bad none xs = true then yes else no) := by
  obtain ⟨q, h1, h2⟩ := Runs.list (step := step) (ob := ob) (Q := fun q => q = if scanB bad none xs = true then yes else no) xs (fun i (_ : Unit) => (i : Int)) (fun l _ => scanB bad none xs = scanB bad l.getLast? (xs.drop l.length)) (b0 := ()) rfl rfl
    (fun l x r _ hx hI => by
      obtain ⟨a1, a2⟩ := hstep l x r hx
      have hdrop : xs.drop l.length = x :: r := by rw [hx]; simp
      have hdrop2 : xs.drop (l ++ [x]).length = r := by rw [hx]; simp
      rw [hdrop] at hI
      simp only [scanB] at hI
      refine ⟨a1, ?_⟩
      cases hb : bad l.getLast? x with
      | true =>
        rw [hb] at hI a2
        exact .inr ⟨no, a2, by rw [hI]; rfl⟩
      | false =>
        rw [hb] at hI a2
        exact .inl ⟨(), a2, by rw [hdrop2, hI]; simp⟩)
    (fun _ hI => by
      rw [List.drop_length] at hI
      exact ⟨hend.1, yes, hend.2, by rw [hI]; rfl⟩)
  rw [h2] at h1
  exact h1
def okRow (x : Row) : Bool := decide (0 ≤ x.Key ∧ x.Key ≤ 3 ∧ 0 ≤ x.Val ∧ x.Val ≤ 99 ∧ (0 ≤ x.At.A ∧ x.At.A ≤ 7 ∧ 0 ≤ x.At.B ∧ x.At.B ≤ 7) ∧ -99999 ≤ x.Diff ∧ x.Diff ≤ 99999)
def rowsOk (xs : List Row) : Bool := xs.all okRow && decide (xs.length ≤ 400)
def okTime (t : Time) : Bool := decide (0 ≤ t.A ∧ t.A ≤ 7 ∧ 0 ≤ t.B ∧ t.B ≤ 7)
def badB : Option Row → Row → Bool
  | none, x => decide (x.Diff = 0)
  | some y, x => decide (x.Diff = 0) || !ltK (rK y) (rK x)
def batchOk (xs : List Row) : Bool := scanB badB none xs && rowsOk xs
theorem impl_TimeOk_v (t : Time) : v_impl_TimeOk t = okTime t := by
  show (cond (cond (cond (cmp .geq t.A 0) (cmp .leq t.A 7) false) (cmp .geq t.B 0) false) (cmp .leq t.B 7) false) = _
  rw [cmp_geq', cmp_leq', cmp_geq', cmp_leq', Bool.eq_iff_iff]
  simp [okTime]
  omega
theorem impl_TimeOk_p (t : Time) : p_impl_TimeOk t := trivial
theorem TimeOk_v (t : Time) : v_spec_TimeOk t = okTime t := by
  show (cond (v_spec_l6In t.A 0 7) (v_spec_l6In t.B 0 7) false) = _
  rw [l6In_v, l6In_v, Bool.eq_iff_iff]
  simp [okTime]
  omega
theorem below_v (s t : Time) : v_impl_below s t = belowT s t := by
  show (cond (cmp .leq s.A t.A) (cmp .leq s.B t.B) false) = _
  rw [cmp_leq', cmp_leq']
  unfold belowT
  cases decide (s.A ≤ t.A) <;> rfl
theorem below_p (s t : Time) : p_impl_below s t := trivial
theorem TimeLess_v (s t : Time) : v_spec_TimeLess s t = (okTime s && okTime t && belowT s t) := by
  show (cond (cond (cond (v_spec_TimeOk s) (v_spec_TimeOk t) false) (cmp .leq s.A t.A) false) (cmp .leq s.B t.B) false) = _
  rw [TimeOk_v, TimeOk_v, cmp_leq', cmp_leq']
  unfold belowT
  cases okTime s <;> cases okTime t <;> cases decide (s.A ≤ t.A) <;> rfl
theorem l2Row_v (x : Row) : v_spec_l2Row x = okRow x := by
  show (cond (cond (cond (v_spec_l6In x.Key 0 3) (v_spec_l6In x.Val 0 99) false) (v_spec_TimeOk x.At) false) (v_spec_l6In x.Diff (-99999) 99999) false) = _
  rw [TimeOk_v, l6In_v, l6In_v, l6In_v, Bool.eq_iff_iff]
  simp [okRow, okTime]
  omega
theorem impl_RowsOk_ok (xs : List Row) (hl : xs.length < 1000000000) : p_impl_RowsOk xs ∧ v_impl_RowsOk xs = rowsOk xs := by
  have k2 : Runs (fun s : Int => ocLp (impl_RowsOk_c2_r xs (lenI .row xs) s)) (fun s => impl_RowsOk_c2_r_ob xs (lenI .row xs) s) 0 (if scanB (fun _ x => !okRow x) none xs = true then .x () else .r false) := by
    refine Runs.scan xs _ (fun l x r hx => ?_) ?_
    · have hlen : xs.length = l.length + (r.length + 1) := by rw [hx]; simp
      have hrd : rd .row xs (l.length : Int) = x := by rw [hx]; exact rd_mid
      have hin : inb (l.length : Int) (lenI .row xs) := by rw [hx]; exact inb_mid (t := .row)
      have hlss : cmp .lss (l.length : Int) (lenI .row xs) = true := by rw [hx]; exact lss_mid
      have e1 : (cond (cond (cond (cond (cond (cond (cmp .lss x.Key 0) true (cmp .geq x.Key 4)) true (cmp .lss x.Val 0)) true (cmp .geq x.Val 100)) true (!(v_impl_TimeOk x.At))) true (cmp .lss x.Diff (-99999))) true (cmp .gtr x.Diff 99999)) = !okRow x := by
        rw [impl_TimeOk_v]
        simp only [cmp_lss', cmp_geq', cmp_gtr']
        rw [Bool.eq_iff_iff]
        simp [okRow, okTime]
        omega
      simp only [impl_RowsOk_c2_r_ob, impl_RowsOk_c2_r, impl_RowsOk_c2_r_t, Tr.val, Tr.ob, AllP, hlss, hrd, succ_mid (l := l) (by omega), e1]
      refine ⟨by simp [hin, impl_TimeOk_p], ?_⟩
      cases okRow x <;> rfl
    · have hend : cmp .lss (xs.length : Int) (lenI .row xs) = false := lss_end (t := .row)
      simp only [impl_RowsOk_c2_r_ob, impl_RowsOk_c2_r, impl_RowsOk_c2_r_t, Tr.val, Tr.ob, AllP, hend]
      exact ⟨by simp, rfl⟩
  have a2 : impl_RowsOk_c2 xs (lenI .row xs) = _ := k2.v
  have b2 : impl_RowsOk_c2_ob xs (lenI .row xs) := k2.t
  rw [scanB_all] at a2
  simp only [p_impl_RowsOk, v_impl_RowsOk, impl_RowsOk_b_ob, impl_RowsOk_b, impl_RowsOk_b_t, impl_RowsOk_c1_S, impl_RowsOk_c1_ob, impl_RowsOk_c1, impl_RowsOk_c1_t, impl_RowsOk_c2_S, lpS, Tr.val, Tr.ob, rowsOk, a2]
  refine ⟨by simp [b2], ?_⟩
  cases xs.all okRow with
  | false => rfl
  | true =>
    show cmp .leq (xs.length : Int) 400 = _
    rw [cmp_leq', Bool.true_and, Bool.eq_iff_iff]
    simp
    omega
theorem RowsOk_v (xs : List Row) (hl : xs.length < 1000000000) : p_spec_RowsOk xs ∧ v_spec_RowsOk xs = rowsOk xs := by
  have k2 : Runs (fun s : Int => ocLp (spec_RowsOk_c2_r xs s)) (fun s => spec_RowsOk_c2_r_ob xs s) 0 (if scanB (fun _ x => !okRow x) none xs = true then .x () else .r false) := by
    refine Runs.scan xs _ (fun l x r hx => ?_) ?_
    · have hlen : xs.length = l.length + (r.length + 1) := by rw [hx]; simp
      have hrd : rd .row xs (l.length : Int) = x := by rw [hx]; exact rd_mid
      have hin : inb (l.length : Int) (lenI .row xs) := by rw [hx]; exact inb_mid (t := .row)
      have hlss : cmp .lss (l.length : Int) (lenI .row xs) = true := by rw [hx]; exact lss_mid
      simp only [spec_RowsOk_c2_r_ob, spec_RowsOk_c2_r, spec_RowsOk_c2_r_t, Tr.val, Tr.ob, AllP, hlss, hrd, succ_mid (l := l) (by omega), l2Row_v]
      refine ⟨by simp [hin, l2Row_p], ?_⟩
      cases okRow x <;> rfl
    · have hend : cmp .lss (xs.length : Int) (lenI .row xs) = false := lss_end (t := .row)
      simp only [spec_RowsOk_c2_r_ob, spec_RowsOk_c2_r, spec_RowsOk_c2_r_t, Tr.val, Tr.ob, AllP, hend]
      exact ⟨by simp, rfl⟩
  have a2 : spec_RowsOk_c2 xs = _ := k2.v
  have b2 : spec_RowsOk_c2_ob xs := k2.t
  rw [scanB_all] at a2
  have hg : cmp .gtr (lenI .row xs) 400 = !decide (xs.length ≤ 400) := by
    show cmp .gtr (xs.length : Int) 400 = _
    rw [cmp_gtr', Bool.eq_iff_iff]
    simp
    omega
  simp only [p_spec_RowsOk, v_spec_RowsOk, spec_RowsOk_b_ob, spec_RowsOk_b, spec_RowsOk_b_t, spec_RowsOk_c1_S, spec_RowsOk_c1_ob, spec_RowsOk_c1, spec_RowsOk_c1_t, spec_RowsOk_c2_S, lpS, Tr.val, Tr.ob, rowsOk, a2, hg]
  refine ⟨by simp [b2], ?_⟩
  cases decide (xs.length ≤ 400) <;> cases xs.all okRow <;> rfl
theorem rowAhead_v (x y : Row) : p_impl_rowAhead x y ∧ v_impl_rowAhead x y = ltK (rK x) (rK y) := by
  have ha : v_impl_ahead x.At y.At = (cond (cmp .lss x.At.A y.At.A) true (cond (cmp .eql x.At.A y.At.A) (cmp .lss x.At.B y.At.B) false)) := rfl
  have hp : p_impl_ahead x.At y.At := trivial
  simp only [p_impl_rowAhead, v_impl_rowAhead, impl_rowAhead_b_ob, impl_rowAhead_b, impl_rowAhead_b_t, Tr.val, Tr.ob, AllP, ha, rK, ltK, cmp_neq', cmp_lss', cmp_eql']
  refine ⟨by simp [hp], ?_⟩
  by_cases h1 : x.Key = y.Key
  · by_cases h2 : x.Val = y.Val
    · simp only [h1, h2, decide_true, Bool.not_true, ocR]
      rw [Bool.eq_iff_iff]
      simp
    · simp only [h1, h2, decide_true, decide_false, Bool.not_true, Bool.not_false, ocR]
      simp
  · simp only [h1, decide_false, Bool.not_false, ocR]
    simp
theorem prev_in {α : Type} {l : List α} {x : α} {r xs : List α} (hx : xs = l ++ x :: r) (hl : xs.length < 1000000000) : (l = [] ∧ l.getLast? = none) ∨ ∃ l' y, l = l' ++ [y] ∧ l.getLast? = some y ∧ ar .sub .i64 (l.length : Int) 1 = (l'.length : Int) ∧ xs = l' ++ y :: (x :: r) ∧ cmp .gtr (l.length : Int) 0 = true := by
  have hlen : xs.length = l.length + (r.length + 1) := by rw [hx]; simp
  rcases last_cases l with h | ⟨l', y, h, h2⟩
  · exact .inl h
  · refine .inr ⟨l', y, h, h2, ?_, ?_, ?_⟩
    · rw [ar_sub (by omega), h]; simp
    · rw [hx, h]; simp
    · rw [cmp_gtr', h]; simp
theorem impl_BatchOk_ok (xs : List Row) (hl : xs.length < 1000000000) : p_impl_BatchOk xs ∧ v_impl_BatchOk xs = batchOk xs := by
  obtain ⟨r1, r2⟩ := impl_RowsOk_ok xs hl
  have k2 : Runs (fun s : Int => ocLp (impl_BatchOk_c2_r xs (lenI .row xs) s)) (fun s => impl_BatchOk_c2_r_ob xs (lenI .row xs) s) 0 (if scanB badB none xs = true then .x () else .r false) := by
    refine Runs.scan xs _ (fun l x r hx => ?_) ?_
    · have hlen : xs.length = l.length + (r.length + 1) := by rw [hx]; simp
      have hrd : rd .row xs (l.length : Int) = x := by rw [hx]; exact rd_mid
      have hin : inb (l.length : Int) (lenI .row xs) := by rw [hx]; exact inb_mid (t := .row)
      have hlss : cmp .lss (l.length : Int) (lenI .row xs) = true := by rw [hx]; exact lss_mid
      rcases prev_in hx hl with ⟨h1, h2⟩ | ⟨l', y, h1, h2, h3, h4, h5⟩
      · have hg : cmp .gtr (l.length : Int) 0 = false := by rw [h1]; rfl
        simp only [impl_BatchOk_c2_r_ob, impl_BatchOk_c2_r, impl_BatchOk_c2_r_t, Tr.val, Tr.ob, AllP, hlss, hrd, succ_mid (l := l) (by omega), hg, h2, badB, cmp_eql']
        refine ⟨by simp [hin], ?_⟩
        cases decide (x.Diff = 0) <;> rfl
      · have hy : rd .row xs (l'.length : Int) = y := by rw [h4]; exact rd_mid
        have hin2 : inb (l'.length : Int) (lenI .row xs) := by rw [h4]; exact inb_mid (t := .row)
        obtain ⟨q1, q2⟩ := rowAhead_v y x
        simp only [impl_BatchOk_c2_r_ob, impl_BatchOk_c2_r, impl_BatchOk_c2_r_t, Tr.val, Tr.ob, AllP, hlss, hrd, succ_mid (l := l) (by omega), h2, h3, hy, h5, badB, cmp_eql', q2]
        refine ⟨by simp [hin, hin2, q1], ?_⟩
        cases decide (x.Diff = 0) <;> cases ltK (rK y) (rK x) <;> rfl
    · have hend : cmp .lss (xs.length : Int) (lenI .row xs) = false := lss_end (t := .row)
      simp only [impl_BatchOk_c2_r_ob, impl_BatchOk_c2_r, impl_BatchOk_c2_r_t, Tr.val, Tr.ob, AllP, hend]
      exact ⟨by simp, rfl⟩
  have a2 : impl_BatchOk_c2 xs (lenI .row xs) = _ := k2.v
  have b2 : impl_BatchOk_c2_ob xs (lenI .row xs) := k2.t
  simp only [p_impl_BatchOk, v_impl_BatchOk, impl_BatchOk_b_ob, impl_BatchOk_b, impl_BatchOk_b_t, impl_BatchOk_c1_S, impl_BatchOk_c1_ob, impl_BatchOk_c1, impl_BatchOk_c1_t, impl_BatchOk_c2_S, lpS, Tr.val, Tr.ob, AllP, batchOk, a2, r2]
  refine ⟨by simp [b2, r1], ?_⟩
  cases scanB badB none xs <;> rfl
theorem BatchOk_v (xs : List Row) (hl : xs.length < 1000000000) : p_spec_BatchOk xs ∧ v_spec_BatchOk xs = batchOk xs := by
  obtain ⟨r1, r2⟩ := RowsOk_v xs hl
  have k2 : Runs (fun s : Int => ocLp (spec_BatchOk_c2_r xs s)) (fun s => spec_BatchOk_c2_r_ob xs s) 0 (if scanB badB none xs = true then .x () else .r false) := by
    refine Runs.scan xs _ (fun l x r hx => ?_) ?_
    · have hlen : xs.length = l.length + (r.length + 1) := by rw [hx]; simp
      have hrd : rd .row xs (l.length : Int) = x := by rw [hx]; exact rd_mid
      have hin : inb (l.length : Int) (lenI .row xs) := by rw [hx]; exact inb_mid (t := .row)
      have hlss : cmp .lss (l.length : Int) (lenI .row xs) = true := by rw [hx]; exact lss_mid
      rcases prev_in hx hl with ⟨h1, h2⟩ | ⟨l', y, h1, h2, h3, h4, h5⟩
      · have hg : cmp .gtr (l.length : Int) 0 = false := by rw [h1]; rfl
        simp only [spec_BatchOk_c2_r_ob, spec_BatchOk_c2_r, spec_BatchOk_c2_r_t, Tr.val, Tr.ob, AllP, hlss, hrd, succ_mid (l := l) (by omega), hg, h2, badB, cmp_eql']
        refine ⟨by simp [hin], ?_⟩
        cases decide (x.Diff = 0) <;> rfl
      · have hy : rd .row xs (l'.length : Int) = y := by rw [h4]; exact rd_mid
        have hin2 : inb (l'.length : Int) (lenI .row xs) := by rw [h4]; exact inb_mid (t := .row)
        obtain ⟨q1, q2⟩ := l2Comp_ok y x
        have q3 : cmp .geq (v_spec_l2Comp y x) 0 = !ltK (rK y) (rK x) := by
          rw [q2, cmp_geq']
          cases ltK (rK y) (rK x) <;> cases ltK (rK x) (rK y) <;> rfl
        simp only [spec_BatchOk_c2_r_ob, spec_BatchOk_c2_r, spec_BatchOk_c2_r_t, Tr.val, Tr.ob, AllP, hlss, hrd, succ_mid (l := l) (by omega), h2, h3, hy, h5, badB, cmp_eql', q3]
        refine ⟨by simp [hin, hin2, q1], ?_⟩
        cases decide (x.Diff = 0) <;> cases ltK (rK y) (rK x) <;> rfl
    · have hend : cmp .lss (xs.length : Int) (lenI .row xs) = false := lss_end (t := .row)
      simp only [spec_BatchOk_c2_r_ob, spec_BatchOk_c2_r, spec_BatchOk_c2_r_t, Tr.val, Tr.ob, AllP, hend]
      exact ⟨by simp, rfl⟩
  have a2 : spec_BatchOk_c2 xs = _ := k2.v
  have b2 : spec_BatchOk_c2_ob xs := k2.t
  simp only [p_spec_BatchOk, v_spec_BatchOk, spec_BatchOk_b_ob, spec_BatchOk_b, spec_BatchOk_b_t, spec_BatchOk_c1_S, spec_BatchOk_c1_ob, spec_BatchOk_c1, spec_BatchOk_c1_t, spec_BatchOk_c2_S, lpS, Tr.val, Tr.ob, AllP, batchOk, a2, r2]
  refine ⟨by simp [b2, r1], ?_⟩
  cases scanB badB none xs <;> cases rowsOk xs <;> rfl
def flatB (xs : List Row) : Bool := xs.all fun x => decide (x.At.B = 0)
theorem flat_ok (xs : List Row) (hl : xs.length < 1000000000) : p_impl_flat xs ∧ v_impl_flat xs = (flatB xs && batchOk xs) := by
  obtain ⟨r1, r2⟩ := impl_BatchOk_ok xs hl
  have k2 : Runs (fun s : Int => ocLp (impl_flat_c2_r xs (lenI .row xs) s)) (fun s => impl_flat_c2_r_ob xs (lenI .row xs) s) 0 (if scanB (fun _ (x : Row) => !decide (x.At.B = 0)) none xs = true then .x () else .r false) := by
    refine Runs.scan xs _ (fun l x r hx => ?_) ?_
    · have hlen : xs.length = l.length + (r.length + 1) := by rw [hx]; simp
      have hrd : rd .row xs (l.length : Int) = x := by rw [hx]; exact rd_mid
      have hin : inb (l.length : Int) (lenI .row xs) := by rw [hx]; exact inb_mid (t := .row)
      have hlss : cmp .lss (l.length : Int) (lenI .row xs) = true := by rw [hx]; exact lss_mid
      simp only [impl_flat_c2_r_ob, impl_flat_c2_r, impl_flat_c2_r_t, Tr.val, Tr.ob, AllP, hlss, hrd, succ_mid (l := l) (by omega), cmp_neq']
      refine ⟨by simp [hin], ?_⟩
      cases decide (x.At.B = 0) <;> rfl
    · have hend : cmp .lss (xs.length : Int) (lenI .row xs) = false := lss_end (t := .row)
      simp only [impl_flat_c2_r_ob, impl_flat_c2_r, impl_flat_c2_r_t, Tr.val, Tr.ob, AllP, hend]
      exact ⟨by simp, rfl⟩
  have a2 : impl_flat_c2 xs (lenI .row xs) = _ := k2.v
  have b2 : impl_flat_c2_ob xs (lenI .row xs) := k2.t
  rw [scanB_all (fun x : Row => decide (x.At.B = 0))] at a2
  simp only [p_impl_flat, v_impl_flat, impl_flat_b_ob, impl_flat_b, impl_flat_b_t, impl_flat_c1_S, impl_flat_c1_ob, impl_flat_c1, impl_flat_c1_t, impl_flat_c2_S, lpS, Tr.val, Tr.ob, AllP, flatB, a2, r2]
  refine ⟨by simp [b2, r1], ?_⟩
  cases xs.all fun x => decide (x.At.B = 0) <;> rfl
theorem l22Ahead_ok (xs : List Row) (hl : xs.length < 1000000000) : p_spec_l22Ahead xs ∧ v_spec_l22Ahead xs = flatB xs := by
  have k2 : Runs (fun s : Int => ocLp (spec_l22Ahead_c2_r xs s)) (fun s => spec_l22Ahead_c2_r_ob xs s) 0 (if scanB (fun _ (x : Row) => !decide (x.At.B = 0)) none xs = true then .x () else .r false) := by
    refine Runs.scan xs _ (fun l x r hx => ?_) ?_
    · have hlen : xs.length = l.length + (r.length + 1) := by rw [hx]; simp
      have hrd : rd .row xs (l.length : Int) = x := by rw [hx]; exact rd_mid
      have hin : inb (l.length : Int) (lenI .row xs) := by rw [hx]; exact inb_mid (t := .row)
      have hlss : cmp .lss (l.length : Int) (lenI .row xs) = true := by rw [hx]; exact lss_mid
      simp only [spec_l22Ahead_c2_r_ob, spec_l22Ahead_c2_r, spec_l22Ahead_c2_r_t, Tr.val, Tr.ob, AllP, hlss, hrd, succ_mid (l := l) (by omega), cmp_neq']
      refine ⟨by simp [hin], ?_⟩
      cases decide (x.At.B = 0) <;> rfl
    · have hend : cmp .lss (xs.length : Int) (lenI .row xs) = false := lss_end (t := .row)
      simp only [spec_l22Ahead_c2_r_ob, spec_l22Ahead_c2_r, spec_l22Ahead_c2_r_t, Tr.val, Tr.ob, AllP, hend]
      exact ⟨by simp, rfl⟩
  have a2 : spec_l22Ahead_c2 xs = _ := k2.v
  have b2 : spec_l22Ahead_c2_ob xs := k2.t
  rw [scanB_all (fun x : Row => decide (x.At.B = 0))] at a2
  simp only [p_spec_l22Ahead, v_spec_l22Ahead, spec_l22Ahead_b_ob, spec_l22Ahead_b, spec_l22Ahead_b_t, spec_l22Ahead_c1_S, spec_l22Ahead_c1_ob, spec_l22Ahead_c1, spec_l22Ahead_c1_t, spec_l22Ahead_c2_S, lpS, Tr.val, Tr.ob, flatB, a2]
  refine ⟨by simp [b2], ?_⟩
  cases xs.all fun x => decide (x.At.B = 0) <;> rfl

-- what is present
theorem present_ok (xs : List Row) (t : Time) (hl : xs.length < 1000000000) : p_impl_present xs t ∧ v_impl_present xs t = presI xs t := by
  have hlt : ∀ l : List Row, (itemsAt l t).length ≤ l.length := fun l => by unfold itemsAt; rw [List.length_map]; exact List.length_filter_le _ _
  have k2 : Runs (fun s : LI × Int => ocLp (impl_present_c2_r t xs (lenI .row xs) s.1 s.2)) (fun s => impl_present_c2_r_ob t xs (lenI .row xs) s.1 s.2) ([], 0) (.x (itemsAt xs t)) := by
    refine Runs.fold xs (fun i b => (b, (i : Int))) (fun l => itemsAt l t) rfl (fun l x r hx => ?_) ?_
    · have hlen : xs.length = l.length + (r.length + 1) := by rw [hx]; simp
      have hrd : rd .row xs (l.length : Int) = x := by rw [hx]; exact rd_mid
      have hin : inb (l.length : Int) (lenI .row xs) := by rw [hx]; exact inb_mid (t := .row)
      have hlss : cmp .lss (l.length : Int) (lenI .row xs) = true := by rw [hx]; exact lss_mid
      have hl1 := hlt l
      have hlim : ∀ y, lim (lenI .item (itemsAt l t)) (lenI .item [y]) := fun y => lim_one (t := .item) (show (itemsAt l t).length < 1099511627776 by omega)
      simp only [impl_present_c2_r_ob, impl_present_c2_r, impl_present_c2_r_t, impl_present_c3_S, impl_present_c3_ob, impl_present_c3, impl_present_c3_t, Tr.val, Tr.ob, AllP, hlss, hrd, succ_mid (l := l) (by omega), below_v]
      rw [itemsAt_append]
      cases hb : belowT x.At t with
      | true => exact ⟨by simp [hin, hlim, below_p], by simp [ocLp, itemsAt, hb, rIt]⟩
      | false => exact ⟨by simp [hin, hlim, below_p], by simp [ocLp, itemsAt, hb]⟩
    · have hend : cmp .lss (xs.length : Int) (lenI .row xs) = false := lss_end (t := .row)
      simp only [impl_present_c2_r_ob, impl_present_c2_r, impl_present_c2_r_t, Tr.val, Tr.ob, hend]
      exact ⟨by simp, rfl⟩
  have a2 : impl_present_c2 t xs (lenI .row xs) = .x (itemsAt xs t) := k2.v
  have b2 : impl_present_c2_ob t xs (lenI .row xs) := k2.t
  have hg : p_impl_gathered (itemsAt xs t) := by
    have := hlt xs
    show lim _ 1
    simp only [lim, lenI]; omega
  simp only [p_impl_present, v_impl_present, impl_present_b_ob, impl_present_b, impl_present_b_t, impl_present_c1_S, impl_present_c1_ob, impl_present_c1, impl_present_c1_t, impl_present_c2_S, lpS, Tr.val, Tr.ob, AllP, a2, ocR]
  exact ⟨by simp [b2, hg], rfl⟩
theorem itemsAt_inR {xs : List Row} (h : ∀ x ∈ xs, InR x.Diff) (t : Time) : ∀ x ∈ itemsAt xs t, InR x.Count := fun x hx => by
  obtain ⟨r, hr, rfl⟩ := List.mem_map.1 hx
  exact h r ((List.mem_filter.1 hr).1)
theorem rowsOk_mem {xs : List Row} (h : rowsOk xs = true) : xs.length ≤ 400 ∧ ∀ x ∈ xs, okRow x = true := by
  simp only [rowsOk, Bool.and_eq_true, decide_eq_true_eq, List.all_eq_true] at h
  exact ⟨h.2, h.1⟩
theorem okRow_at {x : Row} (h : okRow x = true) : okTime x.At = true := by
  simp only [okRow, decide_eq_true_eq] at h
  simp only [okTime, decide_eq_true_eq]
  exact h.2.2.2.2.1
theorem okRow_inR {x : Row} (h : okRow x = true) : InR x.Diff := by
  simp only [okRow, decide_eq_true_eq] at h
  unfold InR; omega
theorem BatchAt_v (xs : List Row) (t : Time) (hl : xs.length < 10000000) : p_spec_BatchAt xs t ∧ v_spec_BatchAt xs t = if rowsOk xs = true ∧ okTime t = true then presI xs t else [] := by
  obtain ⟨r1, r2⟩ := RowsOk_v xs (by omega)
  simp only [p_spec_BatchAt, v_spec_BatchAt, spec_BatchAt_b_ob, spec_BatchAt_b, spec_BatchAt_b_t, spec_BatchAt_c1_S, spec_BatchAt_c1_ob, spec_BatchAt_c1, spec_BatchAt_c1_t, spec_BatchAt_c2_S, lpS, Tr.val, Tr.ob, AllP, r2, TimeOk_v]
  by_cases h : rowsOk xs = true ∧ okTime t = true
  · obtain ⟨h1, h2⟩ := h
    obtain ⟨m1, m2⟩ := rowsOk_mem h1
    have hlt : ∀ l : List Row, (itemsAt l t).length ≤ l.length := fun l => by unfold itemsAt; rw [List.length_map]; exact List.length_filter_le _ _
    have k2 : Runs (fun s : LI × Int => ocLp (spec_BatchAt_c2_r xs t s.1 s.2)) (fun s => spec_BatchAt_c2_r_ob xs t s.1 s.2) ([], 0) (.x (itemsAt xs t)) := by
      refine Runs.fold xs (fun i b => (b, (i : Int))) (fun l => itemsAt l t) rfl (fun l x r hx => ?_) ?_
      · have hlen : xs.length = l.length + (r.length + 1) := by rw [hx]; simp
        have hrd : rd .row xs (l.length : Int) = x := by rw [hx]; exact rd_mid
        have hin : inb (l.length : Int) (lenI .row xs) := by rw [hx]; exact inb_mid (t := .row)
        have hlss : cmp .lss (l.length : Int) (lenI .row xs) = true := by rw [hx]; exact lss_mid
        have hl1 := hlt l
        have hlim : ∀ y, lim (lenI .item (itemsAt l t)) (lenI .item [y]) := fun y => lim_one (t := .item) (show (itemsAt l t).length < 1099511627776 by omega)
        have hx2 := okRow_at (m2 x (by rw [hx]; simp))
        simp only [spec_BatchAt_c2_r_ob, spec_BatchAt_c2_r, spec_BatchAt_c2_r_t, spec_BatchAt_c3_S, spec_BatchAt_c3_ob, spec_BatchAt_c3, spec_BatchAt_c3_t, Tr.val, Tr.ob, AllP, hlss, hrd, succ_mid (l := l) (by omega), TimeLess_v, hx2, h2, Bool.true_and]
        rw [itemsAt_append]
        cases hb : belowT x.At t with
        | true => exact ⟨by simp [hin, hlim, TimeLess_p], by simp [ocLp, itemsAt, hb, rIt]⟩
        | false => exact ⟨by simp [hin, hlim, TimeLess_p], by simp [ocLp, itemsAt, hb]⟩
      · have hend : cmp .lss (xs.length : Int) (lenI .row xs) = false := lss_end (t := .row)
        simp only [spec_BatchAt_c2_r_ob, spec_BatchAt_c2_r, spec_BatchAt_c2_r_t, Tr.val, Tr.ob, hend]
        exact ⟨by simp, rfl⟩
    have a2 : spec_BatchAt_c2 xs t = .x (itemsAt xs t) := k2.v
    have b2 : spec_BatchAt_c2_ob xs t := k2.t
    obtain ⟨p1, p2⟩ := l2Items_ok (itemsAt xs t) (by have := hlt xs; omega) (itemsAt_inR (fun x hx => okRow_inR (m2 x hx)) t)
    simp only [h1, h2, a2, p2]
    refine ⟨by simp [r1, TimeOk_p, b2, p1], ?_⟩
    rw [if_pos ⟨trivial, trivial⟩]
    rfl
  · rw [if_neg h]
    have hc : (cond (!rowsOk xs) true (!okTime t)) = true := by
      cases h1 : rowsOk xs <;> cases h2 : okTime t <;> simp [h1, h2] at h ⊢
    simp only [hc]
    exact ⟨by simp [r1, TimeOk_p], rfl⟩
theorem impl_BatchAt_ok (xs : List Row) (t : Time) (hl : xs.length < 10000000) : p_impl_BatchAt xs t ∧ v_impl_BatchAt xs t = if rowsOk xs = true ∧ okTime t = true then presI xs t else [] := by
  obtain ⟨r1, r2⟩ := impl_RowsOk_ok xs (by omega)
  obtain ⟨q1, q2⟩ := present_ok xs t (by omega)
  simp only [p_impl_BatchAt, v_impl_BatchAt, impl_BatchAt_b_ob, impl_BatchAt_b, impl_BatchAt_b_t, Tr.val, Tr.ob, AllP, r2, impl_TimeOk_v, q2]
  cases h1 : rowsOk xs <;> cases h2 : okTime t <;> simp [r1, impl_TimeOk_p, q1, ocR]

-- putting in order
theorem rw_gathI (xs : List Row) : Rw.gathI xs = gathR xs := by
  have e : Rw.chI xs = (chR xs).map fun q => (q.1 ++ [0], q.2) := by
    unfold Rw.chI chR
    rw [List.map_map]
    rfl
  have hm := gathM_map (n := 4) (m := 5) (f := fun k => k ++ [0]) (fun a b h => List.append_cancel_right h) (fun k hk => by simp [hk]) (fun a b ha hb => ltK_snoc a b (by rw [ha, hb])) (chR_keyd xs)
  unfold Rw.gathI gathR
  rw [e, hm, List.map_map]
  refine List.map_congr_left fun p hp => ?_
  obtain ⟨x, _, hx⟩ := gathR_key hp
  obtain ⟨k, d⟩ := p
  have hx : k = rK x := hx
  subst hx
  rfl
theorem consolidated_ok (xs : List Row) (hl : xs.length < 1000000000) : p_impl_consolidated xs ∧ v_impl_consolidated xs = gathR xs := by
  refine ⟨?_, rw_gathI xs⟩
  show lim _ 1
  simp only [lim, lenI]; omega
theorem gathR_len' {xs : List Row} (h : absT (chR xs) ≤ 1000000000000000) : (gathR xs).length ≤ xs.length :=
  gathR_len fun x hx => by have := absT_chR_mem hx; unfold InR; omega
theorem batch_ok (xs : List Row) (hl : xs.length < 100000000) (ha : absT (chR xs) ≤ 1000000000000000) : p_impl_batch xs ∧ v_impl_batch xs = if batchOk (gathR xs) = true then (gathR xs, true, ()) else ([], false, ()) := by
  obtain ⟨c1, c2⟩ := consolidated_ok xs (by omega)
  have h1 := gathR_len' ha
  obtain ⟨b1, b2⟩ := impl_BatchOk_ok (gathR xs) (by omega)
  simp only [p_impl_batch, v_impl_batch, impl_batch_b_ob, impl_batch_b, impl_batch_b_t, Tr.val, Tr.ob, AllP, c2, b2]
  cases batchOk (gathR xs) <;> simp [c1, b1, ocR]
/-- Rows put in order are a batch, if they are well formed. -/
theorem scan_pw : ∀ (xs : List Row) (y : Option Row), xs.Pairwise ltRow → (∀ x ∈ xs, x.Diff ≠ 0) → (∀ z, y = some z → ∀ x ∈ xs, ltRow z x) → scanB badB y xs = true
  | [], _, _, _, _ => rfl
  | x :: r, y, hp, hd, hy => by
    have hp' := List.pairwise_cons.1 hp
    have h1 : badB y x = false := by
      have hx := hd x (by simp)
      cases y with
      | none => simp [badB, hx]
      | some z =>
        have : ltK (rK z) (rK x) = true := hy z rfl x (by simp)
        simp [badB, hx, this]
    simp only [scanB, h1, Bool.not_false, Bool.true_and]
    exact scan_pw r (some x) hp'.2 (fun z hz => hd z (by simp [hz])) fun z hz w hw => by cases hz; exact hp'.1 w hw
theorem gathR_scan (xs : List Row) : scanB badB none (gathR xs) = true :=
  scan_pw _ none (gathR_pw xs) (fun x hx => (mem_gathR.1 hx).2) fun z hz => by cases hz
theorem batchOk_gathR (xs : List Row) : batchOk (gathR xs) = rowsOk (gathR xs) := by
  unfold batchOk; rw [gathR_scan]; rfl

-- lists of rows compared
theorem lwRows_p (a b : List Row) (hl : a.length < 1000000000) : p_laws_lwRows a b := by
  simp only [p_laws_lwRows, laws_lwRows_b_ob, laws_lwRows_b_t, laws_lwRows_c1_S, laws_lwRows_c1_ob, laws_lwRows_c1_t, laws_lwRows_c2_S, lpS, Tr.ob]
  refine ⟨fun _ => trivial, fun hne => ?_⟩
  have hab : a.length = b.length := by
    have h1 : lenI .row a = (a.length : Int) := rfl
    have h2 : lenI .row b = (b.length : Int) := rfl
    rw [cmp_neq', h1, h2] at hne
    simp at hne
    omega
  obtain ⟨q, h1, _⟩ := Runs.list (step := fun s : Int => ocLp (laws_lwRows_c2_r a b s)) (ob := fun s => laws_lwRows_c2_r_ob a b s) (Q := fun _ => True) a (fun i (_ : Unit) => (i : Int)) (fun _ _ => True) (b0 := ()) rfl trivial
    (fun l x r _ hx _ => by
      have hlen : a.length = l.length + (r.length + 1) := by rw [hx]; simp
      have hin : inb (l.length : Int) (lenI .row a) := by rw [hx]; exact inb_mid (t := .row)
      have hin2 : inb (l.length : Int) (lenI .row b) := by
        have h2 : lenI .row b = (b.length : Int) := rfl
        rw [h2]
        unfold inb
        omega
      have hlss : cmp .lss (l.length : Int) (lenI .row a) = true := by rw [hx]; exact lss_mid
      simp only [laws_lwRows_c2_r_ob, laws_lwRows_c2_r, laws_lwRows_c2_r_t, Tr.val, Tr.ob, AllP, hlss, succ_mid (l := l) (by omega)]
      refine ⟨by simp [hin, hin2], ?_⟩
      generalize (!(cmp .eql (rd .row a (l.length : Int)).Key (rd .row b (l.length : Int)).Key && (cmp .eql (rd .row a (l.length : Int)).Val (rd .row b (l.length : Int)).Val && (cmp .eql (rd .row a (l.length : Int)).At.A (rd .row b (l.length : Int)).At.A && (cmp .eql (rd .row a (l.length : Int)).At.B (rd .row b (l.length : Int)).At.B && (cmp .eql (rd .row a (l.length : Int)).Diff (rd .row b (l.length : Int)).Diff && true)))))) = c
      cases c with
      | true => exact .inr ⟨_, rfl, trivial⟩
      | false => exact .inl ⟨(), rfl, trivial⟩)
    (fun _ _ => by
      have hend : cmp .lss (a.length : Int) (lenI .row a) = false := lss_end (t := .row)
      simp only [laws_lwRows_c2_r_ob, laws_lwRows_c2_r, laws_lwRows_c2_r_t, Tr.val, Tr.ob, AllP, hend]
      exact ⟨by simp, _, rfl, trivial⟩)
  have b2 : laws_lwRows_c2_ob a b := h1.t
  simp [b2]
theorem lwRows_self (a : List Row) (hl : a.length < 1000000000) : v_laws_lwRows a a = true := by
  have k2 : Runs (fun s : Int => ocLp (laws_lwRows_c2_r a a s)) (fun s => laws_lwRows_c2_r_ob a a s) 0 (if scanB (fun _ (_ : Row) => false) none a = true then .x () else .r false) := by
    refine Runs.scan a _ (fun l x r hx => ?_) ?_
    · have hlen : a.length = l.length + (r.length + 1) := by rw [hx]; simp
      have hin : inb (l.length : Int) (lenI .row a) := by rw [hx]; exact inb_mid (t := .row)
      have hlss : cmp .lss (l.length : Int) (lenI .row a) = true := by rw [hx]; exact lss_mid
      simp only [laws_lwRows_c2_r_ob, laws_lwRows_c2_r, laws_lwRows_c2_r_t, Tr.val, Tr.ob, AllP, hlss, succ_mid (l := l) (by omega), cmp_eql', decide_true, Bool.and_true, Bool.not_true]
      exact ⟨by simp [hin], rfl⟩
    · have hend : cmp .lss (a.length : Int) (lenI .row a) = false := lss_end (t := .row)
      simp only [laws_lwRows_c2_r_ob, laws_lwRows_c2_r, laws_lwRows_c2_r_t, Tr.val, Tr.ob, AllP, hend]
      exact ⟨by simp, rfl⟩
  have a2 : laws_lwRows_c2 a a = _ := k2.v
  have hs : scanB (fun _ (_ : Row) => false) none a = true := by
    exact (scanB_all (fun _ : Row => true) a none).trans (List.all_eq_true.2 fun _ _ => rfl)
  rw [hs] at a2
  simp only [v_laws_lwRows, laws_lwRows_b, laws_lwRows_b_t, laws_lwRows_c1_S, laws_lwRows_c1, laws_lwRows_c1_t, laws_lwRows_c2_S, lpS, Tr.val, a2, cmp_neq', decide_true, Bool.not_true, if_true]
  rfl
end Go.Proofs.Ytopcofkpggefkaa

namespace Go.Proofs.Ytopcofkpggefkaa
open Go
/-- A drawn batch: few rows, small. -/
structure T8 (xs : List Row) : Prop where
  len : xs.length ≤ 9
  small : ∀ x ∈ xs, -24 ≤ x.Diff ∧ x.Diff ≤ 24
theorem T8.nil : T8 [] := ⟨by simp, fun x hx => by simp at hx⟩
theorem presI_G9 {xs : List Row} (h : T8 xs) (hr : rowsOk xs = true) (t : Time) : G9 (presI xs t) := by
  have hlt : (itemsAt xs t).length ≤ xs.length := by unfold itemsAt; rw [List.length_map]; exact List.length_filter_le _ _
  have hs : Small 24 (itemsAt xs t) := fun x hx => by
    obtain ⟨r, hr, rfl⟩ := List.mem_map.1 hx
    exact h.small r ((List.mem_filter.1 hr).1)
  have hl9 := h.len
  have hl := gathI_len (hs.inR (by omega))
  have hg := gathI_small hs (by omega)
  obtain ⟨m1, m2⟩ := rowsOk_mem hr
  refine ⟨?_, by unfold presI; omega, fun x hx => by have := hg x hx; omega⟩
  simp only [setOk, Bool.and_eq_true, decide_eq_true_eq]
  refine ⟨okR_of (fun x hx => ?_) (gathI_pw _) (fun z hz => by cases hz), by unfold presI; omega⟩
  obtain ⟨y, hy, e1, e2⟩ := gathI_from hx
  obtain ⟨r, hr, rfl⟩ := List.mem_map.1 hy
  have h3 := m2 r ((List.mem_filter.1 hr).1)
  simp only [okRow, decide_eq_true_eq] at h3
  have hc := (mem_gathI.1 hx).2
  have hb := hg x hx
  have e1 : r.Key = x.Key := e1
  have e2 : r.Val = x.Val := e2
  simp only [okI, decide_eq_true_eq]
  omega
/-- What is come to at times (one more than 'a' counts) and rounds. -/
def flowS (ties first : List Row) : Nat → Nat → List Item
  | 0, _ => []
  | a + 1, b => iterI (presI ties ⟨a, 0⟩) (presI first ⟨a, 0⟩) b
theorem nil_canon : ([] : List Item) = canon fun _ => false := rfl
theorem flowS_ok {ties first : List Row} (ht : T8 ties) (hf : T8 first) (rt : rowsOk ties = true) (rf : rowsOk first = true) : FlowS (flowS ties first) := by
  refine ⟨fun _ => rfl, fun a => by cases a <;> rfl, fun a b => ?_⟩
  cases a with
  | zero => exact ⟨_, nil_canon⟩
  | succ a =>
    cases b with
    | zero => exact ⟨_, nil_canon⟩
    | succ b => exact ⟨_, step_canon (presI_G9 ht rt _) (presI_G9 hf rf _) (iterI_G9 (presI_G9 ht rt _) (presI_G9 hf rf _) b)⟩

-- the inner loops
theorem c7_ok (x1 x2 : LR) (x3 : Int) (x4 : LR) (x5 : Int) (x6 x7 x8 : LI) (x9 : Int) (due zs : LI) (h1 : due.length ≤ 100000) (h2 : zs.length ≤ 100000) :
    impl_LoopFlow_c7_ob x1 x2 x3 x4 x5 x6 x7 x8 x9 due zs (lenI .item zs) ∧ impl_LoopFlow_c7 x1 x2 x3 x4 x5 x6 x7 x8 x9 due zs (lenI .item zs) = .x (due ++ zs.map negI) := by
  have k : Runs (fun s : LI × Int => ocLp (impl_LoopFlow_c7_r x1 x2 x3 x4 x5 x6 x7 x8 x9 due zs (lenI .item zs) s.1 s.2)) (fun s => impl_LoopFlow_c7_r_ob x1 x2 x3 x4 x5 x6 x7 x8 x9 due zs (lenI .item zs) s.1 s.2) (due, 0) (.x (due ++ zs.map negI)) := by
    refine Runs.fold zs (fun i b => (b, (i : Int))) (fun l => due ++ l.map negI) (by simp) (fun l x r hx => ?_) ?_
    · have hlen : zs.length = l.length + (r.length + 1) := by rw [hx]; simp
      have hrd : rd .item zs (l.length : Int) = x := by rw [hx]; exact rd_mid
      have hin : inb (l.length : Int) (lenI .item zs) := by rw [hx]; exact inb_mid (t := .item)
      have hlss : cmp .lss (l.length : Int) (lenI .item zs) = true := by rw [hx]; exact lss_mid
      have hlim : ∀ y, lim (lenI .item (due ++ l.map negI)) (lenI .item [y]) := fun y => lim_one (t := .item) (show (due ++ l.map negI).length < 1099511627776 by rw [List.length_append, List.length_map]; omega)
      simp only [impl_LoopFlow_c7_r_ob, impl_LoopFlow_c7_r, impl_LoopFlow_c7_r_t, Tr.val, Tr.ob, AllP, hlss, hrd, succ_mid (l := l) (by omega)]
      exact ⟨by simp [hin, hlim], by simp [ocLp, negI]⟩
    · have hend : cmp .lss (zs.length : Int) (lenI .item zs) = false := lss_end (t := .item)
      simp only [impl_LoopFlow_c7_r_ob, impl_LoopFlow_c7_r, impl_LoopFlow_c7_r_t, Tr.val, Tr.ob, AllP, hend]
      exact ⟨by simp, rfl⟩
  exact ⟨k.t, k.v⟩
theorem c8_ok (x1 x2 : LR) (x3 : Int) (all : LR) (a : Int) (x6 x7 x8 : LI) (b : Int) (zs : LI) (h1 : all.length ≤ 100000) (h2 : zs.length ≤ 100000) :
    impl_LoopFlow_c8_ob x1 x2 x3 all a x6 x7 x8 b zs (lenI .item zs) ∧ impl_LoopFlow_c8 x1 x2 x3 all a x6 x7 x8 b zs (lenI .item zs) = .x (all ++ zs.map (rowAt a b)) := by
  have k : Runs (fun s : LR × Int => ocLp (impl_LoopFlow_c8_r x1 x2 x3 all a x6 x7 x8 b zs (lenI .item zs) s.1 s.2)) (fun s => impl_LoopFlow_c8_r_ob x1 x2 x3 all a x6 x7 x8 b zs (lenI .item zs) s.1 s.2) (all, 0) (.x (all ++ zs.map (rowAt a b))) := by
    refine Runs.fold zs (fun i b => (b, (i : Int))) (fun l => all ++ l.map (rowAt a b)) (by simp) (fun l x r hx => ?_) ?_
    · have hlen : zs.length = l.length + (r.length + 1) := by rw [hx]; simp
      have hrd : rd .item zs (l.length : Int) = x := by rw [hx]; exact rd_mid
      have hin : inb (l.length : Int) (lenI .item zs) := by rw [hx]; exact inb_mid (t := .item)
      have hlss : cmp .lss (l.length : Int) (lenI .item zs) = true := by rw [hx]; exact lss_mid
      have hlim : ∀ y, lim (lenI .row (all ++ l.map (rowAt a b))) (lenI .row [y]) := fun y => lim_one (t := .row) (show (all ++ l.map (rowAt a b)).length < 1099511627776 by rw [List.length_append, List.length_map]; omega)
      simp only [impl_LoopFlow_c8_r_ob, impl_LoopFlow_c8_r, impl_LoopFlow_c8_r_t, Tr.val, Tr.ob, AllP, hlss, hrd, succ_mid (l := l) (by omega)]
      exact ⟨by simp [hin, hlim], by simp [ocLp, rowAt]⟩
    · have hend : cmp .lss (zs.length : Int) (lenI .item zs) = false := lss_end (t := .item)
      simp only [impl_LoopFlow_c8_r_ob, impl_LoopFlow_c8_r, impl_LoopFlow_c8_r_t, Tr.val, Tr.ob, AllP, hend]
      exact ⟨by simp, rfl⟩
  exact ⟨k.t, k.v⟩
theorem len_of_abs : ∀ {l : List (List Int × Int)}, (∀ q ∈ l, q.2 ≠ 0) → (l.length : Int) ≤ absT l
  | [], _ => by simp [absT]
  | q :: r, h => by
    have h1 := len_of_abs (l := r) fun p hp => h p (by simp [hp])
    have h2 := h q (by simp)
    simp only [List.length_cons, absT]
    split <;> omega
theorem presI_len {L : List Row} {c : Int} (h : absT (chR L) ≤ c) (hc : c ≤ 100000) (t : Time) : ((presI L t).length : Int) ≤ c := by
  have h1 := itemsAt_absT t L
  have h2 := gathI_absT (a := itemsAt L t) (by omega)
  have h3 := len_of_abs (l := chI (presI L t)) (fun q hq => by
    obtain ⟨x, hx, rfl⟩ := List.mem_map.1 hq
    exact (mem_gathI.1 hx).2)
  have h4 : (chI (presI L t)).length = (presI L t).length := by unfold chI; rw [List.length_map]
  unfold presI at *
  omega
section
variable {ties first : List Row} (ht : T8 ties) (hf : T8 first) (rt : rowsOk ties = true) (rf : rowsOk first = true)
include ht hf rt rf
/-- One round at a time. -/
theorem c5_ok (n : Int) {m a b : Nat} (hb : b + 1 ≤ m) (hm : m ≤ 6) (ha : a < 8) :
    impl_LoopFlow_c5_ob ties first n (allA (flowS ties first) m a ++ colR (flowS ties first) b a) a (presI ties ⟨a, 0⟩) (presI first ⟨a, 0⟩) (flowS ties first (a + 1) b) ((b + 1 : Nat) : Int) ∧
    impl_LoopFlow_c5 ties first n (allA (flowS ties first) m a ++ colR (flowS ties first) b a) a (presI ties ⟨a, 0⟩) (presI first ⟨a, 0⟩) (flowS ties first (a + 1) b) ((b + 1 : Nat) : Int) =
      .n (allA (flowS ties first) m a ++ colR (flowS ties first) (b + 1) a, flowS ties first (a + 1) (b + 1)) := by
  have hS := flowS_ok ht hf rt rf
  have g1 := presI_G9 ht rt ⟨(a : Int), 0⟩
  have g2 := presI_G9 hf rf ⟨(a : Int), 0⟩
  have g3 : G9 (flowS ties first (a + 1) b) := iterI_G9 g1 g2 b
  have g4 : G9 (flowS ties first (a + 1) (b + 1)) := iterI_G9 g1 g2 (b + 1)
  have l1 := g1.len
  have l2 := g2.len
  have l3 := g3.len
  have l4 := g4.len
  obtain ⟨s1, s2⟩ := loopStep_ok _ _ _ (by omega) (by omega) (by omega) (allI_inR g1 g2 g3)
  have s2 : v_impl_loopStep (presI ties ⟨(a : Int), 0⟩) (presI first ⟨(a : Int), 0⟩) (flowS ties first (a + 1) b) = flowS ties first (a + 1) (b + 1) := s2
  have q1 := allA_bound hS m a
  have q2 := colR_bound hS b a
  have e1 : a * (m * 4) ≤ 7 * (6 * 4) := Nat.mul_le_mul (by omega) (Nat.mul_le_mul_right _ hm)
  have e2 : a * (m * 16) ≤ 7 * (6 * 16) := Nat.mul_le_mul (by omega) (Nat.mul_le_mul_right _ hm)
  generalize hL : allA (flowS ties first) m a ++ colR (flowS ties first) b a = L
  have hLl : L.length ≤ 1000 := by rw [← hL, List.length_append]; omega
  have hLa : absT (chR L) ≤ 1000 := by
    rw [← hL, chR_append, absT_append]
    have e3 : ((a * (m * 16) : Nat) : Int) ≤ 672 := by omega
    have e4 : ((b * 16 : Nat) : Int) ≤ 96 := by omega
    omega
  obtain ⟨p1, p2⟩ := present_ok L ⟨a, ((b + 1 : Nat) : Int)⟩ (by omega)
  have hpl := presI_len hLa (by omega) ⟨a, ((b + 1 : Nat) : Int)⟩
  obtain ⟨u1, u2⟩ := c7_ok ties first n L a (presI ties ⟨a, 0⟩) (presI first ⟨a, 0⟩) (flowS ties first (a + 1) (b + 1)) ((b + 1 : Nat) : Int) (flowS ties first (a + 1) (b + 1)) (presI L ⟨a, ((b + 1 : Nat) : Int)⟩) (by omega) (by omega)
  have hdue := dueA hS hb (show m ≤ 10 by omega) (show a ≤ 10 by omega)
  rw [hL] at hdue
  have hg : v_impl_gathered (flowS ties first (a + 1) (b + 1) ++ (presI L ⟨a, ((b + 1 : Nat) : Int)⟩).map negI) = dI (flowS ties first) a b := hdue
  have hgp : p_impl_gathered (flowS ties first (a + 1) (b + 1) ++ (presI L ⟨a, ((b + 1 : Nat) : Int)⟩).map negI) := by
    show lim _ 1
    simp only [lim, lenI, List.length_append, List.length_map]; omega
  have hdl := dI_len hS a b
  obtain ⟨w1, w2⟩ := c8_ok ties first n L a (presI ties ⟨a, 0⟩) (presI first ⟨a, 0⟩) (flowS ties first (a + 1) (b + 1)) ((b + 1 : Nat) : Int) (dI (flowS ties first) a b) (by omega) (by omega)
  have hlim : lim (lenI .item []) (lenI .item (flowS ties first (a + 1) (b + 1))) := lim_two (t := .item) (o := []) (u := flowS ties first (a + 1) (b + 1)) (by simp; omega)
  simp only [impl_LoopFlow_c5_ob, impl_LoopFlow_c5, impl_LoopFlow_c5_t, impl_LoopFlow_c6_S, impl_LoopFlow_c6_ob, impl_LoopFlow_c6, impl_LoopFlow_c6_t, impl_LoopFlow_c7_S, impl_LoopFlow_c8_S, lpS, Tr.val, Tr.ob, AllP, s2, p2, u2, hg, w2, List.nil_append]
  refine ⟨by simp [-Int.natCast_add, s1, p1, u1, hg, hgp, w1, hlim], ?_⟩
  rw [← hL, colR_succ, List.append_assoc]
  rfl
/-- All rounds at a time. -/
theorem c4_ok {m a : Nat} (hm : m ≤ 6) (ha : a < 8) :
    impl_LoopFlow_c4_ob ties first (m : Int) (allA (flowS ties first) m a) a (presI ties ⟨a, 0⟩) (presI first ⟨a, 0⟩) ∧
    impl_LoopFlow_c4 ties first (m : Int) (allA (flowS ties first) m a) a (presI ties ⟨a, 0⟩) (presI first ⟨a, 0⟩) = .x (allA (flowS ties first) m (a + 1)) := by
  have k : Runs (fun s : LR × LI × Int => ocLp (impl_LoopFlow_c4_r ties first (m : Int) (allA (flowS ties first) m a) a (presI ties ⟨a, 0⟩) (presI first ⟨a, 0⟩) s.1 s.2.1 s.2.2))
      (fun s => impl_LoopFlow_c4_r_ob ties first (m : Int) (allA (flowS ties first) m a) a (presI ties ⟨a, 0⟩) (presI first ⟨a, 0⟩) s.1 s.2.1 s.2.2) (allA (flowS ties first) m a, [], 1) (.x (allA (flowS ties first) m (a + 1))) := by
    refine Runs.fold (List.range m) (fun i (b : LR × LI) => (b.1, b.2, ((i + 1 : Nat) : Int))) (fun l => (allA (flowS ties first) m a ++ colR (flowS ties first) l.length a, flowS ties first (a + 1) l.length)) ?_ (fun l x r hx => ?_) ?_
    · show (allA (flowS ties first) m a ++ [], [], _) = _
      rw [List.append_nil]; rfl
    · have hlen : m = l.length + (r.length + 1) := by have := congrArg List.length hx; simpa using this
      obtain ⟨u1, u2⟩ := c5_ok ht hf rt rf (m : Int) (b := l.length) (show l.length + 1 ≤ m by omega) hm ha
      have hleq : cmp .leq ((l.length + 1 : Nat) : Int) (m : Int) = true := by rw [cmp_leq']; simp; omega
      have hsucc : ar .add .i64 ((l.length + 1 : Nat) : Int) 1 = ((l.length + 1 + 1 : Nat) : Int) := by rw [ar_add (by omega)]; omega
      simp only [impl_LoopFlow_c4_r_ob, impl_LoopFlow_c4_r, impl_LoopFlow_c4_r_t, impl_LoopFlow_c5_S, Tr.val, Tr.ob, hleq, u2, hsucc]
      exact ⟨by simp [-Int.natCast_add, u1], by simp [ocLp]⟩
    · have hend : cmp .leq (((List.range m).length + 1 : Nat) : Int) (m : Int) = false := by rw [cmp_leq']; simp; omega
      simp only [impl_LoopFlow_c4_r_ob, impl_LoopFlow_c4_r, impl_LoopFlow_c4_r_t, Tr.val, Tr.ob, hend]
      refine ⟨by simp, ?_⟩
      rw [List.length_range, allA_succ]
      rfl
  exact ⟨k.t, k.v⟩
theorem c2_ok {m : Nat} (hm : m ≤ 6) : impl_LoopFlow_c2_ob ties first (m : Int) ∧ impl_LoopFlow_c2 ties first (m : Int) = .x (allA (flowS ties first) m 8) := by
  have k : Runs (fun s : LR × Int => ocLp (impl_LoopFlow_c2_r ties first (m : Int) s.1 s.2)) (fun s => impl_LoopFlow_c2_r_ob ties first (m : Int) s.1 s.2) ([], 0) (.x (allA (flowS ties first) m 8)) := by
    have hl1 := ht.len
    have hl2 := hf.len
    refine Runs.fold (List.range 8) (fun i (b : LR) => (b, (i : Int))) (fun l => allA (flowS ties first) m l.length) rfl (fun l x r hx => ?_) ?_
    · have hlen : 8 = l.length + (r.length + 1) := by have := congrArg List.length hx; simpa using this
      obtain ⟨u1, u2⟩ := c4_ok ht hf rt rf (a := l.length) hm (by omega)
      obtain ⟨p1, p2⟩ := present_ok ties ⟨(l.length : Int), 0⟩ (by omega)
      obtain ⟨q1, q2⟩ := present_ok first ⟨(l.length : Int), 0⟩ (by omega)
      have hleq : cmp .leq (l.length : Int) 7 = true := by rw [cmp_leq']; simp; omega
      simp only [impl_LoopFlow_c2_r_ob, impl_LoopFlow_c2_r, impl_LoopFlow_c2_r_t, impl_LoopFlow_c3_S, impl_LoopFlow_c3_ob, impl_LoopFlow_c3, impl_LoopFlow_c3_t, impl_LoopFlow_c4_S, lpS, Tr.val, Tr.ob, AllP, hleq, p2, q2, u2, succ_mid (l := l) (by omega)]
      exact ⟨by simp [u1, p1, q1], by simp [ocLp]⟩
    · have hend : cmp .leq ((List.range 8).length : Int) 7 = false := rfl
      simp only [impl_LoopFlow_c2_r_ob, impl_LoopFlow_c2_r, impl_LoopFlow_c2_r_t, Tr.val, Tr.ob, hend]
      exact ⟨by simp, rfl⟩
  exact ⟨k.t, k.v⟩
/-- The changes are well formed. -/
theorem mem_allA {m k : Nat} {x : Row} (hx : x ∈ allA (flowS ties first) m k) : ∃ a b : Nat, a < k ∧ b < m ∧ x.At = ⟨a, ((b + 1 : Nat) : Int)⟩ ∧ 0 ≤ x.Key ∧ x.Key ≤ 3 ∧ x.Val = 0 := by
  obtain ⟨a, ha, hx⟩ := List.mem_flatMap.1 hx
  obtain ⟨b, hb, hx⟩ := List.mem_flatMap.1 hx
  obtain ⟨y, hy, rfl⟩ := List.mem_map.1 hx
  have := dI_item (flowS_ok ht hf rt rf) hy
  exact ⟨a, b, List.mem_range.1 ha, List.mem_range.1 hb, rfl, this.1, this.2.1, this.2.2.1⟩
theorem allA_small {m : Nat} (hm : m ≤ 6) : (allA (flowS ties first) m 8).length ≤ 192 ∧ absT (chR (allA (flowS ties first) m 8)) ≤ 768 := by
  have q1 := allA_bound (flowS_ok ht hf rt rf) m 8
  omega
theorem flow_rowsOk {m : Nat} (hm : m ≤ 6) : rowsOk (gathR (allA (flowS ties first) m 8)) = true := by
  obtain ⟨h1, h2⟩ := allA_small ht hf rt rf hm
  have h3 := gathR_len' (xs := allA (flowS ties first) m 8) (by omega)
  have h4 := gathR_absT (a := allA (flowS ties first) m 8) (by omega)
  simp only [rowsOk, Bool.and_eq_true, decide_eq_true_eq, List.all_eq_true]
  refine ⟨fun x hx => ?_, by omega⟩
  obtain ⟨y, hy, e⟩ := gathR_from hx
  obtain ⟨a, b, ha, hb, e1, e2, e3, e4⟩ := mem_allA ht hf rt rf hy
  have hd := absT_chR_mem hx
  simp only [rK, List.cons.injEq, and_true] at e
  obtain ⟨k1, k2, k3, k4⟩ := e
  rw [e1] at k3 k4
  simp only [okRow, decide_eq_true_eq]
  simp only at k3 k4
  omega
end
/-- What the program's loop over batches comes to. -/
theorem LoopFlow_ok {ties first : List Row} (ht : T8 ties) (hf : T8 first) (n : Int) : p_impl_LoopFlow ties first n ∧
    v_impl_LoopFlow ties first n = if (flatB ties && batchOk ties) = true ∧ (flatB first && batchOk first) = true ∧ 1 ≤ n ∧ n ≤ 6 then (gathR (allA (flowS ties first) n.toNat 8), true, ()) else ([], false, ()) := by
  have l1 := ht.len
  have l2 := hf.len
  obtain ⟨a1, a2⟩ := flat_ok ties (by omega)
  obtain ⟨b1, b2⟩ := flat_ok first (by omega)
  by_cases h : (flatB ties && batchOk ties) = true ∧ (flatB first && batchOk first) = true ∧ 1 ≤ n ∧ n ≤ 6
  · rw [if_pos h]
    obtain ⟨e1, e2, e3, e4⟩ := h
    obtain ⟨m, rfl⟩ : ∃ m : Nat, n = (m : Int) := ⟨n.toNat, by omega⟩
    have hm : m ≤ 6 := by omega
    have rt : rowsOk ties = true := by simp only [batchOk, Bool.and_eq_true] at e1; exact e1.2.2
    have rf : rowsOk first = true := by simp only [batchOk, Bool.and_eq_true] at e2; exact e2.2.2
    obtain ⟨u1, u2⟩ := c2_ok ht hf rt rf hm
    obtain ⟨h1, h2⟩ := allA_small ht hf rt rf hm
    obtain ⟨w1, w2⟩ := batch_ok (allA (flowS ties first) m 8) (by omega) (by omega)
    rw [batchOk_gathR, flow_rowsOk ht hf rt rf hm, if_pos rfl] at w2
    have c1 : cmp .lss (m : Int) 1 = false := by rw [cmp_lss']; simp; omega
    have c2 : cmp .gtr (m : Int) 6 = false := by rw [cmp_gtr']; simp; omega
    simp only [p_impl_LoopFlow, v_impl_LoopFlow, impl_LoopFlow_b_ob, impl_LoopFlow_b, impl_LoopFlow_b_t, impl_LoopFlow_c1_S, impl_LoopFlow_c1_ob, impl_LoopFlow_c1, impl_LoopFlow_c1_t, impl_LoopFlow_c2_S, lpS, Tr.val, Tr.ob, AllP, a2, b2, e1, e2, c1, c2, u2, w2, Bool.not_true, cond_false, ocR, Int.toNat_natCast]
    exact ⟨by simp [a1, b1, u1, w1], trivial⟩
  · rw [if_neg h]
    have hc : (cond (cond (cond (!(v_impl_flat ties)) true (!(v_impl_flat first))) true (cmp .lss n 1)) true (cmp .gtr n 6)) = true := by
      rw [a2, b2, cmp_lss', cmp_gtr']
      cases h1 : (flatB ties && batchOk ties) with
      | false => rfl
      | true =>
        cases h2 : (flatB first && batchOk first) with
        | false => rfl
        | true =>
          rw [h1, h2] at h
          simp at h ⊢
          omega
    simp only [p_impl_LoopFlow, v_impl_LoopFlow, impl_LoopFlow_b_ob, impl_LoopFlow_b, impl_LoopFlow_b_t, Tr.val, Tr.ob, AllP, hc]
    exact ⟨by simp [a1, b1], rfl⟩
end Go.Proofs.Ytopcofkpggefkaa

namespace Go.Proofs.Ytopcofkpggefkaa
open Go
theorem e7_ok (x1 x2 : LR) (x3 : Int) (out : LR) (a b : Int) (lack : LI) (h1 : out.length ≤ 100000) (h2 : lack.length ≤ 100000) (ho : ∀ x ∈ out, okTime x.At = true) (ht : okTime ⟨a, b⟩ = true) :
    spec_LoopFlow_c7_ob x1 x2 x3 out b a lack ∧ spec_LoopFlow_c7 x1 x2 x3 out b a lack = .x (lack ++ (itemsAt out ⟨a, b⟩).map negI) := by
  have hlt : ∀ l : List Row, (itemsAt l ⟨a, b⟩).length ≤ l.length := fun l => by unfold itemsAt; rw [List.length_map]; exact List.length_filter_le _ _
  have k : Runs (fun s : LI × Int => ocLp (spec_LoopFlow_c7_r x1 x2 x3 out b a lack s.1 s.2)) (fun s => spec_LoopFlow_c7_r_ob x1 x2 x3 out b a lack s.1 s.2) (lack, 0) (.x (lack ++ (itemsAt out ⟨a, b⟩).map negI)) := by
    refine Runs.fold out (fun i b => (b, (i : Int))) (fun l => lack ++ (itemsAt l ⟨a, b⟩).map negI) (by simp [itemsAt]) (fun l x r hx => ?_) ?_
    · have hlen : out.length = l.length + (r.length + 1) := by rw [hx]; simp
      have hrd : rd .row out (l.length : Int) = x := by rw [hx]; exact rd_mid
      have hin : inb (l.length : Int) (lenI .row out) := by rw [hx]; exact inb_mid (t := .row)
      have hlss : cmp .lss (l.length : Int) (lenI .row out) = true := by rw [hx]; exact lss_mid
      have hl1 := hlt l
      have hlim : ∀ y, lim (lenI .item (lack ++ (itemsAt l ⟨a, b⟩).map negI)) (lenI .item [y]) := fun y => lim_one (t := .item) (show (lack ++ (itemsAt l ⟨a, b⟩).map negI).length < 1099511627776 by rw [List.length_append, List.length_map]; omega)
      have hx2 := ho x (by rw [hx]; simp)
      simp only [spec_LoopFlow_c7_r_ob, spec_LoopFlow_c7_r, spec_LoopFlow_c7_r_t, spec_LoopFlow_c8_S, spec_LoopFlow_c8_ob, spec_LoopFlow_c8, spec_LoopFlow_c8_t, Tr.val, Tr.ob, AllP, hlss, hrd, succ_mid (l := l) (by omega), TimeLess_v, hx2, ht, Bool.true_and]
      rw [itemsAt_append]
      cases hb : belowT x.At ⟨a, b⟩ with
      | true => exact ⟨by simp [hin, hlim, TimeLess_p], by simp [ocLp, itemsAt, hb, rIt, negI]⟩
      | false => exact ⟨by simp [hin, hlim, TimeLess_p], by simp [ocLp, itemsAt, hb]⟩
    · have hend : cmp .lss (out.length : Int) (lenI .row out) = false := lss_end (t := .row)
      simp only [spec_LoopFlow_c7_r_ob, spec_LoopFlow_c7_r, spec_LoopFlow_c7_r_t, Tr.val, Tr.ob, hend]
      exact ⟨by simp, rfl⟩
  exact ⟨k.t, k.v⟩
theorem e9_ok (x1 x2 : LR) (x3 : Int) (out : LR) (b a : Int) (zs : LI) (h1 : out.length ≤ 100000) (h2 : zs.length ≤ 100000) :
    spec_LoopFlow_c9_ob x1 x2 x3 out b a zs ∧ spec_LoopFlow_c9 x1 x2 x3 out b a zs = .x (out ++ zs.map (rowAt a b)) := by
  have k : Runs (fun s : LR × Int => ocLp (spec_LoopFlow_c9_r x1 x2 x3 out b a zs s.1 s.2)) (fun s => spec_LoopFlow_c9_r_ob x1 x2 x3 out b a zs s.1 s.2) (out, 0) (.x (out ++ zs.map (rowAt a b))) := by
    refine Runs.fold zs (fun i b => (b, (i : Int))) (fun l => out ++ l.map (rowAt a b)) (by simp) (fun l x r hx => ?_) ?_
    · have hlen : zs.length = l.length + (r.length + 1) := by rw [hx]; simp
      have hrd : rd .item zs (l.length : Int) = x := by rw [hx]; exact rd_mid
      have hin : inb (l.length : Int) (lenI .item zs) := by rw [hx]; exact inb_mid (t := .item)
      have hlss : cmp .lss (l.length : Int) (lenI .item zs) = true := by rw [hx]; exact lss_mid
      have hlim : ∀ y, lim (lenI .row (out ++ l.map (rowAt a b))) (lenI .row [y]) := fun y => lim_one (t := .row) (show (out ++ l.map (rowAt a b)).length < 1099511627776 by rw [List.length_append, List.length_map]; omega)
      simp only [spec_LoopFlow_c9_r_ob, spec_LoopFlow_c9_r, spec_LoopFlow_c9_r_t, Tr.val, Tr.ob, AllP, hlss, hrd, succ_mid (l := l) (by omega)]
      exact ⟨by simp [hin, hlim], by simp [ocLp, rowAt]⟩
    · have hend : cmp .lss (zs.length : Int) (lenI .item zs) = false := lss_end (t := .item)
      simp only [spec_LoopFlow_c9_r_ob, spec_LoopFlow_c9_r, spec_LoopFlow_c9_r_t, Tr.val, Tr.ob, AllP, hend]
      exact ⟨by simp, rfl⟩
  exact ⟨k.t, k.v⟩
theorem okT {a b : Nat} (ha : a < 8) (hb : b ≤ 7) : okTime ⟨a, b⟩ = true := by simp [okTime]; omega
theorem okT_dR {S : Nat → Nat → List Item} {a b : Nat} (ha : a < 8) (hb : b < 6) : ∀ x ∈ dR S a b, okTime x.At = true := fun x hx => by
  obtain ⟨y, _, rfl⟩ := List.mem_map.1 hx
  exact okT ha (show b + 1 ≤ 7 by omega)
theorem okT_row {S : Nat → Nat → List Item} {m b : Nat} (hm : m ≤ 8) (hb : b < 6) : ∀ x ∈ rowR S m b, okTime x.At = true := fun x hx => by
  obtain ⟨a, ha, hx⟩ := List.mem_flatMap.1 hx
  exact okT_dR (by have := List.mem_range.1 ha; omega) hb x hx
theorem okT_all {S : Nat → Nat → List Item} {m n : Nat} (hm : m ≤ 8) (hn : n ≤ 6) : ∀ x ∈ allQ S n m, okTime x.At = true := fun x hx => by
  obtain ⟨b, hb, hx⟩ := List.mem_flatMap.1 hx
  exact okT_row hm (by have := List.mem_range.1 hb; omega) x hx
section
variable {ties first : List Row} (ht : T8 ties) (hf : T8 first) (rt : rowsOk ties = true) (rf : rowsOk first = true)
include ht hf rt rf
/-- One time of a round. -/
theorem e5_ok (n : Int) {a b : Nat} (hb : b < 6) (ha : a < 8) :
    spec_LoopFlow_c5_ob ties first n (allQ (flowS ties first) b 8 ++ rowR (flowS ties first) a b) ((b + 1 : Nat) : Int) a ∧
    spec_LoopFlow_c5 ties first n (allQ (flowS ties first) b 8 ++ rowR (flowS ties first) a b) ((b + 1 : Nat) : Int) a = .n (allQ (flowS ties first) b 8 ++ rowR (flowS ties first) (a + 1) b) := by
  have hS := flowS_ok ht hf rt rf
  have g1 := presI_G9 ht rt ⟨(a : Int), 0⟩
  have g2 := presI_G9 hf rf ⟨(a : Int), 0⟩
  have g4 : G9 (flowS ties first (a + 1) (b + 1)) := iterI_G9 g1 g2 (b + 1)
  have l0 := ht.len
  have l0' := hf.len
  have l4 := g4.len
  have hok : okTime ⟨(a : Int), 0⟩ = true := okT (b := 0) ha (by omega)
  obtain ⟨p1, p2⟩ := BatchAt_v ties ⟨(a : Int), 0⟩ (by omega)
  obtain ⟨q1, q2⟩ := BatchAt_v first ⟨(a : Int), 0⟩ (by omega)
  rw [if_pos ⟨rt, hok⟩] at p2
  rw [if_pos ⟨rf, hok⟩] at q2
  obtain ⟨s1, s2⟩ := specLoopSet_ok g1.d g2.d ((b + 1 : Nat) : Int)
  have s3 : v_spec_LoopSet (presI ties ⟨(a : Int), 0⟩) (presI first ⟨(a : Int), 0⟩) ((b + 1 : Nat) : Int) = flowS ties first (a + 1) (b + 1) := by
    rw [s2]
    unfold roundsV
    rw [if_pos ⟨g1.ok, g2.ok, by omega, by omega⟩]
    rfl
  have b1 := allQ_bound hS b 8
  have b2 := rowR_bound hS a b
  generalize hL : allQ (flowS ties first) b 8 ++ rowR (flowS ties first) a b = L
  have hLl : L.length ≤ 1000 := by rw [← hL, List.length_append]; omega
  have hLa : absT (chR L) ≤ 1000 := by rw [← hL, chR_append, absT_append]; omega
  have hLt : ∀ x ∈ L, okTime x.At = true := fun x hx => by
    rw [← hL] at hx
    rcases List.mem_append.1 hx with hx | hx
    · exact okT_all (by omega) (by omega) x hx
    · exact okT_row (by omega) hb x hx
  have hit : (itemsAt L ⟨a, ((b + 1 : Nat) : Int)⟩).length ≤ L.length := by unfold itemsAt; rw [List.length_map]; exact List.length_filter_le _ _
  obtain ⟨u1, u2⟩ := e7_ok ties first n L a ((b + 1 : Nat) : Int) (flowS ties first (a + 1) (b + 1)) (by omega) (by omega) hLt (okT ha (by omega))
  have hdue := dueB hS (m := 8) (a := a) (b := b) (by omega) (by omega) (by omega)
  rw [hL] at hdue
  have hia := itemsAt_absT ⟨a, ((b + 1 : Nat) : Int)⟩ L
  obtain ⟨_, n2⟩ := neg_sums (xs := itemsAt L ⟨a, ((b + 1 : Nat) : Int)⟩) (by omega)
  have hsa := hS.abs (a + 1) (b + 1)
  have hda : absT (chI (flowS ties first (a + 1) (b + 1) ++ (itemsAt L ⟨a, ((b + 1 : Nat) : Int)⟩).map negI)) ≤ 2000 := by
    rw [chI_append, absT_append, n2]; omega
  obtain ⟨w1, w2⟩ := l2Items_ok (flowS ties first (a + 1) (b + 1) ++ (itemsAt L ⟨a, ((b + 1 : Nat) : Int)⟩).map negI) (by rw [List.length_append, List.length_map]; omega) (fun x hx => by have := absT_chI_mem hx; unfold InR; omega)
  rw [hdue] at w2
  have hdl := dI_len hS a b
  obtain ⟨y1, y2⟩ := e9_ok ties first n L ((b + 1 : Nat) : Int) a (dI (flowS ties first) a b) (by omega) (by omega)
  simp only [spec_LoopFlow_c5_ob, spec_LoopFlow_c5, spec_LoopFlow_c5_t, spec_LoopFlow_c6_S, spec_LoopFlow_c6_ob, spec_LoopFlow_c6, spec_LoopFlow_c6_t, spec_LoopFlow_c7_S, spec_LoopFlow_c9_S, lpS, Tr.val, Tr.ob, AllP, p2, q2, s3, u2, w2, y2]
  refine ⟨by simp [-Int.natCast_add, p1, q1, s1, u1, w1, w2, y1], ?_⟩
  rw [← hL, rowR_succ, List.append_assoc]
  rfl
/-- A round. -/
theorem e4_ok (n : Int) {b : Nat} (hb : b < 6) :
    spec_LoopFlow_c4_ob ties first n (allQ (flowS ties first) b 8) ((b + 1 : Nat) : Int) ∧ spec_LoopFlow_c4 ties first n (allQ (flowS ties first) b 8) ((b + 1 : Nat) : Int) = .x (allQ (flowS ties first) (b + 1) 8) := by
  have k : Runs (fun s : LR × Int => ocLp (spec_LoopFlow_c4_r ties first n (allQ (flowS ties first) b 8) ((b + 1 : Nat) : Int) s.1 s.2)) (fun s => spec_LoopFlow_c4_r_ob ties first n (allQ (flowS ties first) b 8) ((b + 1 : Nat) : Int) s.1 s.2)
      (allQ (flowS ties first) b 8, 0) (.x (allQ (flowS ties first) (b + 1) 8)) := by
    refine Runs.fold (List.range 8) (fun i (b : LR) => (b, (i : Int))) (fun l => allQ (flowS ties first) b 8 ++ rowR (flowS ties first) l.length b) ?_ (fun l x r hx => ?_) ?_
    · show (allQ (flowS ties first) b 8 ++ [], _) = _
      rw [List.append_nil]; rfl
    · have hlen : 8 = l.length + (r.length + 1) := by have := congrArg List.length hx; simpa using this
      obtain ⟨u1, u2⟩ := e5_ok ht hf rt rf n (a := l.length) hb (by omega)
      have hleq : cmp .leq (l.length : Int) 7 = true := by rw [cmp_leq']; simp; omega
      simp only [spec_LoopFlow_c4_r_ob, spec_LoopFlow_c4_r, spec_LoopFlow_c4_r_t, spec_LoopFlow_c5_S, Tr.val, Tr.ob, hleq, u2, succ_mid (l := l) (by omega)]
      exact ⟨by simp [-Int.natCast_add, u1], by simp [ocLp]⟩
    · have hend : cmp .leq ((List.range 8).length : Int) 7 = false := rfl
      simp only [spec_LoopFlow_c4_r_ob, spec_LoopFlow_c4_r, spec_LoopFlow_c4_r_t, Tr.val, Tr.ob, hend]
      refine ⟨by simp, ?_⟩
      rw [List.length_range, allQ_succ]
      rfl
  exact ⟨k.t, k.v⟩
theorem e2_ok {m : Nat} (hm : m ≤ 6) : spec_LoopFlow_c2_ob ties first (m : Int) ∧ spec_LoopFlow_c2 ties first (m : Int) = .x (allQ (flowS ties first) m 8) := by
  have k : Runs (fun s : LR × Int => ocLp (spec_LoopFlow_c2_r ties first (m : Int) s.1 s.2)) (fun s => spec_LoopFlow_c2_r_ob ties first (m : Int) s.1 s.2) ([], 1) (.x (allQ (flowS ties first) m 8)) := by
    refine Runs.fold (List.range m) (fun i (b : LR) => (b, ((i + 1 : Nat) : Int))) (fun l => allQ (flowS ties first) l.length 8) rfl (fun l x r hx => ?_) ?_
    · have hlen : m = l.length + (r.length + 1) := by have := congrArg List.length hx; simpa using this
      obtain ⟨u1, u2⟩ := e4_ok ht hf rt rf (m : Int) (b := l.length) (by omega)
      have hleq : cmp .leq ((l.length + 1 : Nat) : Int) (m : Int) = true := by rw [cmp_leq']; simp; omega
      have hsucc : ar .add .i64 ((l.length + 1 : Nat) : Int) 1 = ((l.length + 1 + 1 : Nat) : Int) := by rw [ar_add (by omega)]; omega
      simp only [spec_LoopFlow_c2_r_ob, spec_LoopFlow_c2_r, spec_LoopFlow_c2_r_t, spec_LoopFlow_c3_S, spec_LoopFlow_c3_ob, spec_LoopFlow_c3, spec_LoopFlow_c3_t, spec_LoopFlow_c4_S, lpS, Tr.val, Tr.ob, hleq, u2, hsucc]
      exact ⟨by simp [-Int.natCast_add, u1], by simp [ocLp]⟩
    · have hend : cmp .leq (((List.range m).length + 1 : Nat) : Int) (m : Int) = false := by rw [cmp_leq']; simp; omega
      simp only [spec_LoopFlow_c2_r_ob, spec_LoopFlow_c2_r, spec_LoopFlow_c2_r_t, Tr.val, Tr.ob, hend]
      refine ⟨by simp, ?_⟩
      rw [List.length_range]
      rfl
  exact ⟨k.t, k.v⟩
end
/-- What the reference's loop over batches comes to. -/
theorem specLoopFlow_ok {ties first : List Row} (ht : T8 ties) (hf : T8 first) (n : Int) : p_spec_LoopFlow ties first n ∧
    v_spec_LoopFlow ties first n = if (flatB ties && batchOk ties) = true ∧ (flatB first && batchOk first) = true ∧ 1 ≤ n ∧ n ≤ 6 then (gathR (allA (flowS ties first) n.toNat 8), true, ()) else ([], false, ()) := by
  have l1 := ht.len
  have l2 := hf.len
  obtain ⟨a1, a2⟩ := BatchOk_v ties (by omega)
  obtain ⟨b1, b2⟩ := BatchOk_v first (by omega)
  obtain ⟨c1, c2⟩ := l22Ahead_ok ties (by omega)
  obtain ⟨d1, d2⟩ := l22Ahead_ok first (by omega)
  by_cases h : (flatB ties && batchOk ties) = true ∧ (flatB first && batchOk first) = true ∧ 1 ≤ n ∧ n ≤ 6
  · rw [if_pos h]
    obtain ⟨e1, e2, e3, e4⟩ := h
    obtain ⟨m, rfl⟩ : ∃ m : Nat, n = (m : Int) := ⟨n.toNat, by omega⟩
    have hm : m ≤ 6 := by omega
    simp only [Bool.and_eq_true] at e1 e2
    have rt : rowsOk ties = true := by have := e1.2; simp only [batchOk, Bool.and_eq_true] at this; exact this.2
    have rf : rowsOk first = true := by have := e2.2; simp only [batchOk, Bool.and_eq_true] at this; exact this.2
    have hS := flowS_ok ht hf rt rf
    obtain ⟨u1, u2⟩ := e2_ok ht hf rt rf hm
    have q1 := allQ_bound hS m 8
    obtain ⟨w1, w2⟩ := l2Sum_ok (allQ (flowS ties first) m 8) (by omega) (fun x hx => by have := absT_chR_mem hx; unfold InR; omega)
    rw [← two_orders hS (show m ≤ 10 by omega) (show 8 ≤ 10 by omega)] at w2
    have hin : v_spec_l6In (m : Int) 1 6 = true := by rw [l6In_v]; simp; omega
    simp only [p_spec_LoopFlow, v_spec_LoopFlow, spec_LoopFlow_b_ob, spec_LoopFlow_b, spec_LoopFlow_b_t, spec_LoopFlow_c1_S, spec_LoopFlow_c1_ob, spec_LoopFlow_c1, spec_LoopFlow_c1_t, spec_LoopFlow_c2_S, lpS, Tr.val, Tr.ob, AllP, a2, b2, c2, d2, e1.1, e1.2, e2.1, e2.2, hin, u2, w2, Bool.not_true, cond_false, ocR, Int.toNat_natCast]
    exact ⟨by simp [a1, b1, c1, d1, l6In_p, u1, w1], trivial⟩
  · rw [if_neg h]
    have hc : (cond (cond (cond (cond (!(v_spec_BatchOk ties)) true (!(v_spec_BatchOk first))) true (!(v_spec_l22Ahead ties))) true (!(v_spec_l22Ahead first))) true (!(v_spec_l6In n 1 6))) = true := by
      rw [a2, b2, c2, d2, l6In_v]
      cases h1 : batchOk ties <;> cases h2 : batchOk first <;> cases h3 : flatB ties <;> cases h4 : flatB first <;> simp [h1, h2, h3, h4] at h ⊢
      omega
    simp only [p_spec_LoopFlow, v_spec_LoopFlow, spec_LoopFlow_b_ob, spec_LoopFlow_b, spec_LoopFlow_b_t, Tr.val, Tr.ob, AllP, hc]
    exact ⟨by simp [a1, b1, c1, d1, l6In_p], rfl⟩
end Go.Proofs.Ytopcofkpggefkaa

namespace Go.Proofs.Ytopcofkpggefkaa
open Go
theorem BatchOf_ok (xs : List Row) (hl : xs.length ≤ 8) (hd : ∀ x ∈ xs, -3 ≤ x.Diff ∧ x.Diff ≤ 3) : p_spec_BatchOf xs ∧ T8 (v_spec_BatchOf xs) := by
  have ha := absT_chR hd
  obtain ⟨r1, r2⟩ := RowsOk_v xs (by omega)
  obtain ⟨s1, s2⟩ := l2Sum_ok xs (by omega) (fun x hx => by have := hd x hx; unfold InR; omega)
  have hl2 := gathR_len' (xs := xs) (by omega)
  have ha2 := gathR_absT (a := xs) (by omega)
  obtain ⟨b1, b2⟩ := BatchOk_v (gathR xs) (by omega)
  have hfp : p_spec_l2Fit (gathR xs) := by
    simp only [p_spec_l2Fit, spec_l2Fit_b_ob, spec_l2Fit_b_t, Tr.ob, AllP]
    simp [b1]
  have hfv : v_spec_l2Fit (gathR xs) = if batchOk (gathR xs) = true then gathR xs else [] := by
    simp only [v_spec_l2Fit, spec_l2Fit_b, spec_l2Fit_b_t, Tr.val, b2]
    cases batchOk (gathR xs) <;> rfl
  have hT : T8 (gathR xs) := ⟨by omega, fun x hx => by have := absT_chR_mem hx; omega⟩
  simp only [p_spec_BatchOf, v_spec_BatchOf, spec_BatchOf_b_ob, spec_BatchOf_b, spec_BatchOf_b_t, Tr.val, Tr.ob, AllP, r2, s2, hfv]
  refine ⟨by simp [r1, s1, hfp], ?_⟩
  cases rowsOk xs with
  | false => exact T8.nil
  | true =>
    show T8 (if batchOk (gathR xs) = true then gathR xs else [])
    split
    · exact hT
    · exact T8.nil
theorem l71Early_ok {b : List Int} (hb : RdOk b) {p m : Int} (hp : 0 ≤ p ∧ p ≤ 500000) (hm : 0 ≤ m ∧ m ≤ 8) :
    p_spec_l71Early (b, p) m ∧ p ≤ (v_spec_l71Early (b, p) m).2 ∧ (v_spec_l71Early (b, p) m).2 ≤ p + 1 + 9 * m ∧ T8 (v_spec_l71Early (b, p) m).1 := by
  obtain ⟨a1, a2, a3, a4, a5⟩ := l71Rows_ok hb hp (show 0 ≤ m ∧ m ≤ 100 by omega)
  generalize hR : v_spec_l71Rows (b, p) m = R at a2 a3 a4 a5
  have key : ∃ q, Runs (fun s : LR × Int => ocLp (spec_l71Early_c2_r b R.2 R.1 s.1 s.2)) (fun s => spec_l71Early_c2_r_ob b R.2 R.1 s.1 s.2) (R.1, 0) q ∧ ∃ ys : List Row, q = .x ys ∧ ys.length = R.1.length ∧ ∀ x ∈ ys, -3 ≤ x.Diff ∧ x.Diff ≤ 3 := by
    refine Runs.list R.1 (fun i (b : LR) => (b, (i : Int))) (fun _ b => b.length = R.1.length ∧ ∀ x ∈ b, -3 ≤ x.Diff ∧ x.Diff ≤ 3) (b0 := R.1) rfl ⟨rfl, a5⟩ ?_ ?_
    · rintro l x r ys hx ⟨i1, i2⟩
      have hlen : R.1.length = l.length + (r.length + 1) := by rw [hx]; simp
      have hll : lenI .row ys = (ys.length : Int) := rfl
      have hlss : cmp .lss (l.length : Int) (lenI .row ys) = true := by rw [cmp_lss', hll]; simp; omega
      have hin : inb (l.length : Int) (lenI .row ys) := by rw [hll]; unfold inb; omega
      have hlt : l.length < ys.length := by omega
      have hrd : rd .row ys (l.length : Int) = ys[l.length] := by
        show ys.getD (Int.toNat (l.length : Int)) _ = _
        rw [Int.toNat_natCast, List.getD_eq_getElem?_getD, List.getElem?_eq_getElem hlt]; rfl
      simp only [spec_l71Early_c2_r_ob, spec_l71Early_c2_r, spec_l71Early_c2_r_t, Tr.val, Tr.ob, AllP, hlss, hrd, succ_mid (l := l) (by omega)]
      refine ⟨by simp [hin], .inl ⟨_, rfl, by rw [List.length_set]; exact i1, fun y hy => ?_⟩⟩
      rcases List.mem_or_eq_of_mem_set hy with h | h
      · exact i2 y h
      · rw [h]; exact i2 ys[l.length] (List.getElem_mem hlt)
    · rintro ys ⟨i1, i2⟩
      have hll : lenI .row ys = (ys.length : Int) := rfl
      have hend : cmp .lss (R.1.length : Int) (lenI .row ys) = false := by rw [cmp_lss', hll]; simp; omega
      simp only [spec_l71Early_c2_r_ob, spec_l71Early_c2_r, spec_l71Early_c2_r_t, Tr.val, Tr.ob, AllP, hend]
      exact ⟨by simp, _, rfl, ys, rfl, i1, i2⟩
  obtain ⟨q, h1, ys, rfl, h2, h3⟩ := key
  have u2 : spec_l71Early_c2 b R.2 R.1 = .x ys := h1.v
  have u1 : spec_l71Early_c2_ob b R.2 R.1 := h1.t
  obtain ⟨c1, c2⟩ := BatchOf_ok ys (by omega) h3
  simp only [p_spec_l71Early, v_spec_l71Early, spec_l71Early_b_ob, spec_l71Early_b, spec_l71Early_b_t, spec_l71Early_c1_S, spec_l71Early_c1_ob, spec_l71Early_c1, spec_l71Early_c1_t, spec_l71Early_c2_S, lpS, Tr.val, Tr.ob, AllP, hR, u2, ocR]
  exact ⟨by simp [a1, u1, c1], a2, a3, c2⟩
end Go.Proofs.Ytopcofkpggefkaa

namespace Go.Proofs.Ytopcofkpggefkaa
open Go
/-- The program's loop and the reference's, on what is drawn. -/
theorem flow_cases {ties first : List Row} (ht : T8 ties) (hf : T8 first) (n : Int) : p_impl_LoopFlow ties first n ∧ p_spec_LoopFlow ties first n ∧
    ((v_impl_LoopFlow ties first n = ([], false, ()) ∧ v_spec_LoopFlow ties first n = ([], false, ())) ∨
    ∃ m : Nat, n = (m : Int) ∧ 1 ≤ m ∧ m ≤ 6 ∧ (flatB ties && batchOk ties) = true ∧ (flatB first && batchOk first) = true ∧ rowsOk ties = true ∧ rowsOk first = true ∧
      v_impl_LoopFlow ties first n = (gathR (allA (flowS ties first) m 8), true, ()) ∧ v_spec_LoopFlow ties first n = (gathR (allA (flowS ties first) m 8), true, ())) := by
  obtain ⟨a1, a2⟩ := LoopFlow_ok ht hf n
  obtain ⟨b1, b2⟩ := specLoopFlow_ok ht hf n
  refine ⟨a1, b1, ?_⟩
  by_cases h : (flatB ties && batchOk ties) = true ∧ (flatB first && batchOk first) = true ∧ 1 ≤ n ∧ n ≤ 6
  · rw [if_pos h] at a2 b2
    obtain ⟨e1, e2, e3, e4⟩ := h
    obtain ⟨m, rfl⟩ : ∃ m : Nat, n = (m : Int) := ⟨n.toNat, by omega⟩
    rw [Int.toNat_natCast] at a2 b2
    refine .inr ⟨m, rfl, by omega, by omega, e1, e2, ?_, ?_, a2, b2⟩
    · simp only [batchOk, Bool.and_eq_true] at e1; exact e1.2.2
    · simp only [batchOk, Bool.and_eq_true] at e2; exact e2.2.2
  · rw [if_neg h] at a2 b2
    exact .inl ⟨a2, b2⟩

-- leaving a loop
def outR (a : List Row) (n : Int) : List Row := (a.filter fun r => decide (r.At.B ≤ n)).map fun r => ⟨r.Key, r.Val, ⟨r.At.A, 0⟩, r.Diff⟩
theorem outR_len (a : List Row) (n : Int) : (outR a n).length ≤ a.length := by unfold outR; rw [List.length_map]; exact List.length_filter_le _ _
theorem outR_abs (n : Int) : ∀ a : List Row, absT (chR (outR a n)) ≤ absT (chR a)
  | [] => Int.le_refl _
  | r :: a => by
    have ih := outR_abs n a
    show _ ≤ (if 0 ≤ r.Diff then r.Diff else -r.Diff) + absT (chR a)
    unfold outR
    rw [List.filter_cons]
    split
    · show (if 0 ≤ r.Diff then r.Diff else -r.Diff) + absT (chR (outR a n)) ≤ _
      omega
    · show absT (chR (outR a n)) ≤ _
      split <;> omega
theorem LoopOut_ok (a : List Row) (n : Int) (hl : a.length ≤ 100000) (ha : absT (chR a) ≤ 1000000000) : p_impl_LoopOut a n ∧
    v_impl_LoopOut a n = if rowsOk a = true then (if batchOk (gathR (outR a n)) = true then gathR (outR a n) else []) else [] := by
  obtain ⟨r1, r2⟩ := impl_RowsOk_ok a (by omega)
  have k2 : Runs (fun s : LR × Int => ocLp (impl_LoopOut_c2_r n a (lenI .row a) s.1 s.2)) (fun s => impl_LoopOut_c2_r_ob n a (lenI .row a) s.1 s.2) ([], 0) (.x (outR a n)) := by
    refine Runs.fold a (fun i b => (b, (i : Int))) (fun l => outR l n) rfl (fun l x r hx => ?_) ?_
    · have hlen : a.length = l.length + (r.length + 1) := by rw [hx]; simp
      have hrd : rd .row a (l.length : Int) = x := by rw [hx]; exact rd_mid
      have hin : inb (l.length : Int) (lenI .row a) := by rw [hx]; exact inb_mid (t := .row)
      have hlss : cmp .lss (l.length : Int) (lenI .row a) = true := by rw [hx]; exact lss_mid
      have hl1 := outR_len l n
      have hlim : ∀ y, lim (lenI .row (outR l n)) (lenI .row [y]) := fun y => lim_one (t := .row) (show (outR l n).length < 1099511627776 by omega)
      simp only [impl_LoopOut_c2_r_ob, impl_LoopOut_c2_r, impl_LoopOut_c2_r_t, impl_LoopOut_c3_S, impl_LoopOut_c3_ob, impl_LoopOut_c3, impl_LoopOut_c3_t, Tr.val, Tr.ob, AllP, hlss, hrd, succ_mid (l := l) (by omega), cmp_leq']
      by_cases hb : x.At.B ≤ n
      · simp only [hb, decide_true]
        exact ⟨by simp [hin, hlim], by simp [ocLp, outR, hb]⟩
      · simp only [hb, decide_false]
        exact ⟨by simp [hin], by simp [ocLp, outR, hb]⟩
    · have hend : cmp .lss (a.length : Int) (lenI .row a) = false := lss_end (t := .row)
      simp only [impl_LoopOut_c2_r_ob, impl_LoopOut_c2_r, impl_LoopOut_c2_r_t, Tr.val, Tr.ob, hend]
      exact ⟨by simp, rfl⟩
  have a2 : impl_LoopOut_c2 n a (lenI .row a) = .x (outR a n) := k2.v
  have b2 : impl_LoopOut_c2_ob n a (lenI .row a) := k2.t
  have h1 := outR_len a n
  have h2 := outR_abs n a
  obtain ⟨w1, w2⟩ := batch_ok (outR a n) (by omega) (by omega)
  simp only [p_impl_LoopOut, v_impl_LoopOut, impl_LoopOut_b_ob, impl_LoopOut_b, impl_LoopOut_b_t, impl_LoopOut_c1_S, impl_LoopOut_c1_ob, impl_LoopOut_c1, impl_LoopOut_c1_t, impl_LoopOut_c2_S, lpS, Tr.val, Tr.ob, AllP, r2, a2, w2]
  refine ⟨by simp [r1, b2, w1], ?_⟩
  cases rowsOk a <;> cases batchOk (gathR (outR a n)) <;> rfl
end Go.Proofs.Ytopcofkpggefkaa

namespace Go.Proofs.Ytopcofkpggefkaa
open Go
theorem l2Fit_ok (xs : List Row) (hl : xs.length < 1000000) : p_spec_l2Fit xs ∧ v_spec_l2Fit xs = if batchOk xs = true then xs else [] := by
  obtain ⟨b1, b2⟩ := BatchOk_v xs (by omega)
  simp only [p_spec_l2Fit, v_spec_l2Fit, spec_l2Fit_b_ob, spec_l2Fit_b, spec_l2Fit_b_t, Tr.val, Tr.ob, AllP, b2]
  refine ⟨by simp [b1], ?_⟩
  cases batchOk xs <;> rfl
theorem specLoopOut_ok (a : List Row) (n : Int) (hl : a.length ≤ 100000) (ha : absT (chR a) ≤ 1000000000) : p_spec_LoopOut a n ∧
    v_spec_LoopOut a n = if rowsOk a = true then (if batchOk (gathR (outR a n)) = true then gathR (outR a n) else []) else [] := by
  obtain ⟨r1, r2⟩ := RowsOk_v a (by omega)
  have key : ∃ xs : List Row, spec_LoopOut_c2_ob a n ∧ spec_LoopOut_c2 a n = .x xs ∧ xs = if rowsOk a = true then outR a n else [] := by
    cases hr : rowsOk a with
    | false =>
      have k : Runs (fun s : LR × Int => ocLp (spec_LoopOut_c2_r a n s.1 s.2)) (fun s => spec_LoopOut_c2_r_ob a n s.1 s.2) ([], 0) (.x []) := by
        refine Runs.out ?_ ?_
        · simp only [spec_LoopOut_c2_r_ob, spec_LoopOut_c2_r_t, Tr.ob, AllP, r2, hr]
          cases cmp .lss 0 (lenI .row a) <;> simp [r1]
        · simp only [spec_LoopOut_c2_r, spec_LoopOut_c2_r_t, Tr.val, r2, hr]
          cases cmp .lss 0 (lenI .row a) <;> rfl
      exact ⟨_, k.t, k.v, rfl⟩
    | true =>
      have k2 : Runs (fun s : LR × Int => ocLp (spec_LoopOut_c2_r a n s.1 s.2)) (fun s => spec_LoopOut_c2_r_ob a n s.1 s.2) ([], 0) (.x (outR a n)) := by
        refine Runs.fold a (fun i b => (b, (i : Int))) (fun l => outR l n) rfl (fun l x r hx => ?_) ?_
        · have hlen : a.length = l.length + (r.length + 1) := by rw [hx]; simp
          have hrd : rd .row a (l.length : Int) = x := by rw [hx]; exact rd_mid
          have hin : inb (l.length : Int) (lenI .row a) := by rw [hx]; exact inb_mid (t := .row)
          have hlss : cmp .lss (l.length : Int) (lenI .row a) = true := by rw [hx]; exact lss_mid
          have hl1 := outR_len l n
          have hlim : ∀ y, lim (lenI .row (outR l n)) (lenI .row [y]) := fun y => lim_one (t := .row) (show (outR l n).length < 1099511627776 by omega)
          simp only [spec_LoopOut_c2_r_ob, spec_LoopOut_c2_r, spec_LoopOut_c2_r_t, spec_LoopOut_c3_S, spec_LoopOut_c3_ob, spec_LoopOut_c3, spec_LoopOut_c3_t, Tr.val, Tr.ob, AllP, hlss, hrd, r2, hr, cond_true, succ_mid (l := l) (by omega), cmp_leq']
          by_cases hb : x.At.B ≤ n
          · simp only [hb, decide_true]
            exact ⟨by simp [hin, hlim, r1], by simp [ocLp, outR, hb]⟩
          · simp only [hb, decide_false]
            exact ⟨by simp [hin, r1], by simp [ocLp, outR, hb]⟩
        · have hend : cmp .lss (a.length : Int) (lenI .row a) = false := lss_end (t := .row)
          simp only [spec_LoopOut_c2_r_ob, spec_LoopOut_c2_r, spec_LoopOut_c2_r_t, Tr.val, Tr.ob, AllP, hend, cond_false]
          exact ⟨by simp, rfl⟩
      exact ⟨_, k2.t, k2.v, rfl⟩
  obtain ⟨xs, b2, a2, hxs⟩ := key
  have h1 := outR_len a n
  have h2 := outR_abs n a
  have hxl : xs.length ≤ 100000 := by rw [hxs]; split <;> first | omega | simp
  have hxa : absT (chR xs) ≤ 1000000000 := by
    rw [hxs]; split
    · omega
    · simp [chR, absT]
  obtain ⟨s1, s2⟩ := l2Sum_ok xs (by omega) (fun x hx => by have := absT_chR_mem hx; unfold InR; omega)
  have h3 := gathR_len' (xs := xs) (by omega)
  obtain ⟨f1, f2⟩ := l2Fit_ok (gathR xs) (by omega)
  simp only [p_spec_LoopOut, v_spec_LoopOut, spec_LoopOut_b_ob, spec_LoopOut_b, spec_LoopOut_b_t, spec_LoopOut_c1_S, spec_LoopOut_c1_ob, spec_LoopOut_c1, spec_LoopOut_c1_t, spec_LoopOut_c2_S, lpS, Tr.val, Tr.ob, AllP, a2, s2, f2, ocR]
  refine ⟨by simp [b2, a2, s1, s2, f1], ?_⟩
  rw [hxs]
  by_cases hr : rowsOk a = true
  · rw [if_pos hr, if_pos hr]
  · rw [if_neg hr, if_neg hr]
    split <;> rfl
theorem itemsAt_outR (n t : Int) : ∀ a : List Row, itemsAt (outR a n) ⟨t, 0⟩ = itemsAt a ⟨t, n⟩
  | [] => rfl
  | r :: a => by
    have ih := itemsAt_outR n t a
    have e1 : outR (r :: a) n = (if r.At.B ≤ n then [(⟨r.Key, r.Val, ⟨r.At.A, 0⟩, r.Diff⟩ : Row)] else []) ++ outR a n := by
      unfold outR
      by_cases h : r.At.B ≤ n <;> simp [h]
    have e2 : itemsAt (r :: a) ⟨t, n⟩ = (if r.At.A ≤ t ∧ r.At.B ≤ n then [rIt r] else []) ++ itemsAt a ⟨t, n⟩ := by
      unfold itemsAt
      by_cases h1 : r.At.A ≤ t <;> by_cases h2 : r.At.B ≤ n <;> simp [belowT, h1, h2]
    rw [e1, e2, itemsAt_append, ih]
    congr 1
    by_cases h2 : r.At.B ≤ n
    · rw [if_pos h2]
      by_cases h1 : r.At.A ≤ t <;> simp [itemsAt, belowT, h1, h2, rIt]
    · rw [if_neg h2, if_neg fun h => h2 h.2]; rfl

-- what is drawn
theorem l71Spoil_ok {b : List Int} (hb : RdOk b) {p : Int} (hp : 0 ≤ p ∧ p ≤ 700000) {xs : List Row} (hl : xs.length ≤ 100) :
    p_spec_l71Spoil (b, p) xs ∧ p ≤ (v_spec_l71Spoil (b, p) xs).2 ∧ (v_spec_l71Spoil (b, p) xs).2 ≤ p + 10 ∧ ∃ x : Row, (v_spec_l71Spoil (b, p) xs).1 = xs ++ [x] ∧ ((-3 ≤ x.Diff ∧ x.Diff ≤ 3) ∨ x.Diff = 100000 ∨ x.Diff = -100000) := by
  obtain ⟨a1, a2, a3, a4⟩ := l71Row_ok hb (p := p) (by omega)
  generalize hR : v_spec_l71Row (b, p) = R at a2 a3 a4
  obtain ⟨c1, c2, c3, c4⟩ := pick_ok hb (p := R.2) (n := 5) (by omega) (by omega)
  obtain ⟨d1, d2, d3, d4⟩ := pick_ok hb (p := R.2 + 1) (n := 2) (by omega) (by omega)
  have hin : ∀ u v : Int, inb (v_spec_l6Rd_pick (b, R.2 + 1) 2).1 (lenI .int [u, v]) := fun u v => ⟨d3, d4⟩
  have key : spec_l71Spoil_c1_ob b R.2 xs R.1 ∧ ∃ q k v s t d, spec_l71Spoil_c1 b R.2 xs R.1 = .n (q, k, v, s, t, d) ∧ R.2 ≤ q ∧ q ≤ R.2 + 3 ∧ ((-3 ≤ d ∧ d ≤ 3) ∨ d = 100000 ∨ d = -100000) := by
    simp only [spec_l71Spoil_c1_ob, spec_l71Spoil_c1, spec_l71Spoil_c1_t, Tr.val, Tr.ob, AllP, c2, cmp_eql']
    generalize (v_spec_l6Rd_pick (b, R.2) 5).1 = i at c3 c4
    have hi : i = 0 ∨ i = 1 ∨ i = 2 ∨ i = 3 ∨ i = 4 := by omega
    rcases hi with rfl | rfl | rfl | rfl | rfl
    · exact ⟨by simp [c1, d1, hin], _, _, _, _, _, _, rfl, by omega, by omega, .inl ⟨a3, a4⟩⟩
    · exact ⟨by simp [c1, d1, hin], _, _, _, _, _, _, rfl, by omega, by omega, .inl ⟨a3, a4⟩⟩
    · exact ⟨by simp [c1], _, _, _, _, _, _, rfl, by omega, by omega, .inl ⟨a3, a4⟩⟩
    · refine ⟨by simp [c1, d1, hin], _, _, _, _, _, _, rfl, by omega, by omega, ?_⟩
      generalize (v_spec_l6Rd_pick (b, R.2 + 1) 2).1 = j at d3 d4
      have hj : j = 0 ∨ j = 1 := by omega
      rcases hj with rfl | rfl
      · exact .inr (.inr rfl)
      · exact .inr (.inl rfl)
    · exact ⟨by simp [c1], _, _, _, _, _, _, rfl, by omega, by omega, .inl ⟨a3, a4⟩⟩
  obtain ⟨k1, q, k, v, s, t, d, k2, k3, k4, k5⟩ := key
  have l1 : lim (lenI .row []) (lenI .row xs) := lim_two (t := .row) (o := []) (u := xs) (by simp; omega)
  have l2 : ∀ y, lim (lenI .row xs) (lenI .row [y]) := fun y => lim_one (t := .row) (show xs.length < 1099511627776 by omega)
  simp only [p_spec_l71Spoil, v_spec_l71Spoil, spec_l71Spoil_b_ob, spec_l71Spoil_b, spec_l71Spoil_b_t, spec_l71Spoil_c1_S, spec_l71Spoil_c2_S, spec_l71Spoil_c2_ob, spec_l71Spoil_c2, spec_l71Spoil_c2_t, Tr.val, Tr.ob, AllP, hR, k2, List.nil_append, ocR]
  exact ⟨by simp [a1, k1, l1, l2], by omega, by omega, _, rfl, k5⟩
/-- Rows that leave a loop, drawn. -/
structure OutD (a : List Row) : Prop where
  len : a.length ≤ 400
  big : ∀ x ∈ a, -100000 ≤ x.Diff ∧ x.Diff ≤ 100000
  abs : rowsOk a = true → absT (chR a) ≤ 2000
theorem l71Any_ok {b : List Int} (hb : RdOk b) {p : Int} (hp : 0 ≤ p ∧ p ≤ 400000) :
    p_spec_l71Any (b, p) ∧ p ≤ (v_spec_l71Any (b, p)).2 ∧ (v_spec_l71Any (b, p)).2 ≤ p + 200 ∧ OutD (v_spec_l71Any (b, p)).1 := by
  obtain ⟨a1, a2, a3, a4, a5⟩ := l71Rows_ok hb (p := p) (m := 10) (by omega) (by omega)
  generalize hR : v_spec_l71Rows (b, p) 10 = R at a2 a3 a4 a5
  obtain ⟨c1, c2, c3, c4⟩ := pick_ok hb (p := R.2) (n := 14) (by omega) (by omega)
  obtain ⟨d1, d2, d3, x, d4, d5⟩ := l71Spoil_ok hb (p := R.2 + 1) (by omega) (xs := R.1) (by omega)
  have ha := absT_chR a5
  simp only [p_spec_l71Any, v_spec_l71Any, spec_l71Any_b_ob, spec_l71Any_b, spec_l71Any_b_t, Tr.val, Tr.ob, AllP, hR, c2]
  cases hc : cmp .eql (v_spec_l6Rd_pick (b, R.2) 14).1 0 with
  | true =>
    simp only [ocR, d4]
    refine ⟨by simp [a1, c1, d1], by omega, by omega, ⟨by simp; omega, fun y hy => ?_, fun hr => ?_⟩⟩
    · rcases List.mem_append.1 hy with h | h
      · have := a5 y h; omega
      · simp at h; subst h; omega
    · have hx := (rowsOk_mem hr).2 x (by simp)
      simp only [okRow, decide_eq_true_eq] at hx
      rw [chR_append, absT_append]
      show _ + ((if 0 ≤ x.Diff then x.Diff else -x.Diff) + 0) ≤ _
      split <;> omega
  | false =>
    simp only [ocR]
    exact ⟨by simp [a1, c1], by omega, by omega, ⟨by omega, fun y hy => by have := a5 y hy; omega, fun _ => by omega⟩⟩
theorem DrawLoopOut_ok {c : List Int} (hc : ∀ x ∈ c, 0 ≤ x ∧ x ≤ 255) : p_spec_DrawLoopOut c ∧ ∃ a n, v_spec_DrawLoopOut c = (a, n, ()) ∧ OutD a := by
  obtain ⟨o1, b, o2, hb⟩ := l6Open_ok hc
  obtain ⟨x1, x2, x3, x4⟩ := l71Early_ok hb (p := 0) (m := 8) (by omega) (by omega)
  generalize hA : v_spec_l71Early (b, 0) 8 = A at x2 x3 x4
  obtain ⟨y1, y2, y3, y4⟩ := l71Early_ok hb (p := A.2) (m := 5) (by omega) (by omega)
  generalize hB : v_spec_l71Early (b, A.2) 5 = B at y2 y3 y4
  obtain ⟨d1, d2, d3, d4⟩ := pick_ok hb (p := B.2) (n := 6) (by omega) (by omega)
  have hn : ar .add .i64 1 (v_spec_l6Rd_pick (b, B.2) 6).1 = 1 + (v_spec_l6Rd_pick (b, B.2) 6).1 := ar_add (by omega)
  generalize hN : 1 + (v_spec_l6Rd_pick (b, B.2) 6).1 = N at hn
  obtain ⟨_, r1, hcase⟩ := flow_cases x4 y4 N
  have hF : OutD (v_spec_LoopFlow A.1 B.1 N).1 := by
    rcases hcase with ⟨_, r2⟩ | ⟨m, rfl, m1, m2, e1, e2, rt, rf, _, r2⟩
    · rw [r2]; exact ⟨by simp, fun x hx => by simp at hx, fun _ => by simp [chR, absT]⟩
    · obtain ⟨h1, h2⟩ := allA_small x4 y4 rt rf m2
      have h3 := gathR_len' (xs := allA (flowS A.1 B.1) m 8) (by omega)
      have h4 := gathR_absT (a := allA (flowS A.1 B.1) m 8) (by omega)
      rw [r2]
      exact ⟨by simp only; omega, fun x hx => by have := absT_chR_mem hx; simp only at this; omega, fun _ => by simp only; omega⟩
  generalize hFe : v_spec_LoopFlow A.1 B.1 N = F at hF
  obtain ⟨e1, e2, e3, e4⟩ := pick_ok hb (p := B.2 + 1) (n := 10) (by omega) (by omega)
  obtain ⟨f1, f2, f3, f4⟩ := l71Any_ok hb (p := B.2 + 1 + 1) (by omega)
  have key : spec_DrawLoopOut_c1_ob b (B.2 + 1) F.1 ∧ ∃ q a, spec_DrawLoopOut_c1 b (B.2 + 1) F.1 = .n (q, a) ∧ 0 ≤ q ∧ q ≤ 1000 ∧ OutD a := by
    simp only [spec_DrawLoopOut_c1_ob, spec_DrawLoopOut_c1, spec_DrawLoopOut_c1_t, Tr.val, Tr.ob, AllP, e2]
    cases hq : cmp .eql (v_spec_l6Rd_pick (b, B.2 + 1) 10).1 0 with
    | true => exact ⟨by simp [e1, f1], _, _, rfl, by omega, by omega, f4⟩
    | false => exact ⟨by simp [e1], _, _, rfl, by omega, by omega, hF⟩
  obtain ⟨k1, q, a, k2, k3, k4, k5⟩ := key
  obtain ⟨g1, g2, g3, g4⟩ := pick_ok hb (p := q) (n := 9) (by omega) (by omega)
  simp only [p_spec_DrawLoopOut, v_spec_DrawLoopOut, spec_DrawLoopOut_b_ob, spec_DrawLoopOut_b, spec_DrawLoopOut_b_t, spec_DrawLoopOut_c1_S, Tr.val, Tr.ob, AllP, o2, hA, hB, d2, hn, hFe, k2, ocR]
  exact ⟨by simp [o1, x1, hA, y1, d1, r1, k1, k2, g1], _, _, rfl, k5⟩
theorem FnLoopOut_true (c : List Int) (hc : ∀ x ∈ c, 0 ≤ x ∧ x ≤ 255) : p_laws_FnLoopOut c ∧ v_laws_FnLoopOut c = true := by
  by_cases hbig : cmp .gtr (lenI .byte c) 1048576 = true
  · simp only [p_laws_FnLoopOut, v_laws_FnLoopOut, laws_FnLoopOut_b_ob, laws_FnLoopOut_b, hbig, ocR, laws_FnLoopOut_b_t, Tr.val, Tr.ob, AllP]
    exact ⟨by simp, trivial⟩
  · have hbig : cmp .gtr (lenI .byte c) 1048576 = false := by simpa using hbig
    obtain ⟨d1, A, n, d2, hA⟩ := DrawLoopOut_ok hc
    have hAl := hA.len
    have hAa := absT_chR hA.big
    have hAa : absT (chR A) ≤ 1000000000 := by omega
    obtain ⟨i1, i2⟩ := LoopOut_ok A n (by omega) hAa
    obtain ⟨r1, r2⟩ := specLoopOut_ok A n (by omega) hAa
    rw [← r2] at i2
    obtain ⟨q1, q2⟩ := RowsOk_v A (by omega)
    have hol := outR_len A n
    have hoa := outR_abs n A
    have hgl := gathR_len' (xs := outR A n) (by omega)
    have hga := gathR_absT (a := outR A n) (by omega)
    have hXl : (v_spec_LoopOut A n).length ≤ 400 := by
      rw [r2]
      split
      · split
        · omega
        · simp
      · simp
    by_cases h : rowsOk A = true ∧ 0 ≤ n ∧ n ≤ 7
    · obtain ⟨hr, n0, n7⟩ := h
      have ha2 := hA.abs hr
      have hrX : rowsOk (gathR (outR A n)) = true := by
        simp only [rowsOk, Bool.and_eq_true, decide_eq_true_eq, List.all_eq_true]
        refine ⟨fun x hx => ?_, by omega⟩
        obtain ⟨y, hy, e⟩ := gathR_from hx
        obtain ⟨z, hz, rfl⟩ := List.mem_map.1 hy
        have hz := (rowsOk_mem hr).2 z (List.mem_filter.1 hz).1
        have hd := absT_chR_mem hx
        simp only [rK, List.cons.injEq, and_true] at e
        obtain ⟨k1, k2, k3, k4⟩ := e
        simp only [okRow, decide_eq_true_eq] at hz ⊢
        omega
      rw [if_pos hr, batchOk_gathR, hrX, if_pos rfl] at r2
      have hpX : ∀ t : Int, presI (v_spec_LoopOut A n) ⟨t, 0⟩ = presI A ⟨t, n⟩ := fun t => by
        rw [r2, presI_gathR (by omega)]
        show gathI _ = gathI _
        rw [itemsAt_outR]
      rw [← r2] at hrX
      generalize hXe : v_spec_LoopOut A n = X at i2 hXl hpX hrX
      have w1 := lwRows_p X X (by omega)
      have w2 := lwRows_self X (by omega)
      have c1 : cmp .lss n 0 = false := by rw [cmp_lss']; simp; omega
      have c2 : cmp .gtr n 7 = false := by rw [cmp_gtr']; simp; omega
      have k2 : Runs (fun s : Int => ocLp (laws_FnLoopOut_c2_r A n X s)) (fun s => laws_FnLoopOut_c2_r_ob A n X s) 0 (.x ()) := by
        refine Runs.fold (List.range 8) (fun i (_ : Unit) => (i : Int)) (fun _ => ()) rfl (fun l x r hx => ?_) ?_
        · have hlen : 8 = l.length + (r.length + 1) := by have := congrArg List.length hx; simpa using this
          have o1 : okTime ⟨(l.length : Int), 0⟩ = true := okT (b := 0) (by omega) (by omega)
          have o2 : okTime ⟨(l.length : Int), n⟩ = true := by simp [okTime]; omega
          obtain ⟨p1, p2⟩ := impl_BatchAt_ok X ⟨(l.length : Int), 0⟩ (by omega)
          obtain ⟨s1, s2⟩ := impl_BatchAt_ok A ⟨(l.length : Int), n⟩ (by omega)
          rw [if_pos ⟨hrX, o1⟩, hpX] at p2
          rw [if_pos ⟨hr, o2⟩] at s2
          have hpl := presI_len ha2 (by omega) ⟨(l.length : Int), n⟩
          have y1 := lwItems_p (a := presI A ⟨(l.length : Int), n⟩) (b := presI A ⟨(l.length : Int), n⟩) (by omega)
          have y2 := lwItems_self (a := presI A ⟨(l.length : Int), n⟩) (by omega)
          have hleq : cmp .leq (l.length : Int) 7 = true := by rw [cmp_leq']; simp; omega
          simp only [laws_FnLoopOut_c2_r_ob, laws_FnLoopOut_c2_r, laws_FnLoopOut_c2_r_t, Tr.val, Tr.ob, AllP, hleq, p2, s2, y2, Bool.not_true, succ_mid (l := l) (by omega)]
          exact ⟨by simp [p1, s1, y1], rfl⟩
        · have hend : cmp .leq ((List.range 8).length : Int) 7 = false := rfl
          simp only [laws_FnLoopOut_c2_r_ob, laws_FnLoopOut_c2_r, laws_FnLoopOut_c2_r_t, Tr.val, Tr.ob, AllP, hend]
          exact ⟨by simp, rfl⟩
      have u2 : laws_FnLoopOut_c2 A n X = .x () := k2.v
      have u1 : laws_FnLoopOut_c2_ob A n X := k2.t
      rw [hr] at q2
      simp only [p_laws_FnLoopOut, v_laws_FnLoopOut, laws_FnLoopOut_b_ob, laws_FnLoopOut_b, laws_FnLoopOut_b_t, laws_FnLoopOut_c1_S, laws_FnLoopOut_c1_ob, laws_FnLoopOut_c1, laws_FnLoopOut_c1_t, laws_FnLoopOut_c2_S, lpS, Tr.val, Tr.ob, AllP, hbig, d2, i2, hXe, w2, q2, c1, c2, u2, Bool.not_true, cond_false, ocR]
      exact ⟨by simp [d1, i1, r1, w1, q1, u1, u2], trivial⟩
    · generalize hXe : v_spec_LoopOut A n = X at i2 hXl
      have w1 := lwRows_p X X (by omega)
      have w2 := lwRows_self X (by omega)
      have hc : (cond (cond (cond (!true) true (!rowsOk A)) true (cmp .lss n 0)) true (cmp .gtr n 7)) = true := by
        rw [cmp_lss', cmp_gtr']
        cases hr : rowsOk A with
        | false => rfl
        | true =>
          rw [hr] at h
          simp at h ⊢
          omega
      simp only [p_laws_FnLoopOut, v_laws_FnLoopOut, laws_FnLoopOut_b_ob, laws_FnLoopOut_b, laws_FnLoopOut_b_t, Tr.val, Tr.ob, AllP, hbig, d2, i2, hXe, w2, q2, hc, ocR]
      exact ⟨by simp [d1, i1, r1, w1, q1], trivial⟩
end Go.Proofs.Ytopcofkpggefkaa
