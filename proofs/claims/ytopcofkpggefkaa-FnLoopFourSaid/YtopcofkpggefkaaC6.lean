/-
  Printed by a program: what functions compute, and their contracts (part 3). No statement is proved here. From a contract of a function of bytes to its row: the function returns true, and its argument is as it was. No statement is proved here. Printed by a program: the contracts, with those of the callees. No statement is proved here. Rules for loops over lists, and for the order that a fold sets up. No statement is proved here. What the drawing functions give: bounds. No statement is proved here. Sums of rows and of items in the reference: they are the gathered ones. No statement is proved here. What is drawn for laws of loops: bounds. No statement is proved here. Sets and steps of loops, by what they compute. No statement is proved here. The reference's steps of loops, by what they compute. No statement is proved here. Steps of loops, as sets of keys. No statement is proved here. Laws of loops, by what they compute: each answers true. No statement is proved here. Laws of loops of more rounds, by what they compute: each answers true. No statement is proved here. Laws of loops whose ties take nothing away, by what they compute: each answers true. No statement is proved here.
-/
import Derived.Test.YtopcofkpggefkaaC5
import Derived.ProofKit
import Derived.SizedLaws
import Derived.IntWalk

namespace Go.Proofs.Ytopcofkpggefkaa
open Go
noncomputable def sp_laws_lwHas : SP := []
noncomputable def laws_lwHas_c2_r (x3 : List Item) (x4 : Item) (s8 : Int) : Oc (Int) Bool Unit Empty Empty :=
  match (cmp .lss s8 (lenI .item x3)) with
  | true =>
    match (cmp .eql (rd .item x3 s8).Key x4.Key && (cmp .eql (rd .item x3 s8).Val x4.Val && (cmp .eql (rd .item x3 s8).Count x4.Count && true))) with
    | true =>
      .r true
    | false =>
      .n (ar .add .i64 s8 1)
  | false =>
    .x ()
def laws_lwHas_c2_r_ob (x3 : List Item) (x4 : Item) (s8 : Int) : Prop :=
  ((True)) ∧
  ((cmp .lss s8 (lenI .item x3)) = true →
    ((inb s8 (lenI .item x3)) ∧ (True)) ∧
    ((cmp .eql (rd .item x3 s8).Key x4.Key && (cmp .eql (rd .item x3 s8).Val x4.Val && (cmp .eql (rd .item x3 s8).Count x4.Count && true))) = true →
      ((True)) ∧
      True) ∧ ((cmp .eql (rd .item x3 s8).Key x4.Key && (cmp .eql (rd .item x3 s8).Val x4.Val && (cmp .eql (rd .item x3 s8).Count x4.Count && true))) = false →
      ((True)) ∧
      True)) ∧ ((cmp .lss s8 (lenI .item x3)) = false →
    True)
set_option maxRecDepth 100000 in
theorem laws_lwHas_c2_r_ok (G : Good Try.prog tt sp_laws_lwHas) {fr : Fr} (x3 : List Item) (x4 : Item) (s8 : Int) (hob : laws_lwHas_c2_r_ob x3 x4 s8) {n r : Env → Prop} {x : Nat → Env → Prop}
    (hn : ∀ (q12 : Int), (laws_lwHas_c2_r x3 x4 s8) = .n q12 → ∀ e, Weak e [(0, .v .sh (.lst .item x3)), (3, .box [(.fr, .int .i64 x4.Key), (.fr, .int .i64 x4.Val), (.fr, .int .i64 x4.Count)]), (5, .v .fr (.int .i64 q12))] → n e)
    (hr : ∀ q, (laws_lwHas_c2_r x3 x4 s8) = .r q → ∀ e, retAv tt e [.tmp 4] (.one .fr .bool) = some (RT.av (.one .fr .bool) q) → r e)
    (hx : (laws_lwHas_c2_r x3 x4 s8) = .x () → ∀ e, Weak e [] → x 0 e) :
    Ht Try.prog ⟨(Try.f50).ntmps, none, []⟩ fr (nav (bodyOf (Try.f50)) [1, 0, 1, 0, 0]) [(0, .v .sh (.lst .item x3)), (3, .box [(.fr, .int .i64 x4.Key), (.fr, .int .i64 x4.Val), (.fr, .int .i64 x4.Count)]), (5, .v .fr (.int .i64 s8))] n r x := by
  unfold laws_lwHas_c2_r_ob at hob
  refine Ht.seq (c1 := (nav (bodyOf (Try.f50)) [1, 0, 1, 0, 0, 0])) (c2 := (nav (bodyOf (Try.f50)) [1, 0, 1, 0, 0, 1])) (by kernel_rfl) ?_
  refine Ht.seq (c1 := (nav (bodyOf (Try.f50)) [1, 0, 1, 0, 0, 0, 0])) (c2 := (nav (bodyOf (Try.f50)) [1, 0, 1, 0, 0, 0, 1])) (by kernel_rfl) ?_
  refine Ht.reg G (keep := [0, 3, 5, 9]) (e' := [(0, .v .sh (.lst .item x3)), (3, .box [(.fr, .int .i64 x4.Key), (.fr, .int .i64 x4.Val), (.fr, .int .i64 x4.Count)]), (5, .v .fr (.int .i64 s8)), (9, .v .fr (.bool (cmp .lss s8 (lenI .item x3))))]) (obs := []) (by kernel_rfl) hob.1 ?_
  refine Ht.cond (o := .tmp 9) (c1 := (nav (bodyOf (Try.f50)) [1, 0, 1, 0, 0, 0, 1, 0])) (c2 := (nav (bodyOf (Try.f50)) [1, 0, 1, 0, 0, 0, 1, 1])) (b := (cmp .lss s8 (lenI .item x3))) (by kernel_rfl) (by kernel_rfl) (fun h9 => ?_) (fun h9 => ?_)
  · have hb := hob.2.1 h9
    refine Ht.skip (by kernel_rfl) ?_
    refine Ht.seq (c1 := (nav (bodyOf (Try.f50)) [1, 0, 1, 0, 0, 1, 0])) (c2 := (nav (bodyOf (Try.f50)) [1, 0, 1, 0, 0, 1, 1])) (by kernel_rfl) ?_
    refine Ht.block (id := 1) (c1 := (nav (bodyOf (Try.f50)) [1, 0, 1, 0, 0, 1, 0, 0])) (by kernel_rfl) ?_
    refine Ht.seq (c1 := (nav (bodyOf (Try.f50)) [1, 0, 1, 0, 0, 1, 0, 0, 0])) (c2 := (nav (bodyOf (Try.f50)) [1, 0, 1, 0, 0, 1, 0, 0, 1])) (by kernel_rfl) ?_
    refine Ht.reg G (keep := [0, 3, 5, 17]) (e' := [(0, .v .sh (.lst .item x3)), (3, .box [(.fr, .int .i64 x4.Key), (.fr, .int .i64 x4.Val), (.fr, .int .i64 x4.Count)]), (5, .v .fr (.int .i64 s8)), (17, .v .fr (.bool (cmp .eql (rd .item x3 s8).Key x4.Key && (cmp .eql (rd .item x3 s8).Val x4.Val && (cmp .eql (rd .item x3 s8).Count x4.Count && true)))))]) (obs := [inb s8 (lenI .item x3)]) (by kernel_rfl) hb.1 ?_
    refine Ht.cond (o := .tmp 17) (c1 := (nav (bodyOf (Try.f50)) [1, 0, 1, 0, 0, 1, 0, 0, 1, 0])) (c2 := (nav (bodyOf (Try.f50)) [1, 0, 1, 0, 0, 1, 0, 0, 1, 1])) (b := (cmp .eql (rd .item x3 s8).Key x4.Key && (cmp .eql (rd .item x3 s8).Val x4.Val && (cmp .eql (rd .item x3 s8).Count x4.Count && true)))) (by kernel_rfl) (by kernel_rfl) (fun h10 => ?_) (fun h10 => ?_)
    · have hb := hb.2.1 h10
      refine Ht.seq (c1 := (nav (bodyOf (Try.f50)) [1, 0, 1, 0, 0, 1, 0, 0, 1, 0, 0])) (c2 := (nav (bodyOf (Try.f50)) [1, 0, 1, 0, 0, 1, 0, 0, 1, 0, 1])) (by kernel_rfl) ?_
      refine Ht.reg G (keep := [4]) (e' := [(4, .v .fr (.bool true))]) (obs := []) (by kernel_rfl) hb.1 ?_
      refine Ht.ret (by kernel_rfl) ?_
      exact hr true (by simp only [laws_lwHas_c2_r, h9, h10]) _ (by kernel_rfl)
    · have hb := hb.2.2 h10
      refine Ht.skip (by kernel_rfl) ?_
      refine Ht.reg G (keep := [0, 3, 5]) (e' := [(0, .v .sh (.lst .item x3)), (3, .box [(.fr, .int .i64 x4.Key), (.fr, .int .i64 x4.Val), (.fr, .int .i64 x4.Count)]), (5, .v .fr (.int .i64 (ar .add .i64 s8 1)))]) (obs := []) (by kernel_rfl) hb.1 ?_
      exact hn (ar .add .i64 s8 1) (by simp only [laws_lwHas_c2_r, h9, h10]) _ (Weak.cast (pat := [(0, .sh), (3, .same), (5, .fr)]) (by kernel_rfl) (by kernel_rfl))
  · have hb := hob.2.2 h9
    refine Ht.exit (i := 0) (by kernel_rfl) ?_
    exact hx (by simp only [laws_lwHas_c2_r, h9]) _ (Weak.cast (pat := []) (by kernel_rfl) (by kernel_rfl))

noncomputable def laws_lwHas_c2 (x3 : List Item) (x4 : Item) : Oc Empty Bool Unit Empty Empty := lpV (fun s => ocLp ((fun (s : Int) => laws_lwHas_c2_r x3 x4 s) s)) 0
def laws_lwHas_c2_ob (x3 : List Item) (x4 : Item) : Prop := LpT (fun s => ocLp ((fun (s : Int) => laws_lwHas_c2_r x3 x4 s) s)) (fun s => laws_lwHas_c2_r_ob x3 x4 s) 0
set_option maxRecDepth 100000 in
theorem laws_lwHas_c2_ok (G : Good Try.prog tt sp_laws_lwHas) {fr : Fr} (x3 : List Item) (x4 : Item) (hob : laws_lwHas_c2_ob x3 x4) {n r : Env → Prop} {x : Nat → Env → Prop}
    (hr : ∀ q, (laws_lwHas_c2 x3 x4) = .r q → ∀ e, retAv tt e [.tmp 4] (.one .fr .bool) = some (RT.av (.one .fr .bool) q) → r e)
    (hx : (laws_lwHas_c2 x3 x4) = .x () → ∀ e, Weak e [] → x 0 e) :
    Ht Try.prog ⟨(Try.f50).ntmps, none, []⟩ fr (nav (bodyOf (Try.f50)) [1, 0, 1, 0]) [(0, .v .sh (.lst .item x3)), (3, .box [(.fr, .int .i64 x4.Key), (.fr, .int .i64 x4.Val), (.fr, .int .i64 x4.Count)]), (5, .v .fr (.int .i64 0))] n r x := by
  unfold laws_lwHas_c2_ob at hob
  refine Ht.weak (e' := (fun (s : Int) => [(0, .v .sh (.lst .item x3)), (3, .box [(.fr, .int .i64 x4.Key), (.fr, .int .i64 x4.Val), (.fr, .int .i64 x4.Count)]), (5, .v .fr (.int .i64 s))]) 0) (Weak.cast (pat := [(0, .sh), (3, .same), (5, .fr)]) (by kernel_rfl) (by kernel_rfl)) ?_
  refine Ht.loopOc (c1 := (nav (bodyOf (Try.f50)) [1, 0, 1, 0, 0])) (by kernel_rfl) (fun (s : Int) => [(0, .v .sh (.lst .item x3)), (3, .box [(.fr, .int .i64 x4.Key), (.fr, .int .i64 x4.Val), (.fr, .int .i64 x4.Count)]), (5, .v .fr (.int .i64 s))]) (fun (s : Int) => laws_lwHas_c2_r x3 x4 s) hob (RP := fun q e => retAv tt e [.tmp 4] (.one .fr .bool) = some (RT.av (.one .fr .bool) q)) (XP := (fun i _ e => i = 0 ∧ Weak e [])) (YP := (fun _ _ _ => False)) (ZP := (fun _ _ _ => False)) (fun s hs => ?_) ?_ ?_ ?_ ?_
  · refine laws_lwHas_c2_r_ok G x3 x4 s hs (fun q12 h e hw => ⟨q12, h, hw⟩) (fun q h e he => ⟨q, h, he⟩) (fun h e hw => .inl ⟨(), h, rfl, hw⟩)
  · exact fun q e h he => hr q h e he
  · rintro i q e h ⟨rfl, hw⟩
    exact hx h e hw
  · exact fun _ _ _ _ h => h.elim
  · exact fun _ _ _ _ h => h.elim


noncomputable def laws_lwHas_c1 (x1 : List Item) (x2 : Item) : Oc Unit Bool Empty Empty Empty :=
  match (laws_lwHas_c2 x1 x2) with
  | .r q13 =>
    .r q13
  | .x () =>
    .n ()
  | .n q => q.elim
  | .y q => q.elim
  | .z q => q.elim
def laws_lwHas_c1_ob (x1 : List Item) (x2 : Item) : Prop :=
  ((True)) ∧
  (laws_lwHas_c2_ob x1 x2) ∧
  ((laws_lwHas_c2 x1 x2) = .x () →
    True)
set_option maxRecDepth 100000 in
theorem laws_lwHas_c1_ok (G : Good Try.prog tt sp_laws_lwHas) {fr : Fr} (x1 : List Item) (x2 : Item) (hob : laws_lwHas_c1_ob x1 x2) {n r : Env → Prop} {x : Nat → Env → Prop}
    (hn : (laws_lwHas_c1 x1 x2) = .n () → ∀ e, Weak e [] → n e)
    (hr : ∀ q, (laws_lwHas_c1 x1 x2) = .r q → ∀ e, retAv tt e [.tmp 4] (.one .fr .bool) = some (RT.av (.one .fr .bool) q) → r e) :
    Ht Try.prog ⟨(Try.f50).ntmps, none, []⟩ fr (nav (bodyOf (Try.f50)) [1, 0]) [(0, .v .sh (.lst .item x1)), (3, .box [(.fr, .int .i64 x2.Key), (.fr, .int .i64 x2.Val), (.fr, .int .i64 x2.Count)])] n r x := by
  unfold laws_lwHas_c1_ob at hob
  refine Ht.seq (c1 := (nav (bodyOf (Try.f50)) [1, 0, 0])) (c2 := (nav (bodyOf (Try.f50)) [1, 0, 1])) (by kernel_rfl) ?_
  refine Ht.reg G (keep := [0, 3, 5]) (e' := [(0, .v .sh (.lst .item x1)), (3, .box [(.fr, .int .i64 x2.Key), (.fr, .int .i64 x2.Val), (.fr, .int .i64 x2.Count)]), (5, .v .fr (.int .i64 0))]) (obs := []) (by kernel_rfl) hob.1 ?_
  refine Ht.block (id := 0) (c1 := (nav (bodyOf (Try.f50)) [1, 0, 1, 0])) (by kernel_rfl) ?_
  refine Ht.weak (e' := [(0, .v .sh (.lst .item x1)), (3, .box [(.fr, .int .i64 x2.Key), (.fr, .int .i64 x2.Val), (.fr, .int .i64 x2.Count)]), (5, .v .fr (.int .i64 0))]) (Weak.cast (pat := [(0, .same), (3, .same), (5, .same)]) (by kernel_rfl) (by kernel_rfl)) ?_
  refine laws_lwHas_c2_ok G x1 x2 hob.2.1 (fun q h14 e he => hr q (by simp only [laws_lwHas_c1, h14]) e he) (fun h15 e hw => ?_)
  · have hb := hob.2.2 h15
    exact hn (by simp only [laws_lwHas_c1, h15]) e (hw.trans (Weak.cast (pat := []) (by kernel_rfl) (by kernel_rfl)))

noncomputable def laws_lwHas_b (a0 : List Item) (a1 : Item) : Oc Empty Bool Empty Empty Empty :=
  match (laws_lwHas_c1 a0 a1) with
  | .n () =>
    .r false
  | .r q17 =>
    .r q17
  | .x q => q.elim
  | .y q => q.elim
  | .z q => q.elim
def laws_lwHas_b_ob (a0 : List Item) (a1 : Item) : Prop :=
  ((True)) ∧
  (laws_lwHas_c1_ob a0 a1) ∧
  ((laws_lwHas_c1 a0 a1) = .n () →
    ((True)) ∧
    True)
set_option maxRecDepth 100000 in
theorem laws_lwHas_b_ok (G : Good Try.prog tt sp_laws_lwHas) {fr : Fr} (a0 : List Item) (a1 : Item) (hob : laws_lwHas_b_ob a0 a1) {n r : Env → Prop} {x : Nat → Env → Prop}
    (hr : ∀ q, (laws_lwHas_b a0 a1) = .r q → ∀ e, retAv tt e [.tmp 4] (.one .fr .bool) = some (RT.av (.one .fr .bool) q) → r e) :
    Ht Try.prog ⟨(Try.f50).ntmps, none, []⟩ fr (nav (bodyOf (Try.f50)) []) [(0, .v .sh (.lst .item a0)), (1, .agg true [.int .i64 a1.Key, .int .i64 a1.Val, .int .i64 a1.Count])] n r x := by
  unfold laws_lwHas_b_ob at hob
  refine Ht.seq (c1 := (nav (bodyOf (Try.f50)) [0])) (c2 := (nav (bodyOf (Try.f50)) [1])) (by kernel_rfl) ?_
  refine Ht.reg G (keep := [0, 3]) (e' := [(0, .v .sh (.lst .item a0)), (3, .box [(.fr, .int .i64 a1.Key), (.fr, .int .i64 a1.Val), (.fr, .int .i64 a1.Count)])]) (obs := []) (by kernel_rfl) hob.1 ?_
  refine Ht.seq (c1 := (nav (bodyOf (Try.f50)) [1, 0])) (c2 := (nav (bodyOf (Try.f50)) [1, 1])) (by kernel_rfl) ?_
  refine Ht.weak (e' := [(0, .v .sh (.lst .item a0)), (3, .box [(.fr, .int .i64 a1.Key), (.fr, .int .i64 a1.Val), (.fr, .int .i64 a1.Count)])]) (Weak.cast (pat := [(0, .same), (3, .same)]) (by kernel_rfl) (by kernel_rfl)) ?_
  refine laws_lwHas_c1_ok G a0 a1 hob.2.1 (fun h16 e hw => ?_) (fun q h18 e he => hr q (by simp only [laws_lwHas_b, h18]) e he)
  · have hb := hob.2.2 h16
    refine Ht.weak hw ?_
    refine Ht.seq (c1 := (nav (bodyOf (Try.f50)) [1, 1, 0])) (c2 := (nav (bodyOf (Try.f50)) [1, 1, 1])) (by kernel_rfl) ?_
    refine Ht.reg G (keep := [4]) (e' := [(4, .v .fr (.bool false))]) (obs := []) (by kernel_rfl) hb.1 ?_
    refine Ht.ret (by kernel_rfl) ?_
    exact hr false (by simp only [laws_lwHas_b, h16]) _ (by kernel_rfl)

noncomputable def v_laws_lwHas (a0 : List Item) (a1 : Item) : Bool := ocR (laws_lwHas_b a0 a1)
def p_laws_lwHas (a0 : List Item) (a1 : Item) : Prop := laws_lwHas_b_ob a0 a1
noncomputable def s_laws_lwHas : Spec := ⟨[(.lst .item), (.st .item)], .one .fr .bool, false, fun x => (v_laws_lwHas x.1 x.2.1, 0), fun x => p_laws_lwHas x.1 x.2.1⟩
theorem con_laws_lwHas (G : Good Try.prog tt sp_laws_lwHas) : Con Try.prog 50 s_laws_lwHas :=
  con_of G.htt (fn := Try.f50) (c := bodyOf Try.f50) (by kernel_rfl) (by kernel_rfl) (by kernel_rfl) (rs := [.tmp 4]) (by kernel_rfl) (by kernel_rfl) (fun _ => rfl) fun x hp fr _ _ _ =>
    laws_lwHas_b_ok G (fr := fr) x.1 x.2.1 hp
      (fun q h e he => ⟨by rw [show (s_laws_lwHas.val x).1 = q from congrArg ocR h]; exact he, trivial⟩)

noncomputable def sp_laws_FnLoopSet : SP := [(48, s_spec_DrawLoopSet), (43, s_impl_LoopSet), (42, s_spec_LoopSet), (45, s_laws_lwItems), (46, s_spec_SetOk), (49, s_laws_lwPlus), (50, s_laws_lwHas), (31, s_impl_LoopStep)]
noncomputable def laws_FnLoopSet_c2_r (_x7 : List Item) (_x8 : List Item) (x9 : List Item) (x10 : List Item) (s14 : Int) : Oc (Int) Bool Unit Empty Empty :=
  match (cmp .lss s14 (lenI .item x9)) with
  | true =>
    match (!(v_laws_lwHas x10 (rd .item x9 s14))) with
    | true =>
      .r false
    | false =>
      .n (ar .add .i64 s14 1)
  | false =>
    .x ()
def laws_FnLoopSet_c2_r_ob (_x7 : List Item) (_x8 : List Item) (x9 : List Item) (x10 : List Item) (s14 : Int) : Prop :=
  ((True)) ∧
  ((cmp .lss s14 (lenI .item x9)) = true →
    ((inb s14 (lenI .item x9)) ∧ ((p_laws_lwHas x10 (rd .item x9 s14))) ∧ (True)) ∧
    ((!(v_laws_lwHas x10 (rd .item x9 s14))) = true →
      ((True)) ∧
      True) ∧ ((!(v_laws_lwHas x10 (rd .item x9 s14))) = false →
      ((True)) ∧
      True)) ∧ ((cmp .lss s14 (lenI .item x9)) = false →
    True)
set_option maxRecDepth 100000 in
theorem laws_FnLoopSet_c2_r_ok (G : Good Try.prog tt sp_laws_FnLoopSet) {fr : Fr} (x7 : List Item) (x8 : List Item) (x9 : List Item) (x10 : List Item) (s14 : Int) (hob : laws_FnLoopSet_c2_r_ob x7 x8 x9 x10 s14) {n r : Env → Prop} {x : Nat → Env → Prop}
    (hn : ∀ (q18 : Int), (laws_FnLoopSet_c2_r x7 x8 x9 x10 s14) = .n q18 → ∀ e, Weak e [(3, .v .sh (.lst .item x7)), (4, .v .sh (.lst .item x8)), (6, .v .fr (.lst .item x9)), (7, .v .fr (.lst .item x10)), (8, .v .fr (.int .i64 q18))] → n e)
    (hr : ∀ q, (laws_FnLoopSet_c2_r x7 x8 x9 x10 s14) = .r q → ∀ e, retAv tt e [.tmp 2] (.one .fr .bool) = some (RT.av (.one .fr .bool) q) → r e)
    (hx : (laws_FnLoopSet_c2_r x7 x8 x9 x10 s14) = .x () → ∀ e, Weak e [(3, .v .sh (.lst .item x7)), (4, .v .sh (.lst .item x8)), (6, .v .fr (.lst .item x9)), (7, .v .fr (.lst .item x10))] → x 0 e) :
    Ht Try.prog ⟨(Try.f10).ntmps, none, []⟩ fr (nav (bodyOf (Try.f10)) [1, 1, 1, 1, 1, 1, 0, 1, 0, 0]) [(3, .v .sh (.lst .item x7)), (4, .v .sh (.lst .item x8)), (6, .v .fr (.lst .item x9)), (7, .v .fr (.lst .item x10)), (8, .v .fr (.int .i64 s14))] n r x := by
  unfold laws_FnLoopSet_c2_r_ob at hob
  refine Ht.seq (c1 := (nav (bodyOf (Try.f10)) [1, 1, 1, 1, 1, 1, 0, 1, 0, 0, 0])) (c2 := (nav (bodyOf (Try.f10)) [1, 1, 1, 1, 1, 1, 0, 1, 0, 0, 1])) (by kernel_rfl) ?_
  refine Ht.seq (c1 := (nav (bodyOf (Try.f10)) [1, 1, 1, 1, 1, 1, 0, 1, 0, 0, 0, 0])) (c2 := (nav (bodyOf (Try.f10)) [1, 1, 1, 1, 1, 1, 0, 1, 0, 0, 0, 1])) (by kernel_rfl) ?_
  refine Ht.reg G (keep := [3, 4, 6, 7, 8, 71]) (e' := [(3, .v .sh (.lst .item x7)), (4, .v .sh (.lst .item x8)), (6, .v .fr (.lst .item x9)), (7, .v .fr (.lst .item x10)), (8, .v .fr (.int .i64 s14)), (71, .v .fr (.bool (cmp .lss s14 (lenI .item x9))))]) (obs := []) (by kernel_rfl) hob.1 ?_
  refine Ht.cond (o := .tmp 71) (c1 := (nav (bodyOf (Try.f10)) [1, 1, 1, 1, 1, 1, 0, 1, 0, 0, 0, 1, 0])) (c2 := (nav (bodyOf (Try.f10)) [1, 1, 1, 1, 1, 1, 0, 1, 0, 0, 0, 1, 1])) (b := (cmp .lss s14 (lenI .item x9))) (by kernel_rfl) (by kernel_rfl) (fun h15 => ?_) (fun h15 => ?_)
  · have hb := hob.2.1 h15
    refine Ht.skip (by kernel_rfl) ?_
    refine Ht.seq (c1 := (nav (bodyOf (Try.f10)) [1, 1, 1, 1, 1, 1, 0, 1, 0, 0, 1, 0])) (c2 := (nav (bodyOf (Try.f10)) [1, 1, 1, 1, 1, 1, 0, 1, 0, 0, 1, 1])) (by kernel_rfl) ?_
    refine Ht.block (id := 1) (c1 := (nav (bodyOf (Try.f10)) [1, 1, 1, 1, 1, 1, 0, 1, 0, 0, 1, 0, 0])) (by kernel_rfl) ?_
    refine Ht.seq (c1 := (nav (bodyOf (Try.f10)) [1, 1, 1, 1, 1, 1, 0, 1, 0, 0, 1, 0, 0, 0])) (c2 := (nav (bodyOf (Try.f10)) [1, 1, 1, 1, 1, 1, 0, 1, 0, 0, 1, 0, 0, 1])) (by kernel_rfl) ?_
    refine Ht.reg G (keep := [3, 4, 6, 7, 8, 80]) (e' := [(3, .v .sh (.lst .item x7)), (4, .v .sh (.lst .item x8)), (6, .v .fr (.lst .item x9)), (7, .v .fr (.lst .item x10)), (8, .v .fr (.int .i64 s14)), (80, .v .fr (.bool (!(v_laws_lwHas x10 (rd .item x9 s14)))))]) (obs := [inb s14 (lenI .item x9), (p_laws_lwHas x10 (rd .item x9 s14))]) (by kernel_rfl) hb.1 ?_
    refine Ht.cond (o := .tmp 80) (c1 := (nav (bodyOf (Try.f10)) [1, 1, 1, 1, 1, 1, 0, 1, 0, 0, 1, 0, 0, 1, 0])) (c2 := (nav (bodyOf (Try.f10)) [1, 1, 1, 1, 1, 1, 0, 1, 0, 0, 1, 0, 0, 1, 1])) (b := (!(v_laws_lwHas x10 (rd .item x9 s14)))) (by kernel_rfl) (by kernel_rfl) (fun h16 => ?_) (fun h16 => ?_)
    · have hb := hb.2.1 h16
      refine Ht.seq (c1 := (nav (bodyOf (Try.f10)) [1, 1, 1, 1, 1, 1, 0, 1, 0, 0, 1, 0, 0, 1, 0, 0])) (c2 := (nav (bodyOf (Try.f10)) [1, 1, 1, 1, 1, 1, 0, 1, 0, 0, 1, 0, 0, 1, 0, 1])) (by kernel_rfl) ?_
      refine Ht.reg G (keep := [2]) (e' := [(2, .v .fr (.bool false))]) (obs := []) (by kernel_rfl) hb.1 ?_
      refine Ht.ret (by kernel_rfl) ?_
      exact hr false (by simp only [laws_FnLoopSet_c2_r, h15, h16]) _ (by kernel_rfl)
    · have hb := hb.2.2 h16
      refine Ht.skip (by kernel_rfl) ?_
      refine Ht.reg G (keep := [3, 4, 6, 7, 8]) (e' := [(3, .v .sh (.lst .item x7)), (4, .v .sh (.lst .item x8)), (6, .v .fr (.lst .item x9)), (7, .v .fr (.lst .item x10)), (8, .v .fr (.int .i64 (ar .add .i64 s14 1)))]) (obs := []) (by kernel_rfl) hb.1 ?_
      exact hn (ar .add .i64 s14 1) (by simp only [laws_FnLoopSet_c2_r, h15, h16]) _ (Weak.cast (pat := [(3, .sh), (4, .sh), (6, .fr), (7, .fr), (8, .fr)]) (by kernel_rfl) (by kernel_rfl))
  · have hb := hob.2.2 h15
    refine Ht.exit (i := 0) (by kernel_rfl) ?_
    exact hx (by simp only [laws_FnLoopSet_c2_r, h15]) _ (Weak.cast (pat := [(3, .sh), (4, .sh), (6, .fr), (7, .fr)]) (by kernel_rfl) (by kernel_rfl))

noncomputable def laws_FnLoopSet_c2 (x7 : List Item) (x8 : List Item) (x9 : List Item) (x10 : List Item) : Oc Empty Bool Unit Empty Empty := lpV (fun s => ocLp ((fun (s : Int) => laws_FnLoopSet_c2_r x7 x8 x9 x10 s) s)) 0
def laws_FnLoopSet_c2_ob (x7 : List Item) (x8 : List Item) (x9 : List Item) (x10 : List Item) : Prop := LpT (fun s => ocLp ((fun (s : Int) => laws_FnLoopSet_c2_r x7 x8 x9 x10 s) s)) (fun s => laws_FnLoopSet_c2_r_ob x7 x8 x9 x10 s) 0
set_option maxRecDepth 100000 in
theorem laws_FnLoopSet_c2_ok (G : Good Try.prog tt sp_laws_FnLoopSet) {fr : Fr} (x7 : List Item) (x8 : List Item) (x9 : List Item) (x10 : List Item) (hob : laws_FnLoopSet_c2_ob x7 x8 x9 x10) {n r : Env → Prop} {x : Nat → Env → Prop}
    (hr : ∀ q, (laws_FnLoopSet_c2 x7 x8 x9 x10) = .r q → ∀ e, retAv tt e [.tmp 2] (.one .fr .bool) = some (RT.av (.one .fr .bool) q) → r e)
    (hx : (laws_FnLoopSet_c2 x7 x8 x9 x10) = .x () → ∀ e, Weak e [(3, .v .sh (.lst .item x7)), (4, .v .sh (.lst .item x8)), (6, .v .fr (.lst .item x9)), (7, .v .fr (.lst .item x10))] → x 0 e) :
    Ht Try.prog ⟨(Try.f10).ntmps, none, []⟩ fr (nav (bodyOf (Try.f10)) [1, 1, 1, 1, 1, 1, 0, 1, 0]) [(3, .v .sh (.lst .item x7)), (4, .v .sh (.lst .item x8)), (6, .v .fr (.lst .item x9)), (7, .v .fr (.lst .item x10)), (8, .v .fr (.int .i64 0))] n r x := by
  unfold laws_FnLoopSet_c2_ob at hob
  refine Ht.weak (e' := (fun (s : Int) => [(3, .v .sh (.lst .item x7)), (4, .v .sh (.lst .item x8)), (6, .v .fr (.lst .item x9)), (7, .v .fr (.lst .item x10)), (8, .v .fr (.int .i64 s))]) 0) (Weak.cast (pat := [(3, .sh), (4, .sh), (6, .fr), (7, .fr), (8, .fr)]) (by kernel_rfl) (by kernel_rfl)) ?_
  refine Ht.loopOc (c1 := (nav (bodyOf (Try.f10)) [1, 1, 1, 1, 1, 1, 0, 1, 0, 0])) (by kernel_rfl) (fun (s : Int) => [(3, .v .sh (.lst .item x7)), (4, .v .sh (.lst .item x8)), (6, .v .fr (.lst .item x9)), (7, .v .fr (.lst .item x10)), (8, .v .fr (.int .i64 s))]) (fun (s : Int) => laws_FnLoopSet_c2_r x7 x8 x9 x10 s) hob (RP := fun q e => retAv tt e [.tmp 2] (.one .fr .bool) = some (RT.av (.one .fr .bool) q)) (XP := (fun i _ e => i = 0 ∧ Weak e [(3, .v .sh (.lst .item x7)), (4, .v .sh (.lst .item x8)), (6, .v .fr (.lst .item x9)), (7, .v .fr (.lst .item x10))])) (YP := (fun _ _ _ => False)) (ZP := (fun _ _ _ => False)) (fun s hs => ?_) ?_ ?_ ?_ ?_
  · refine laws_FnLoopSet_c2_r_ok G x7 x8 x9 x10 s hs (fun q18 h e hw => ⟨q18, h, hw⟩) (fun q h e he => ⟨q, h, he⟩) (fun h e hw => .inl ⟨(), h, rfl, hw⟩)
  · exact fun q e h he => hr q h e he
  · rintro i q e h ⟨rfl, hw⟩
    exact hx h e hw
  · exact fun _ _ _ _ h => h.elim
  · exact fun _ _ _ _ h => h.elim


noncomputable def laws_FnLoopSet_c1 (x3 : List Item) (x4 : List Item) (x5 : List Item) (x6 : List Item) : Oc Unit Bool Empty Empty Empty :=
  match (laws_FnLoopSet_c2 x3 x4 x5 x6) with
  | .r q19 =>
    .r q19
  | .x () =>
    .n ()
  | .n q => q.elim
  | .y q => q.elim
  | .z q => q.elim
def laws_FnLoopSet_c1_ob (x3 : List Item) (x4 : List Item) (x5 : List Item) (x6 : List Item) : Prop :=
  ((True)) ∧
  (laws_FnLoopSet_c2_ob x3 x4 x5 x6) ∧
  ((laws_FnLoopSet_c2 x3 x4 x5 x6) = .x () →
    True)
set_option maxRecDepth 100000 in
theorem laws_FnLoopSet_c1_ok (G : Good Try.prog tt sp_laws_FnLoopSet) {fr : Fr} (x3 : List Item) (x4 : List Item) (x5 : List Item) (x6 : List Item) (hob : laws_FnLoopSet_c1_ob x3 x4 x5 x6) {n r : Env → Prop} {x : Nat → Env → Prop}
    (hn : (laws_FnLoopSet_c1 x3 x4 x5 x6) = .n () → ∀ e, Weak e [(3, .v .sh (.lst .item x3)), (4, .v .sh (.lst .item x4)), (6, .v .fr (.lst .item x5)), (7, .v .fr (.lst .item x6))] → n e)
    (hr : ∀ q, (laws_FnLoopSet_c1 x3 x4 x5 x6) = .r q → ∀ e, retAv tt e [.tmp 2] (.one .fr .bool) = some (RT.av (.one .fr .bool) q) → r e) :
    Ht Try.prog ⟨(Try.f10).ntmps, none, []⟩ fr (nav (bodyOf (Try.f10)) [1, 1, 1, 1, 1, 1, 0]) [(3, .v .sh (.lst .item x3)), (4, .v .sh (.lst .item x4)), (6, .v .fr (.lst .item x5)), (7, .v .fr (.lst .item x6))] n r x := by
  unfold laws_FnLoopSet_c1_ob at hob
  refine Ht.seq (c1 := (nav (bodyOf (Try.f10)) [1, 1, 1, 1, 1, 1, 0, 0])) (c2 := (nav (bodyOf (Try.f10)) [1, 1, 1, 1, 1, 1, 0, 1])) (by kernel_rfl) ?_
  refine Ht.reg G (keep := [3, 4, 6, 7, 8]) (e' := [(3, .v .sh (.lst .item x3)), (4, .v .sh (.lst .item x4)), (6, .v .fr (.lst .item x5)), (7, .v .fr (.lst .item x6)), (8, .v .fr (.int .i64 0))]) (obs := []) (by kernel_rfl) hob.1 ?_
  refine Ht.block (id := 0) (c1 := (nav (bodyOf (Try.f10)) [1, 1, 1, 1, 1, 1, 0, 1, 0])) (by kernel_rfl) ?_
  refine Ht.weak (e' := [(3, .v .sh (.lst .item x3)), (4, .v .sh (.lst .item x4)), (6, .v .fr (.lst .item x5)), (7, .v .fr (.lst .item x6)), (8, .v .fr (.int .i64 0))]) (Weak.cast (pat := [(3, .same), (4, .same), (6, .same), (7, .same), (8, .same)]) (by kernel_rfl) (by kernel_rfl)) ?_
  refine laws_FnLoopSet_c2_ok G x3 x4 x5 x6 hob.2.1 (fun q h20 e he => hr q (by simp only [laws_FnLoopSet_c1, h20]) e he) (fun h21 e hw => ?_)
  · have hb := hob.2.2 h21
    exact hn (by simp only [laws_FnLoopSet_c1, h21]) e (hw.trans (Weak.cast (pat := [(3, .sh), (4, .sh), (6, .fr), (7, .fr)]) (by kernel_rfl) (by kernel_rfl)))

noncomputable def laws_FnLoopSet_b (a0 : List Int) : Oc Empty Bool Empty Empty Empty :=
  match (cmp .gtr (lenI .byte a0) 1048576) with
  | true =>
    .r true
  | false =>
    match (cond (cond (cond (cond (cond (cond (!(v_laws_lwItems (v_impl_LoopSet (v_spec_DrawLoopSet a0).1 (v_spec_DrawLoopSet a0).2.1 (v_spec_DrawLoopSet a0).2.2.1) (v_spec_LoopSet (v_spec_DrawLoopSet a0).1 (v_spec_DrawLoopSet a0).2.1 (v_spec_DrawLoopSet a0).2.2.1))) true (!(v_spec_SetOk (v_spec_DrawLoopSet a0).1))) true (!(v_spec_SetOk (v_spec_DrawLoopSet a0).2.1))) true (cmp .lss (v_spec_DrawLoopSet a0).2.2.1 0)) true (cmp .geq (v_spec_DrawLoopSet a0).2.2.1 6)) true (!(v_laws_lwPlus (v_spec_DrawLoopSet a0).1))) true (!(v_laws_lwPlus (v_spec_DrawLoopSet a0).2.1))) with
    | true =>
      .r (v_laws_lwItems (v_impl_LoopSet (v_spec_DrawLoopSet a0).1 (v_spec_DrawLoopSet a0).2.1 (v_spec_DrawLoopSet a0).2.2.1) (v_spec_LoopSet (v_spec_DrawLoopSet a0).1 (v_spec_DrawLoopSet a0).2.1 (v_spec_DrawLoopSet a0).2.2.1))
    | false =>
      match (laws_FnLoopSet_c1 (v_spec_DrawLoopSet a0).1 (v_spec_DrawLoopSet a0).2.1 (v_impl_LoopSet (v_spec_DrawLoopSet a0).1 (v_spec_DrawLoopSet a0).2.1 (v_spec_DrawLoopSet a0).2.2.1) (v_impl_LoopSet (v_spec_DrawLoopSet a0).1 (v_spec_DrawLoopSet a0).2.1 (ar .add .i64 (v_spec_DrawLoopSet a0).2.2.1 1))) with
      | .n () =>
        .r (v_laws_lwItems (v_impl_LoopStep (v_spec_DrawLoopSet a0).1 (v_spec_DrawLoopSet a0).2.1 (v_impl_LoopSet (v_spec_DrawLoopSet a0).1 (v_spec_DrawLoopSet a0).2.1 (v_spec_DrawLoopSet a0).2.2.1)) (v_impl_LoopSet (v_spec_DrawLoopSet a0).1 (v_spec_DrawLoopSet a0).2.1 (ar .add .i64 (v_spec_DrawLoopSet a0).2.2.1 1)))
      | .r q23 =>
        .r q23
      | .x q => q.elim
      | .y q => q.elim
      | .z q => q.elim
def laws_FnLoopSet_b_ob (a0 : List Int) : Prop :=
  ((True)) ∧
  ((True)) ∧
  ((cmp .gtr (lenI .byte a0) 1048576) = true →
    ((True)) ∧
    True) ∧ ((cmp .gtr (lenI .byte a0) 1048576) = false →
    (((p_spec_DrawLoopSet a0)) ∧ (True)) ∧
    (((p_impl_LoopSet (v_spec_DrawLoopSet a0).1 (v_spec_DrawLoopSet a0).2.1 (v_spec_DrawLoopSet a0).2.2.1)) ∧ (True)) ∧
    (((p_spec_LoopSet (v_spec_DrawLoopSet a0).1 (v_spec_DrawLoopSet a0).2.1 (v_spec_DrawLoopSet a0).2.2.1)) ∧ ((p_laws_lwItems (v_impl_LoopSet (v_spec_DrawLoopSet a0).1 (v_spec_DrawLoopSet a0).2.1 (v_spec_DrawLoopSet a0).2.2.1) (v_spec_LoopSet (v_spec_DrawLoopSet a0).1 (v_spec_DrawLoopSet a0).2.1 (v_spec_DrawLoopSet a0).2.2.1))) ∧ ((((!(!(v_laws_lwItems (v_impl_LoopSet (v_spec_DrawLoopSet a0).1 (v_spec_DrawLoopSet a0).2.1 (v_spec_DrawLoopSet a0).2.2.1) (v_spec_LoopSet (v_spec_DrawLoopSet a0).1 (v_spec_DrawLoopSet a0).2.1 (v_spec_DrawLoopSet a0).2.2.1)))) && true) = true → (p_spec_SetOk (v_spec_DrawLoopSet a0).1))) ∧ ((((!(cond (!(v_laws_lwItems (v_impl_LoopSet (v_spec_DrawLoopSet a0).1 (v_spec_DrawLoopSet a0).2.1 (v_spec_DrawLoopSet a0).2.2.1) (v_spec_LoopSet (v_spec_DrawLoopSet a0).1 (v_spec_DrawLoopSet a0).2.1 (v_spec_DrawLoopSet a0).2.2.1))) true (!(v_spec_SetOk (v_spec_DrawLoopSet a0).1)))) && true) = true → (p_spec_SetOk (v_spec_DrawLoopSet a0).2.1))) ∧ ((((!(cond (cond (cond (cond (!(v_laws_lwItems (v_impl_LoopSet (v_spec_DrawLoopSet a0).1 (v_spec_DrawLoopSet a0).2.1 (v_spec_DrawLoopSet a0).2.2.1) (v_spec_LoopSet (v_spec_DrawLoopSet a0).1 (v_spec_DrawLoopSet a0).2.1 (v_spec_DrawLoopSet a0).2.2.1))) true (!(v_spec_SetOk (v_spec_DrawLoopSet a0).1))) true (!(v_spec_SetOk (v_spec_DrawLoopSet a0).2.1))) true (cmp .lss (v_spec_DrawLoopSet a0).2.2.1 0)) true (cmp .geq (v_spec_DrawLoopSet a0).2.2.1 6))) && true) = true → (p_laws_lwPlus (v_spec_DrawLoopSet a0).1))) ∧ ((((!(cond (cond (cond (cond (cond (!(v_laws_lwItems (v_impl_LoopSet (v_spec_DrawLoopSet a0).1 (v_spec_DrawLoopSet a0).2.1 (v_spec_DrawLoopSet a0).2.2.1) (v_spec_LoopSet (v_spec_DrawLoopSet a0).1 (v_spec_DrawLoopSet a0).2.1 (v_spec_DrawLoopSet a0).2.2.1))) true (!(v_spec_SetOk (v_spec_DrawLoopSet a0).1))) true (!(v_spec_SetOk (v_spec_DrawLoopSet a0).2.1))) true (cmp .lss (v_spec_DrawLoopSet a0).2.2.1 0)) true (cmp .geq (v_spec_DrawLoopSet a0).2.2.1 6)) true (!(v_laws_lwPlus (v_spec_DrawLoopSet a0).1)))) && true) = true → (p_laws_lwPlus (v_spec_DrawLoopSet a0).2.1))) ∧ (True)) ∧
    ((cond (cond (cond (cond (cond (cond (!(v_laws_lwItems (v_impl_LoopSet (v_spec_DrawLoopSet a0).1 (v_spec_DrawLoopSet a0).2.1 (v_spec_DrawLoopSet a0).2.2.1) (v_spec_LoopSet (v_spec_DrawLoopSet a0).1 (v_spec_DrawLoopSet a0).2.1 (v_spec_DrawLoopSet a0).2.2.1))) true (!(v_spec_SetOk (v_spec_DrawLoopSet a0).1))) true (!(v_spec_SetOk (v_spec_DrawLoopSet a0).2.1))) true (cmp .lss (v_spec_DrawLoopSet a0).2.2.1 0)) true (cmp .geq (v_spec_DrawLoopSet a0).2.2.1 6)) true (!(v_laws_lwPlus (v_spec_DrawLoopSet a0).1))) true (!(v_laws_lwPlus (v_spec_DrawLoopSet a0).2.1))) = true →
      (((p_spec_LoopSet (v_spec_DrawLoopSet a0).1 (v_spec_DrawLoopSet a0).2.1 (v_spec_DrawLoopSet a0).2.2.1)) ∧ ((p_laws_lwItems (v_impl_LoopSet (v_spec_DrawLoopSet a0).1 (v_spec_DrawLoopSet a0).2.1 (v_spec_DrawLoopSet a0).2.2.1) (v_spec_LoopSet (v_spec_DrawLoopSet a0).1 (v_spec_DrawLoopSet a0).2.1 (v_spec_DrawLoopSet a0).2.2.1))) ∧ (True)) ∧
      True) ∧ ((cond (cond (cond (cond (cond (cond (!(v_laws_lwItems (v_impl_LoopSet (v_spec_DrawLoopSet a0).1 (v_spec_DrawLoopSet a0).2.1 (v_spec_DrawLoopSet a0).2.2.1) (v_spec_LoopSet (v_spec_DrawLoopSet a0).1 (v_spec_DrawLoopSet a0).2.1 (v_spec_DrawLoopSet a0).2.2.1))) true (!(v_spec_SetOk (v_spec_DrawLoopSet a0).1))) true (!(v_spec_SetOk (v_spec_DrawLoopSet a0).2.1))) true (cmp .lss (v_spec_DrawLoopSet a0).2.2.1 0)) true (cmp .geq (v_spec_DrawLoopSet a0).2.2.1 6)) true (!(v_laws_lwPlus (v_spec_DrawLoopSet a0).1))) true (!(v_laws_lwPlus (v_spec_DrawLoopSet a0).2.1))) = false →
      (((p_impl_LoopSet (v_spec_DrawLoopSet a0).1 (v_spec_DrawLoopSet a0).2.1 (ar .add .i64 (v_spec_DrawLoopSet a0).2.2.1 1))) ∧ (True)) ∧
      (laws_FnLoopSet_c1_ob (v_spec_DrawLoopSet a0).1 (v_spec_DrawLoopSet a0).2.1 (v_impl_LoopSet (v_spec_DrawLoopSet a0).1 (v_spec_DrawLoopSet a0).2.1 (v_spec_DrawLoopSet a0).2.2.1) (v_impl_LoopSet (v_spec_DrawLoopSet a0).1 (v_spec_DrawLoopSet a0).2.1 (ar .add .i64 (v_spec_DrawLoopSet a0).2.2.1 1))) ∧
      ((laws_FnLoopSet_c1 (v_spec_DrawLoopSet a0).1 (v_spec_DrawLoopSet a0).2.1 (v_impl_LoopSet (v_spec_DrawLoopSet a0).1 (v_spec_DrawLoopSet a0).2.1 (v_spec_DrawLoopSet a0).2.2.1) (v_impl_LoopSet (v_spec_DrawLoopSet a0).1 (v_spec_DrawLoopSet a0).2.1 (ar .add .i64 (v_spec_DrawLoopSet a0).2.2.1 1))) = .n () →
        (((p_impl_LoopStep (v_spec_DrawLoopSet a0).1 (v_spec_DrawLoopSet a0).2.1 (v_impl_LoopSet (v_spec_DrawLoopSet a0).1 (v_spec_DrawLoopSet a0).2.1 (v_spec_DrawLoopSet a0).2.2.1))) ∧ ((p_laws_lwItems (v_impl_LoopStep (v_spec_DrawLoopSet a0).1 (v_spec_DrawLoopSet a0).2.1 (v_impl_LoopSet (v_spec_DrawLoopSet a0).1 (v_spec_DrawLoopSet a0).2.1 (v_spec_DrawLoopSet a0).2.2.1)) (v_impl_LoopSet (v_spec_DrawLoopSet a0).1 (v_spec_DrawLoopSet a0).2.1 (ar .add .i64 (v_spec_DrawLoopSet a0).2.2.1 1)))) ∧ (True)) ∧
        True)))
set_option maxRecDepth 100000 in
theorem laws_FnLoopSet_b_ok (G : Good Try.prog tt sp_laws_FnLoopSet) {fr : Fr} (a0 : List Int) (hob : laws_FnLoopSet_b_ob a0) {n r : Env → Prop} {x : Nat → Env → Prop}
    (hr : ∀ q, (laws_FnLoopSet_b a0) = .r q → ∀ e, retAv tt e [.tmp 2] (.one .fr .bool) = some (RT.av (.one .fr .bool) q) → r e) :
    Ht Try.prog ⟨(Try.f10).ntmps, none, []⟩ fr (nav (bodyOf (Try.f10)) []) [(0, .v .sh (.lst .byte a0))] n r x := by
  unfold laws_FnLoopSet_b_ob at hob
  refine Ht.seq (c1 := (nav (bodyOf (Try.f10)) [0])) (c2 := (nav (bodyOf (Try.f10)) [1])) (by kernel_rfl) ?_
  refine Ht.reg G (keep := [0]) (e' := [(0, .v .sh (.lst .byte a0))]) (obs := []) (by kernel_rfl) hob.1 ?_
  refine Ht.seq (c1 := (nav (bodyOf (Try.f10)) [1, 0])) (c2 := (nav (bodyOf (Try.f10)) [1, 1])) (by kernel_rfl) ?_
  refine Ht.seq (c1 := (nav (bodyOf (Try.f10)) [1, 0, 0])) (c2 := (nav (bodyOf (Try.f10)) [1, 0, 1])) (by kernel_rfl) ?_
  refine Ht.reg G (keep := [0, 11]) (e' := [(0, .v .sh (.lst .byte a0)), (11, .v .fr (.bool (cmp .gtr (lenI .byte a0) 1048576)))]) (obs := []) (by kernel_rfl) hob.2.1 ?_
  refine Ht.cond (o := .tmp 11) (c1 := (nav (bodyOf (Try.f10)) [1, 0, 1, 0])) (c2 := (nav (bodyOf (Try.f10)) [1, 0, 1, 1])) (b := (cmp .gtr (lenI .byte a0) 1048576)) (by kernel_rfl) (by kernel_rfl) (fun h1 => ?_) (fun h1 => ?_)
  · have hb := hob.2.2.1 h1
    refine Ht.seq (c1 := (nav (bodyOf (Try.f10)) [1, 0, 1, 0, 0])) (c2 := (nav (bodyOf (Try.f10)) [1, 0, 1, 0, 1])) (by kernel_rfl) ?_
    refine Ht.reg G (keep := [2]) (e' := [(2, .v .fr (.bool true))]) (obs := []) (by kernel_rfl) hb.1 ?_
    refine Ht.ret (by kernel_rfl) ?_
    exact hr true (by simp only [laws_FnLoopSet_b, h1]) _ (by kernel_rfl)
  · have hb := hob.2.2.2 h1
    refine Ht.skip (by kernel_rfl) ?_
    refine Ht.seq (c1 := (nav (bodyOf (Try.f10)) [1, 1, 0])) (c2 := (nav (bodyOf (Try.f10)) [1, 1, 1])) (by kernel_rfl) ?_
    refine Ht.reg G (keep := [3, 4, 5]) (e' := [(3, .v .sh (.lst .item (v_spec_DrawLoopSet a0).1)), (4, .v .sh (.lst .item (v_spec_DrawLoopSet a0).2.1)), (5, .v .fr (.int .i64 (v_spec_DrawLoopSet a0).2.2.1))]) (obs := [(p_spec_DrawLoopSet a0)]) (by kernel_rfl) hb.1 ?_
    refine Ht.seq (c1 := (nav (bodyOf (Try.f10)) [1, 1, 1, 0])) (c2 := (nav (bodyOf (Try.f10)) [1, 1, 1, 1])) (by kernel_rfl) ?_
    refine Ht.reg G (keep := [3, 4, 5, 6]) (e' := [(3, .v .sh (.lst .item (v_spec_DrawLoopSet a0).1)), (4, .v .sh (.lst .item (v_spec_DrawLoopSet a0).2.1)), (5, .v .fr (.int .i64 (v_spec_DrawLoopSet a0).2.2.1)), (6, .v .fr (.lst .item (v_impl_LoopSet (v_spec_DrawLoopSet a0).1 (v_spec_DrawLoopSet a0).2.1 (v_spec_DrawLoopSet a0).2.2.1)))]) (obs := [(p_impl_LoopSet (v_spec_DrawLoopSet a0).1 (v_spec_DrawLoopSet a0).2.1 (v_spec_DrawLoopSet a0).2.2.1)]) (by kernel_rfl) hb.2.1 ?_
    refine Ht.seq (c1 := (nav (bodyOf (Try.f10)) [1, 1, 1, 1, 0])) (c2 := (nav (bodyOf (Try.f10)) [1, 1, 1, 1, 1])) (by kernel_rfl) ?_
    refine Ht.seq (c1 := (nav (bodyOf (Try.f10)) [1, 1, 1, 1, 0, 0])) (c2 := (nav (bodyOf (Try.f10)) [1, 1, 1, 1, 0, 1])) (by kernel_rfl) ?_
    refine Ht.reg G (keep := [3, 4, 5, 6, 56]) (e' := [(3, .v .sh (.lst .item (v_spec_DrawLoopSet a0).1)), (4, .v .sh (.lst .item (v_spec_DrawLoopSet a0).2.1)), (5, .v .fr (.int .i64 (v_spec_DrawLoopSet a0).2.2.1)), (6, .v .fr (.lst .item (v_impl_LoopSet (v_spec_DrawLoopSet a0).1 (v_spec_DrawLoopSet a0).2.1 (v_spec_DrawLoopSet a0).2.2.1))), (56, .v .fr (.bool (cond (cond (cond (cond (cond (cond (!(v_laws_lwItems (v_impl_LoopSet (v_spec_DrawLoopSet a0).1 (v_spec_DrawLoopSet a0).2.1 (v_spec_DrawLoopSet a0).2.2.1) (v_spec_LoopSet (v_spec_DrawLoopSet a0).1 (v_spec_DrawLoopSet a0).2.1 (v_spec_DrawLoopSet a0).2.2.1))) true (!(v_spec_SetOk (v_spec_DrawLoopSet a0).1))) true (!(v_spec_SetOk (v_spec_DrawLoopSet a0).2.1))) true (cmp .lss (v_spec_DrawLoopSet a0).2.2.1 0)) true (cmp .geq (v_spec_DrawLoopSet a0).2.2.1 6)) true (!(v_laws_lwPlus (v_spec_DrawLoopSet a0).1))) true (!(v_laws_lwPlus (v_spec_DrawLoopSet a0).2.1)))))]) (obs := [(p_spec_LoopSet (v_spec_DrawLoopSet a0).1 (v_spec_DrawLoopSet a0).2.1 (v_spec_DrawLoopSet a0).2.2.1), (p_laws_lwItems (v_impl_LoopSet (v_spec_DrawLoopSet a0).1 (v_spec_DrawLoopSet a0).2.1 (v_spec_DrawLoopSet a0).2.2.1) (v_spec_LoopSet (v_spec_DrawLoopSet a0).1 (v_spec_DrawLoopSet a0).2.1 (v_spec_DrawLoopSet a0).2.2.1)), (((!(!(v_laws_lwItems (v_impl_LoopSet (v_spec_DrawLoopSet a0).1 (v_spec_DrawLoopSet a0).2.1 (v_spec_DrawLoopSet a0).2.2.1) (v_spec_LoopSet (v_spec_DrawLoopSet a0).1 (v_spec_DrawLoopSet a0).2.1 (v_spec_DrawLoopSet a0).2.2.1)))) && true) = true → (p_spec_SetOk (v_spec_DrawLoopSet a0).1)), (((!(cond (!(v_laws_lwItems (v_impl_LoopSet (v_spec_DrawLoopSet a0).1 (v_spec_DrawLoopSet a0).2.1 (v_spec_DrawLoopSet a0).2.2.1) (v_spec_LoopSet (v_spec_DrawLoopSet a0).1 (v_spec_DrawLoopSet a0).2.1 (v_spec_DrawLoopSet a0).2.2.1))) true (!(v_spec_SetOk (v_spec_DrawLoopSet a0).1)))) && true) = true → (p_spec_SetOk (v_spec_DrawLoopSet a0).2.1)), (((!(cond (cond (cond (cond (!(v_laws_lwItems (v_impl_LoopSet (v_spec_DrawLoopSet a0).1 (v_spec_DrawLoopSet a0).2.1 (v_spec_DrawLoopSet a0).2.2.1) (v_spec_LoopSet (v_spec_DrawLoopSet a0).1 (v_spec_DrawLoopSet a0).2.1 (v_spec_DrawLoopSet a0).2.2.1))) true (!(v_spec_SetOk (v_spec_DrawLoopSet a0).1))) true (!(v_spec_SetOk (v_spec_DrawLoopSet a0).2.1))) true (cmp .lss (v_spec_DrawLoopSet a0).2.2.1 0)) true (cmp .geq (v_spec_DrawLoopSet a0).2.2.1 6))) && true) = true → (p_laws_lwPlus (v_spec_DrawLoopSet a0).1)), (((!(cond (cond (cond (cond (cond (!(v_laws_lwItems (v_impl_LoopSet (v_spec_DrawLoopSet a0).1 (v_spec_DrawLoopSet a0).2.1 (v_spec_DrawLoopSet a0).2.2.1) (v_spec_LoopSet (v_spec_DrawLoopSet a0).1 (v_spec_DrawLoopSet a0).2.1 (v_spec_DrawLoopSet a0).2.2.1))) true (!(v_spec_SetOk (v_spec_DrawLoopSet a0).1))) true (!(v_spec_SetOk (v_spec_DrawLoopSet a0).2.1))) true (cmp .lss (v_spec_DrawLoopSet a0).2.2.1 0)) true (cmp .geq (v_spec_DrawLoopSet a0).2.2.1 6)) true (!(v_laws_lwPlus (v_spec_DrawLoopSet a0).1)))) && true) = true → (p_laws_lwPlus (v_spec_DrawLoopSet a0).2.1))]) (by kernel_rfl) hb.2.2.1 ?_
    refine Ht.cond (o := .tmp 56) (c1 := (nav (bodyOf (Try.f10)) [1, 1, 1, 1, 0, 1, 0])) (c2 := (nav (bodyOf (Try.f10)) [1, 1, 1, 1, 0, 1, 1])) (b := (cond (cond (cond (cond (cond (cond (!(v_laws_lwItems (v_impl_LoopSet (v_spec_DrawLoopSet a0).1 (v_spec_DrawLoopSet a0).2.1 (v_spec_DrawLoopSet a0).2.2.1) (v_spec_LoopSet (v_spec_DrawLoopSet a0).1 (v_spec_DrawLoopSet a0).2.1 (v_spec_DrawLoopSet a0).2.2.1))) true (!(v_spec_SetOk (v_spec_DrawLoopSet a0).1))) true (!(v_spec_SetOk (v_spec_DrawLoopSet a0).2.1))) true (cmp .lss (v_spec_DrawLoopSet a0).2.2.1 0)) true (cmp .geq (v_spec_DrawLoopSet a0).2.2.1 6)) true (!(v_laws_lwPlus (v_spec_DrawLoopSet a0).1))) true (!(v_laws_lwPlus (v_spec_DrawLoopSet a0).2.1)))) (by kernel_rfl) (by kernel_rfl) (fun h2 => ?_) (fun h2 => ?_)
    · have hb := hb.2.2.2.1 h2
      refine Ht.seq (c1 := (nav (bodyOf (Try.f10)) [1, 1, 1, 1, 0, 1, 0, 0])) (c2 := (nav (bodyOf (Try.f10)) [1, 1, 1, 1, 0, 1, 0, 1])) (by kernel_rfl) ?_
      refine Ht.reg G (keep := [2]) (e' := [(2, .v .fr (.bool (v_laws_lwItems (v_impl_LoopSet (v_spec_DrawLoopSet a0).1 (v_spec_DrawLoopSet a0).2.1 (v_spec_DrawLoopSet a0).2.2.1) (v_spec_LoopSet (v_spec_DrawLoopSet a0).1 (v_spec_DrawLoopSet a0).2.1 (v_spec_DrawLoopSet a0).2.2.1))))]) (obs := [(p_spec_LoopSet (v_spec_DrawLoopSet a0).1 (v_spec_DrawLoopSet a0).2.1 (v_spec_DrawLoopSet a0).2.2.1), (p_laws_lwItems (v_impl_LoopSet (v_spec_DrawLoopSet a0).1 (v_spec_DrawLoopSet a0).2.1 (v_spec_DrawLoopSet a0).2.2.1) (v_spec_LoopSet (v_spec_DrawLoopSet a0).1 (v_spec_DrawLoopSet a0).2.1 (v_spec_DrawLoopSet a0).2.2.1))]) (by kernel_rfl) hb.1 ?_
      refine Ht.ret (by kernel_rfl) ?_
      exact hr (v_laws_lwItems (v_impl_LoopSet (v_spec_DrawLoopSet a0).1 (v_spec_DrawLoopSet a0).2.1 (v_spec_DrawLoopSet a0).2.2.1) (v_spec_LoopSet (v_spec_DrawLoopSet a0).1 (v_spec_DrawLoopSet a0).2.1 (v_spec_DrawLoopSet a0).2.2.1)) (by simp only [laws_FnLoopSet_b, h1, h2]) _ (by kernel_rfl)
    · have hb := hb.2.2.2.2 h2
      refine Ht.skip (by kernel_rfl) ?_
      refine Ht.seq (c1 := (nav (bodyOf (Try.f10)) [1, 1, 1, 1, 1, 0])) (c2 := (nav (bodyOf (Try.f10)) [1, 1, 1, 1, 1, 1])) (by kernel_rfl) ?_
      refine Ht.reg G (keep := [3, 4, 6, 7]) (e' := [(3, .v .sh (.lst .item (v_spec_DrawLoopSet a0).1)), (4, .v .sh (.lst .item (v_spec_DrawLoopSet a0).2.1)), (6, .v .fr (.lst .item (v_impl_LoopSet (v_spec_DrawLoopSet a0).1 (v_spec_DrawLoopSet a0).2.1 (v_spec_DrawLoopSet a0).2.2.1))), (7, .v .fr (.lst .item (v_impl_LoopSet (v_spec_DrawLoopSet a0).1 (v_spec_DrawLoopSet a0).2.1 (ar .add .i64 (v_spec_DrawLoopSet a0).2.2.1 1))))]) (obs := [(p_impl_LoopSet (v_spec_DrawLoopSet a0).1 (v_spec_DrawLoopSet a0).2.1 (ar .add .i64 (v_spec_DrawLoopSet a0).2.2.1 1))]) (by kernel_rfl) hb.1 ?_
      refine Ht.seq (c1 := (nav (bodyOf (Try.f10)) [1, 1, 1, 1, 1, 1, 0])) (c2 := (nav (bodyOf (Try.f10)) [1, 1, 1, 1, 1, 1, 1])) (by kernel_rfl) ?_
      refine Ht.weak (e' := [(3, .v .sh (.lst .item (v_spec_DrawLoopSet a0).1)), (4, .v .sh (.lst .item (v_spec_DrawLoopSet a0).2.1)), (6, .v .fr (.lst .item (v_impl_LoopSet (v_spec_DrawLoopSet a0).1 (v_spec_DrawLoopSet a0).2.1 (v_spec_DrawLoopSet a0).2.2.1))), (7, .v .fr (.lst .item (v_impl_LoopSet (v_spec_DrawLoopSet a0).1 (v_spec_DrawLoopSet a0).2.1 (ar .add .i64 (v_spec_DrawLoopSet a0).2.2.1 1))))]) (Weak.cast (pat := [(3, .same), (4, .same), (6, .same), (7, .same)]) (by kernel_rfl) (by kernel_rfl)) ?_
      refine laws_FnLoopSet_c1_ok G (v_spec_DrawLoopSet a0).1 (v_spec_DrawLoopSet a0).2.1 (v_impl_LoopSet (v_spec_DrawLoopSet a0).1 (v_spec_DrawLoopSet a0).2.1 (v_spec_DrawLoopSet a0).2.2.1) (v_impl_LoopSet (v_spec_DrawLoopSet a0).1 (v_spec_DrawLoopSet a0).2.1 (ar .add .i64 (v_spec_DrawLoopSet a0).2.2.1 1)) hb.2.1 (fun h22 e hw => ?_) (fun q h24 e he => hr q (by simp only [laws_FnLoopSet_b, h1, h2, h24]) e he)
      · have hb := hb.2.2 h22
        refine Ht.weak hw ?_
        refine Ht.seq (c1 := (nav (bodyOf (Try.f10)) [1, 1, 1, 1, 1, 1, 1, 0])) (c2 := (nav (bodyOf (Try.f10)) [1, 1, 1, 1, 1, 1, 1, 1])) (by kernel_rfl) ?_
        refine Ht.reg G (keep := [2]) (e' := [(2, .v .fr (.bool (v_laws_lwItems (v_impl_LoopStep (v_spec_DrawLoopSet a0).1 (v_spec_DrawLoopSet a0).2.1 (v_impl_LoopSet (v_spec_DrawLoopSet a0).1 (v_spec_DrawLoopSet a0).2.1 (v_spec_DrawLoopSet a0).2.2.1)) (v_impl_LoopSet (v_spec_DrawLoopSet a0).1 (v_spec_DrawLoopSet a0).2.1 (ar .add .i64 (v_spec_DrawLoopSet a0).2.2.1 1)))))]) (obs := [(p_impl_LoopStep (v_spec_DrawLoopSet a0).1 (v_spec_DrawLoopSet a0).2.1 (v_impl_LoopSet (v_spec_DrawLoopSet a0).1 (v_spec_DrawLoopSet a0).2.1 (v_spec_DrawLoopSet a0).2.2.1)), (p_laws_lwItems (v_impl_LoopStep (v_spec_DrawLoopSet a0).1 (v_spec_DrawLoopSet a0).2.1 (v_impl_LoopSet (v_spec_DrawLoopSet a0).1 (v_spec_DrawLoopSet a0).2.1 (v_spec_DrawLoopSet a0).2.2.1)) (v_impl_LoopSet (v_spec_DrawLoopSet a0).1 (v_spec_DrawLoopSet a0).2.1 (ar .add .i64 (v_spec_DrawLoopSet a0).2.2.1 1)))]) (by kernel_rfl) hb.1 ?_
        refine Ht.ret (by kernel_rfl) ?_
        exact hr (v_laws_lwItems (v_impl_LoopStep (v_spec_DrawLoopSet a0).1 (v_spec_DrawLoopSet a0).2.1 (v_impl_LoopSet (v_spec_DrawLoopSet a0).1 (v_spec_DrawLoopSet a0).2.1 (v_spec_DrawLoopSet a0).2.2.1)) (v_impl_LoopSet (v_spec_DrawLoopSet a0).1 (v_spec_DrawLoopSet a0).2.1 (ar .add .i64 (v_spec_DrawLoopSet a0).2.2.1 1))) (by simp only [laws_FnLoopSet_b, h1, h2, h22]) _ (by kernel_rfl)

noncomputable def v_laws_FnLoopSet (a0 : List Int) : Bool := ocR (laws_FnLoopSet_b a0)
def p_laws_FnLoopSet (a0 : List Int) : Prop := laws_FnLoopSet_b_ob a0
noncomputable def s_laws_FnLoopSet : Spec := ⟨[(.lst .byte)], .one .fr .bool, false, fun x => (v_laws_FnLoopSet x.1, 0), fun x => p_laws_FnLoopSet x.1⟩
theorem con_laws_FnLoopSet (G : Good Try.prog tt sp_laws_FnLoopSet) : Con Try.prog 10 s_laws_FnLoopSet :=
  con_of G.htt (fn := Try.f10) (c := bodyOf Try.f10) (by kernel_rfl) (by kernel_rfl) (by kernel_rfl) (rs := [.tmp 2]) (by kernel_rfl) (by kernel_rfl) (fun _ => rfl) fun x hp fr _ _ _ =>
    laws_FnLoopSet_b_ok G (fr := fr) x.1 hp
      (fun q h e he => ⟨by rw [show (s_laws_FnLoopSet.val x).1 = q from congrArg ocR h]; exact he, trivial⟩)

end Go.Proofs.Ytopcofkpggefkaa

namespace Go.Proofs.Ytopcofkpggefkaa
open Go Go.ChangeShapes Go.WideShapes Go.ChangeAt Go.RowKit

theorem Good.nil {P : Program} {tt : TT} (h : TTok P tt) (hm : P.follows .mixedOrders = true) : Good P tt [] := ⟨h, (fun f s h => by cases h), hm⟩
theorem Good.cons {P : Program} {tt : TT} {n : Nat} {d : Spec} {r : SP} (h : Con P n d) (G : Good P tt r) : Good P tt ((n, d) :: r) :=
  ⟨G.htt, fun f s hs => by
    simp only [spk] at hs
    cases hb : Nat.beq n f with
    | true =>
      rw [hb] at hs
      cases hs
      rw [← Nat.eq_of_beq_eq_true hb]; exact h
    | false => rw [hb] at hs; exact G.hsp f s hs, G.hm⟩

/-- A slice that is well formed lies at a whole cell. -/
theorem slice_spot {P : Program} {W : World} {r : Reach} {base : Nat} {t e : TypeId} {a : Addr} {len cap : Nat} (ht : P.underlying t = some (.slice e)) (h : Value.okWide P W r base t (.slice (some a) len cap)) : a.spot = none := by
  simp only [Value.okWide, ht, Cell.okWide, Cell.ok] at h
  exact h.2.2.2.1

theorem law_lifted {C : Checked} {os : Os} {H : Type} {enc : TypeId × Value → H} {f : FuncId} {fn : Func} {s : ChangeSpec} {conds : List PathCond} (own : ownKnob C.prog.godebug = none) (started : os.Started) (noInit : C.prog.inits.idxOf? f = none) (hfn : C.prog.funcs[f]? = some fn)
    (witness : ∃ (w : World) (tape : Tape) (i : Input), w.os = os ∧ (w.forCall tape i).Shaped C.prog ∧ i.vars = [] ∧ Input.okWide C.prog (w.forCall tape i) .any w.heap.size f i ∧
      s.pre6 enc C.prog fn conds false (w.forCall tape i).memory i.args ∧ ({} : Assume).holds C.prog (lone (Frame.enter C.prog f i.args .normal) [] (w.forCall tape i)))
    {t e r : TypeId} (hp : fn.params = #[t]) (hr : fn.resultTypes = #[r]) (ht : C.prog.underlying t = some (.slice e)) (he : C.prog.underlying e = some (.int .u8)) (hce : C.prog.cellsOf e = 1) (hrb : C.prog.underlying r = some .bool)
    (hs : ∀ d, s.fn H [d] = { results := [.lit (.bool true)], args := [d] }) (hv : s.vars = [])
    {v : List Int → Bool} {p : List Int → Prop} (hcon : Con C.prog f ⟨[.lst .byte], .one .fr .bool, false, fun x => (v x.1, 0), fun x => p x.1⟩) (h : ∀ c : List Int, (∀ x ∈ c, 0 ≤ x ∧ x ≤ 255) → p c ∧ v c = true) :
    ReturnsInHanded {} C os f .any (s.pre6 enc C.prog fn conds false) (s.post enc C.prog fn false true false false) := by
  refine returnsInHanded_of_change_sized (C := C) own started noInit hfn witness ?_
  intro W base args ds gs before hval0 hW _ _ _
  have hval : ∀ (j : Nat) t v, fn.params[j]? = some t → args[j]? = some v → Value.okWide C.prog W .any base t v := hval0
  have hW' := hW
  obtain ⟨q1, q2, hA0, hV, rfl, hfz, _⟩ := hW
  have hA : DataW.TrodAll enc C.prog W 0 (fun _ => true) true fn.params.toList args.toList ds q1 := hA0
  rw [hp] at hA hval
  obtain ⟨v0, d0, rfl, rfl, h0⟩ := trodAll_one hA
  rw [hv] at hV
  obtain ⟨rfl, rfl⟩ := trodVars_none hV
  obtain ⟨a0, len, cap, rfl⟩ := okWide_slice ht (hval 0 t v0 rfl rfl)
  have hok := hval 0 t _ rfl rfl
  obtain ⟨fuel, hf⟩ := h0
  clear hA0 hval0 hA
  simp only [List.append_nil] at hW' hfz
  have fin : ∀ (c : List Int) (F : Fz), (∀ x ∈ c, 0 ≤ x ∧ x ≤ 255) → Live F W → RC F 0 W (.lst .byte c) (.slice a0 len cap) →
      (∀ W' : World, Below W.heap.size W W' → DataW.TrodAll enc C.prog W' 0 (fun x => decide (x < W.heap.size)) true [t] [.slice a0 len cap] [d0] q1) →
      Calls C.prog f #[.slice a0 len cap] W fun e W' => ∃ v, e = .returned v ∧ s.post enc C.prog fn false true false false W #[.slice a0 len cap] v W' := by
    intro c F hc hl hrc hsh
    obtain ⟨h1, h2⟩ := h c hc
    refine (hcon.call (c, ()) h1 W F [.slice a0 len cap] none hl ⟨_, [], rfl, hrc, rfl, rfl⟩).mono fun e W' he => ?_
    obtain ⟨v1, F', ow, rfl, hleft, _, _, hvr, _⟩ := he
    have hvr : RC F' W.heap.size W' (.bool (v c)) v1 := hvr
    rw [h2] at hvr
    have hv1 : v1 = .bool true := by cases hvr; rfl
    subst hv1
    have hbel : Below W.heap.size W W' := ⟨hleft.os, hleft.tape, hleft.output, hleft.size, fun k hk => hleft.block k hk (by simp)⟩
    refine ⟨_, rfl, [d0], [], q1, [], q1, [], hW', ?_, ?_, ?_, hbel.frame _, fun h => by cases h⟩
    · rw [hr]
      show DataW.TrodAll enc C.prog W' _ _ _ [r] [.bool true] (s.fn H ([d0] ++ [])).results []
      rw [List.append_nil, hs]
      exact trodAll_mk1 (shut_bool hrb true)
    · rw [hp]
      show DataW.TrodAll enc C.prog W' _ _ _ [t] [.slice a0 len cap] (s.fn H ([d0] ++ [])).args q1
      rw [List.append_nil, hs]
      exact hsh W' hbel
    · rw [hv, List.append_nil, hs]
      exact rfl
  rcases open_ints ht he hce hf with ⟨hcs, hx⟩ | ⟨a, len', cap', zs, hcs, _, hl, hm, hz, hx, hcell, hwz⟩
  · simp [Value.cells] at hcs
    obtain ⟨rfl, rfl, rfl⟩ := hcs
    simp only [Prod.mk.injEq] at hx
    obtain ⟨rfl, rfl⟩ := hx
    exact fin [] (fun _ _ => False) (fun x hx => by simp at hx) (fun _ _ h => h.elim) (.nil _) (fun W' _ => trodAll_mk1 (shut_slice_nil ht))
  simp [Value.cells] at hcs
  obtain ⟨rfl, rfl, rfl⟩ := hcs
  simp only [Prod.mk.injEq] at hx
  obtain ⟨rfl, rfl⟩ := hx
  simp only [if_true] at hz
  have hspot := slice_spot ht hok
  obtain ⟨b, off, spot⟩ := a
  have hspot : spot = none := hspot
  subst hspot
  have hcell' : ∀ j, j < zs.length → W.cell? ⟨b, off + j, none⟩ = some (.int .u8 (zs.getD j 0)) := fun j hj => by rw [← add_plain]; exact hcell j hj
  have hwf : ∀ x ∈ zs, 0 ≤ x ∧ x ≤ 255 := fun x hx => by
    have := hwz x hx
    simpa [Lit.wf, IntKind.min, IntKind.max, IntKind.signed, IntKind.bits] using this
  have htl : (zs.take len).length = len := by rw [List.length_take]; omega
  refine fin (zs.take len) (fun b' o => b' = b ∧ off ≤ o ∧ o < off + len) (fun x hx => hwf x (List.mem_of_mem_take hx)) ?_ ?_ ?_
  · rintro b' o ⟨rfl, h1, h2⟩
    have := hcell' (o - off) (by omega)
    rw [show off + (o - off) = o by omega] at this
    rw [this]; rfl
  · have hrc := RC.lst (F := fun b' o => b' = b ∧ off ≤ o ∧ o < off + len) (lo := 0) (w := W) .byte (zs.take len) b off cap (fun i _ => .int .u8 (zs.getD i 0)) (Nat.zero_le _) (by rw [htl]; exact hl)
      (fun i j hi hj => ?_) (fun i j hi hj => ?_) (fun i j x c hx hc => ?_)
    · rw [htl] at hrc; exact hrc
    · have hi : i < (zs.take len).length := hi
      rw [htl] at hi
      have hj : j < 1 := hj
      exact ⟨rfl, by omega, by show off + (i * 1 + j) < off + len; omega⟩
    · have hi : i < (zs.take len).length := hi
      rw [htl] at hi
      have hj : j < 1 := hj
      have : j = 0 := by omega
      subst this
      show W.cell? ⟨b, off + (i * 1 + 0), none⟩ = _
      rw [show off + (i * 1 + 0) = off + i by omega]
      exact hcell' i (by omega)
    · match j, hc with
      | 0, hc =>
        simp [cells] at hc
        subst hc
        have hx : (zs.take len)[i]? = some x := hx
        have hi : i < len := by
          have := (List.getElem?_eq_some_iff.1 hx).1
          omega
        rw [List.getElem?_take, if_pos hi] at hx
        show RC _ _ _ (.int .u8 x) (.int .u8 (zs.getD i 0))
        rw [List.getD_eq_getElem?_getD, hx]
        exact .int _ _
      | j + 1, hc => simp [cells] at hc
  · intro W' hbel
    have targ := shut_ints' (enc := enc) (P := C.prog) (w := W') (base := 0) (spare := fun x => decide (x < W.heap.size)) (held := true) (b := b) (off := off) (len := len) (cap := cap) (zs := zs) 0
      ht he hce (Nat.zero_le _) hl hm ?_ (fun i hi => ?_) hwz
    · exact trodAll_mk1 ⟨2, targ⟩
    · by_cases h0 : zs.length = 0
      · have h1 : len = 0 := by omega
        have h2 : cap = 0 := by omega
        rw [h0, h1, h2]; simp
      · have hb : b < W.heap.size := World.block_lt_of_cell? _ _ (hcell' 0 (by omega))
        simp [hb, hz]
    · have hb : b < W.heap.size := World.block_lt_of_cell? _ _ (hcell' i hi)
      rw [World.cell?_of_block (w := W) (hbel.block b hb)]
      exact hcell' i hi
/-- The closed facts of a row, one by one. -/
theorem joined_of {P : Program} {f : FuncId} {fn : Func} {s : ChangeSpec} {c : OpenClaim}
    (h1 : (c.wf (OpenSpec.ofChange s)) = true)
    (h2 : (laidOutB P) = true)
    (h3 : (mapsRowed P) = true)
    (h4 : (fn.params.all (P.readableRec ·)) = true)
    (h5 : (namedTie P c.named s.vars) = true)
    (h6 : ((c.stops == [])) = true)
    (h7 : ((P.stops == [])) = true)
    (h8 : ((c.knobs == [])) = true)
    (h9 : ((P.stopKnobs == [])) = true)
    (h10 : ((c.inPlace == P.inPlace f)) = true)
    (h11 : ((c.unfollowed == P.unfollowed f)) = true)
    (h12 : ((c.recurses == P.recurses f)) = true)
    (h13 : ((c.named == P.varsNamed f)) = true)
    (h14 : ((c.maps == (fn.params.toList ++ s.plain.varTypes P).any (P.mapsRec ·))) = true)
    (h15 : ((c.ifaces == (fn.params.toList ++ s.plain.varTypes P).any (P.ifacesRec ·))) = true)
    (h16 : ((c.mapsOut == P.mapsAmong fn.resultTypes.toList)) = true)
    (h17 : ((c.loops == (fn.params.toList ++ s.plain.varTypes P).any (P.loopsFrom ·))) = true)
    (h18 : ((c.wideKeys == (fn.params.toList ++ s.plain.varTypes P ++ fn.resultTypes.toList).any (P.wideKeysFrom ·))) = true)
    (h19 : (s.vars.all (P.varReadable ·)) = true)
    (h20 : (fn.resultTypes.all (fun t => P.readableRec t && decide (t < P.types.size))) = true)
    (h21 : ((c.ifacesOut == fn.resultTypes.toList.any (P.ifacesRec ·))) = true)
    (h22 : ((c.loopsOut == fn.resultTypes.toList.any (P.loopsFrom ·))) = true)
    (h23 : ((c.plainKeys == P.plainKeys)) = true)
    (h24 : (c.shortTexts.isNone) = true)
    (h25 : (P.stopsHeard) = true)
    (h26 : (P.mayEnter) = true)
    (h27 : ((c.lifted == P.liftsFinal)) = true)
    (h28 : ((P.make == some c.make)) = true)
    (h29 : ((c.kinds == (if c.domain.isEmpty then [] else fn.params.toList.map fun t => match P.underlying t with | some (.int k) => some k | _ => none))) = true)
    (h30 : ((c.pinned == c.pinnedBy)) = true)
    (h31 : ((c.veiled == (fn.params.toList ++ s.plain.varTypes P ++ fn.resultTypes.toList).any (P.veiledRec ·))) = true)
    (h32 : (c.veiledFits P fn.params.toList (fn.params.toList ++ s.plain.varTypes P ++ fn.resultTypes.toList)) = true) : joinedFacts P f fn s c = true := by
  unfold joinedFacts
  simp only [Bool.and_eq_true]
  exact ⟨⟨⟨⟨⟨⟨⟨⟨⟨⟨⟨⟨⟨⟨⟨⟨⟨⟨⟨⟨⟨⟨⟨⟨⟨⟨⟨⟨⟨⟨⟨h1, h2⟩, h3⟩, h4⟩, h5⟩, h6⟩, h7⟩, h8⟩, h9⟩, h10⟩, h11⟩, h12⟩, h13⟩, h14⟩, h15⟩, h16⟩, h17⟩, h18⟩, h19⟩, h20⟩, h21⟩, h22⟩, h23⟩, h24⟩, h25⟩, h26⟩, h27⟩, h28⟩, h29⟩, h30⟩, h31⟩, h32⟩
end Go.Proofs.Ytopcofkpggefkaa

namespace Go.Proofs.Ytopcofkpggefkaa
open Go
theorem tt_ok : TTok Try.prog tt := ttChk_ok (by kernel_rfl)
theorem follows_ok : Try.prog.follows .mixedOrders = true := by kernel_rfl
theorem k_spec_l6Open : Con Try.prog 94 s_spec_l6Open := con_spec_l6Open (.nil tt_ok follows_ok)
theorem k_spec_l6Rd_pick : Con Try.prog 98 s_spec_l6Rd_pick := con_spec_l6Rd_pick (.nil tt_ok follows_ok)
theorem k_spec_l71Time : Con Try.prog 157 s_spec_l71Time := con_spec_l71Time (.cons k_spec_l6Rd_pick (.nil tt_ok follows_ok))
theorem k_spec_l71Row : Con Try.prog 144 s_spec_l71Row := con_spec_l71Row (.cons k_spec_l6Rd_pick (.cons k_spec_l71Time (.nil tt_ok follows_ok)))
theorem k_spec_l71Rows : Con Try.prog 129 s_spec_l71Rows := con_spec_l71Rows (.cons k_spec_l6Rd_pick (.cons k_spec_l71Row (.nil tt_ok follows_ok)))
theorem k_spec_l6In : Con Try.prog 93 s_spec_l6In := con_spec_l6In (.nil tt_ok follows_ok)
theorem k_spec_TimeOk : Con Try.prog 132 s_spec_TimeOk := con_spec_TimeOk (.cons k_spec_l6In (.nil tt_ok follows_ok))
theorem k_spec_l2Row : Con Try.prog 109 s_spec_l2Row := con_spec_l2Row (.cons k_spec_l6In (.cons k_spec_TimeOk (.nil tt_ok follows_ok)))
theorem k_spec_RowsOk : Con Try.prog 56 s_spec_RowsOk := con_spec_RowsOk (.cons k_spec_l2Row (.nil tt_ok follows_ok))
theorem k_spec_TimeLess : Con Try.prog 104 s_spec_TimeLess := con_spec_TimeLess (.cons k_spec_TimeOk (.nil tt_ok follows_ok))
theorem k_spec_l2Comp : Con Try.prog 131 s_spec_l2Comp := con_spec_l2Comp (.nil tt_ok follows_ok)
theorem k_spec_l2Put : Con Try.prog 126 s_spec_l2Put := con_spec_l2Put (.cons k_spec_l2Comp (.nil tt_ok follows_ok))
theorem k_spec_l2Sum : Con Try.prog 88 s_spec_l2Sum := con_spec_l2Sum (.cons k_spec_l2Put (.nil tt_ok follows_ok))
theorem k_spec_l2Items : Con Try.prog 81 s_spec_l2Items := con_spec_l2Items (.cons k_spec_l2Sum (.nil tt_ok follows_ok))
theorem k_spec_BatchAt : Con Try.prog 103 s_spec_BatchAt := con_spec_BatchAt (.cons k_spec_RowsOk (.cons k_spec_TimeOk (.cons k_spec_TimeLess (.cons k_spec_l2Items (.nil tt_ok follows_ok)))))
theorem k_spec_l71Set : Con Try.prog 95 s_spec_l71Set := con_spec_l71Set (.cons k_spec_l71Rows (.cons k_spec_BatchAt (.cons k_spec_l6Rd_pick (.nil tt_ok follows_ok))))
theorem k_spec_DrawLoopStep : Con Try.prog 44 s_spec_DrawLoopStep := con_spec_DrawLoopStep (.cons k_spec_l6Open (.cons k_spec_l71Set (.nil tt_ok follows_ok)))
theorem k_impl_SetOk : Con Try.prog 47 s_impl_SetOk := con_impl_SetOk (.nil tt_ok follows_ok)
theorem k_impl_once : Con Try.prog 125 s_impl_once := con_impl_once (.nil tt_ok follows_ok)
theorem k_impl_loopStep : Con Try.prog 85 s_impl_loopStep := con_impl_loopStep (.cons con_impl_gathered (.cons k_impl_once (.nil tt_ok follows_ok)))
theorem k_impl_LoopStep : Con Try.prog 31 s_impl_LoopStep := con_impl_LoopStep (.cons k_impl_SetOk (.cons k_impl_loopStep (.nil tt_ok follows_ok)))
theorem k_spec_l3Item : Con Try.prog 96 s_spec_l3Item := con_spec_l3Item (.cons k_spec_l6In (.nil tt_ok follows_ok))
theorem k_spec_l3Big : Con Try.prog 97 s_spec_l3Big := con_spec_l3Big (.nil tt_ok follows_ok)
theorem k_spec_SetOk : Con Try.prog 46 s_spec_SetOk := con_spec_SetOk (.cons k_spec_l3Item (.cons k_spec_l3Big (.cons k_spec_l6In (.nil tt_ok follows_ok))))
theorem k_spec_l22Keys : Con Try.prog 82 s_spec_l22Keys := con_spec_l22Keys (.nil tt_ok follows_ok)
theorem k_spec_l22Lead : Con Try.prog 83 s_spec_l22Lead := con_spec_l22Lead (.nil tt_ok follows_ok)
theorem k_spec_l3Count : Con Try.prog 156 s_spec_l3Count := con_spec_l3Count (.nil tt_ok follows_ok)
theorem k_spec_l3Key : Con Try.prog 142 s_spec_l3Key := con_spec_l3Key (.cons k_spec_l3Count (.nil tt_ok follows_ok))
theorem k_spec_l3Sum : Con Try.prog 124 s_spec_l3Sum := con_spec_l3Sum (.cons k_spec_SetOk (.cons k_spec_l3Key (.nil tt_ok follows_ok)))
theorem k_spec_SetOnce : Con Try.prog 80 s_spec_SetOnce := con_spec_SetOnce (.cons k_spec_l3Sum (.nil tt_ok follows_ok))
theorem k_spec_LoopStep : Con Try.prog 29 s_spec_LoopStep := con_spec_LoopStep (.cons k_spec_SetOk (.cons k_spec_l22Keys (.cons k_spec_l22Lead (.cons k_spec_l2Items (.cons k_spec_SetOnce (.nil tt_ok follows_ok))))))
theorem k_laws_lwItems : Con Try.prog 45 s_laws_lwItems := con_laws_lwItems (.nil tt_ok follows_ok)
theorem k_laws_FnLoopStep : Con Try.prog 7 s_laws_FnLoopStep := con_laws_FnLoopStep (.cons k_spec_DrawLoopStep (.cons k_impl_LoopStep (.cons k_spec_LoopStep (.cons k_laws_lwItems (.cons k_spec_SetOk (.cons k_impl_SetOk (.nil tt_ok follows_ok)))))))
theorem k_spec_DrawLoopSet : Con Try.prog 48 s_spec_DrawLoopSet := con_spec_DrawLoopSet (.cons k_spec_l6Open (.cons k_spec_l6Rd_pick (.cons k_spec_l71Set (.nil tt_ok follows_ok))))
theorem k_impl_LoopSet : Con Try.prog 43 s_impl_LoopSet := con_impl_LoopSet (.cons k_impl_SetOk (.cons k_impl_loopStep (.nil tt_ok follows_ok)))
theorem k_spec_LoopSet : Con Try.prog 42 s_spec_LoopSet := con_spec_LoopSet (.cons k_spec_SetOk (.cons k_spec_l6In (.cons k_spec_LoopStep (.nil tt_ok follows_ok))))
theorem k_laws_FnLoopFix : Con Try.prog 8 s_laws_FnLoopFix := con_laws_FnLoopFix (.cons k_spec_DrawLoopSet (.cons k_impl_LoopSet (.cons k_spec_LoopSet (.cons k_laws_lwItems (.cons k_spec_SetOk (.cons k_impl_LoopStep (.nil tt_ok follows_ok)))))))
theorem k_laws_lwPlus : Con Try.prog 49 s_laws_lwPlus := con_laws_lwPlus (.nil tt_ok follows_ok)
theorem k_laws_FnLoopFour : Con Try.prog 9 s_laws_FnLoopFour := con_laws_FnLoopFour (.cons k_spec_DrawLoopSet (.cons k_impl_LoopSet (.cons k_spec_LoopSet (.cons k_laws_lwItems (.cons k_spec_SetOk (.cons k_laws_lwPlus (.nil tt_ok follows_ok)))))))
theorem k_laws_lwHas : Con Try.prog 50 s_laws_lwHas := con_laws_lwHas (.nil tt_ok follows_ok)
theorem k_laws_FnLoopSet : Con Try.prog 10 s_laws_FnLoopSet := con_laws_FnLoopSet (.cons k_spec_DrawLoopSet (.cons k_impl_LoopSet (.cons k_spec_LoopSet (.cons k_laws_lwItems (.cons k_spec_SetOk (.cons k_laws_lwPlus (.cons k_laws_lwHas (.cons k_impl_LoopStep (.nil tt_ok follows_ok)))))))))
end Go.Proofs.Ytopcofkpggefkaa

namespace Go.Proofs.Ytopcofkpggefkaa
open Go

theorem cmp_eql' (a b : Int) : cmp .eql a b = decide (a = b) := by
  show (a == b) = _
  by_cases h : a = b <;> simp [h]
theorem cmp_neq' (a b : Int) : cmp .neq a b = !decide (a = b) := by
  show (a != b) = _
  by_cases h : a = b <;> simp [h]
theorem cmp_lss' (a b : Int) : cmp .lss a b = decide (a < b) := rfl
theorem cmp_leq' (a b : Int) : cmp .leq a b = decide (a ≤ b) := rfl
theorem cmp_gtr' (a b : Int) : cmp .gtr a b = decide (b < a) := rfl
theorem cmp_geq' (a b : Int) : cmp .geq a b = decide (b ≤ a) := rfl

theorem ar_add {a b : Int} (h : -9223372036854775808 ≤ a + b ∧ a + b ≤ 9223372036854775807) : ar .add .i64 a b = a + b := IntWalk.i64_in _ h
theorem ar_sub {a b : Int} (h : -9223372036854775808 ≤ a - b ∧ a - b ≤ 9223372036854775807) : ar .sub .i64 a b = a - b := IntWalk.i64_in _ h
theorem ar_mul {a b : Int} (h : -9223372036854775808 ≤ a * b ∧ a * b ≤ 9223372036854775807) : ar .mul .i64 a b = a * b := IntWalk.i64_in _ h
theorem ar_rem (a b : Int) : ar .rem .i64 a b = a.tmod b := rfl
theorem ar_quo {a b : Int} (h : 0 ≤ a ∧ a ≤ 9223372036854775807 ∧ 1 ≤ b) : ar .quo .i64 a b = a / b := IntWalk.i64_quo a b h
theorem ar_comm (a b : Int) : ar .add .i64 a b = ar .add .i64 b a := by show IntKind.wrap _ _ = IntKind.wrap _ _; rw [Int.add_comm]

theorem len_mid {t : Ty} {l r : List t.T} {x : t.T} : lenI t (l ++ x :: r) = (l.length : Int) + (r.length + 1) := by
  unfold lenI; simp
theorem rd_mid {t : Ty} {l r : List t.T} {x : t.T} : rd t (l ++ x :: r) (l.length : Int) = x := by
  unfold rd
  rw [Int.toNat_natCast, List.getD_eq_getElem?_getD]
  simp
theorem inb_mid {t : Ty} {l r : List t.T} {x : t.T} : inb (l.length : Int) (lenI t (l ++ x :: r)) := by
  rw [len_mid]; unfold inb; omega
theorem lss_mid {t : Ty} {l r : List t.T} {x : t.T} : cmp .lss (l.length : Int) (lenI t (l ++ x :: r)) = true := by
  rw [len_mid, cmp_lss']; simp; omega
theorem lss_end {t : Ty} {l : List t.T} : cmp .lss (l.length : Int) (lenI t l) = false := by
  rw [cmp_lss']; simp [lenI]
theorem lim_one {t : Ty} {o : List t.T} {y : t.T} (h : o.length < 1099511627776) : lim (lenI t o) (lenI t [y]) := by
  simp only [lim, lenI, List.length_singleton]; omega
theorem lim_two {t : Ty} {o u : List t.T} (h : o.length + u.length < 1099511627776) : lim (lenI t o) (lenI t u) := by
  simp only [lim, lenI]; omega
theorem succ_mid {α : Type} {l : List α} (h : l.length < 1099511627776) : ar .add .i64 (l.length : Int) 1 = ((l.length + 1 : Nat) : Int) := by
  rw [ar_add (by omega)]; omega

/-- The rounds of a loop come to an end, to this one. -/
structure Runs {σ ρ : Type} [Inhabited ρ] (step : σ → Lp σ ρ) (ob : σ → Prop) (s : σ) (r : ρ) : Prop where
  t : LpT step ob s
  v : lpV step s = r

theorem Runs.out {σ ρ : Type} [Inhabited ρ] {step : σ → Lp σ ρ} {ob : σ → Prop} {s : σ} {r : ρ} (ho : ob s) (h : step s = .out r) : Runs step ob s r :=
  ⟨.mk s ho (fun s' hs => by rw [h] at hs; cases hs), lpV_out h⟩
theorem Runs.go {σ ρ : Type} [Inhabited ρ] {step : σ → Lp σ ρ} {ob : σ → Prop} {s s' : σ} {r : ρ} (ho : ob s) (h : step s = .go s') (hr : Runs step ob s' r) : Runs step ob s r :=
  ⟨.mk s ho (fun s2 hs => by rw [h] at hs; cases hs; exact hr.t), (lpV_go h).trans hr.v⟩

/-- A loop over a list: what holds of the part that is done, and what holds at an end. -/
theorem Runs.list {σ ρ α β : Type} [Inhabited ρ] {step : σ → Lp σ ρ} {ob : σ → Prop} (xs : List α) (st : Nat → β → σ) (I : List α → β → Prop) {Q : ρ → Prop} {s0 : σ} {b0 : β} (hs : st 0 b0 = s0) (h0 : I [] b0)
    (hgo : ∀ l x r b, xs = l ++ x :: r → I l b → ob (st l.length b) ∧ ((∃ b', step (st l.length b) = .go (st (l.length + 1) b') ∧ I (l ++ [x]) b') ∨ ∃ q, step (st l.length b) = .out q ∧ Q q))
    (hout : ∀ b, I xs b → ob (st xs.length b) ∧ ∃ q, step (st xs.length b) = .out q ∧ Q q) : ∃ q, Runs step ob s0 q ∧ Q q := by
  subst hs
  suffices ∀ (r l : List α) (b : β), xs = l ++ r → I l b → ∃ q, Runs step ob (st l.length b) q ∧ Q q from this xs [] b0 rfl h0
  intro r
  induction r with
  | nil =>
    intro l b hx hI
    rw [List.append_nil] at hx
    subst hx
    obtain ⟨ho, q, h1, h2⟩ := hout b hI
    exact ⟨q, .out ho h1, h2⟩
  | cons x r ih =>
    intro l b hx hI
    obtain ⟨ho, ⟨b', h1, h2⟩ | ⟨q, h1, h2⟩⟩ := hgo l x r b hx hI
    · obtain ⟨q, hq, hQ⟩ := ih (l ++ [x]) b' (by rw [hx, List.append_assoc]; rfl) h2
      rw [List.length_append, List.length_singleton] at hq
      exact ⟨q, .go ho h1 hq, hQ⟩
    · exact ⟨q, .out ho h1, h2⟩

/-- ... whose rounds are all there, and whose value is known. -/
theorem Runs.fold {σ ρ α β : Type} [Inhabited ρ] {step : σ → Lp σ ρ} {ob : σ → Prop} (xs : List α) (st : Nat → β → σ) (f : List α → β) {fin : ρ} {s0 : σ} (hs : st 0 (f []) = s0)
    (hgo : ∀ l x r, xs = l ++ x :: r → ob (st l.length (f l)) ∧ step (st l.length (f l)) = .go (st (l.length + 1) (f (l ++ [x]))))
    (hout : ob (st xs.length (f xs)) ∧ step (st xs.length (f xs)) = .out fin) : Runs step ob s0 fin := by
  subst hs
  obtain ⟨q, h1, h2⟩ := Runs.list (step := step) (ob := ob) (Q := fun q => q = fin) xs st (fun l b => b = f l) (b0 := f []) rfl rfl
    (fun l x r b hx hb => by subst hb; exact ⟨(hgo l x r hx).1, .inl ⟨_, (hgo l x r hx).2, rfl⟩⟩)
    (fun b hb => by subst hb; exact ⟨hout.1, _, hout.2, rfl⟩)
  rw [h2] at h1
  exact h1

/-- Two lists in strict order with the same members are one. -/
theorem pw_eq {α : Type} {lt : α → α → Prop} (irr : ∀ a, ¬ lt a a) (tr : ∀ {a b c}, lt a b → lt b c → lt a c) : ∀ {a b : List α}, a.Pairwise lt → b.Pairwise lt → (∀ x, x ∈ a ↔ x ∈ b) → a = b
  | [], [], _, _, _ => rfl
  | [], y :: b, _, _, h => absurd ((h y).2 (by simp)) (by simp)
  | x :: a, [], _, _, h => absurd ((h x).1 (by simp)) (by simp)
  | x :: a, y :: b, ha, hb, h => by
    have ha' := List.pairwise_cons.1 ha
    have hb' := List.pairwise_cons.1 hb
    have hxy : x = y := by
      rcases List.mem_cons.1 ((h x).1 (by simp)) with e | e
      · exact e
      · rcases List.mem_cons.1 ((h y).2 (by simp)) with e2 | e2
        · exact e2.symm
        · exact absurd (tr (hb'.1 x e) (ha'.1 y e2)) (irr _)
    subst hxy
    refine congrArg (x :: ·) (pw_eq irr tr ha'.2 hb'.2 fun z => ⟨fun hz => ?_, fun hz => ?_⟩)
    · rcases List.mem_cons.1 ((h z).1 (by simp [hz])) with e | e
      · subst e; exact absurd (ha'.1 z hz) (irr _)
      · exact e
    · rcases List.mem_cons.1 ((h z).2 (by simp [hz])) with e | e
      · subst e; exact absurd (hb'.1 z hz) (irr _)
      · exact e

theorem asc_pw {m : MP} (h : Asc m) : m.Pairwise fun p q => ltK p.1 q.1 = true := h
theorem asc_mem {a b : MP} (ha : Asc a) (hb : Asc b) (h : ∀ p, p ∈ a ↔ p ∈ b) : a = b :=
  pw_eq (lt := fun p q : List Int × Int => ltK p.1 q.1 = true) (fun p hp => by rw [ltK_irrefl] at hp; cases hp) (fun h1 h2 => ltK_trans h1 h2) ha hb h

/-- A change comes to its place. -/
def insP (q : List Int × Int) : MP → MP
  | [] => [q]
  | p :: m => if ltK q.1 p.1 = true then q :: p :: m else if p.1 = q.1 then (q.1, ar .add .i64 q.2 p.2) :: m else p :: insP q m
def accP (l : List (List Int × Int)) : MP := l.foldl (fun m q => insP q m) []

theorem keys_insP (q : List Int × Int) : ∀ (m : MP) (k : List Int), k ∈ keysM (insP q m) ↔ k = q.1 ∨ k ∈ keysM m
  | [], k => by simp [insP, keysM]
  | p :: m, k => by
    simp only [insP]
    split
    · simp [keysM]
    · split
      · rename_i h; simp [keysM, h]
      · have := keys_insP q m k
        simp only [keysM, List.map_cons, List.mem_cons] at this ⊢
        rw [this]
        constructor
        · rintro (h | h | h)
          · exact .inr (.inl h)
          · exact .inl h
          · exact .inr (.inr h)
        · rintro (h | h | h)
          · exact .inr (.inl h)
          · exact .inl h
          · exact .inr (.inr h)

theorem insP_keyd {n : Nat} {q : List Int × Int} {m : MP} (hm : Keyd n m) (hq : q.1.length = n) : Keyd n (insP q m) := by
  intro p hp
  have : p.1 ∈ keysM (insP q m) := List.mem_map.2 ⟨p, hp, rfl⟩
  rcases (keys_insP q m p.1).1 this with h | h
  · rw [h]; exact hq
  · obtain ⟨p', h1, h2⟩ := List.mem_map.1 h
    rw [← h2]; exact hm p' h1

theorem insP_asc {n : Nat} {q : List Int × Int} (hq : q.1.length = n) : ∀ {m : MP}, Asc m → Keyd n m → Asc (insP q m)
  | [], _, _ => by simp [insP, Asc]
  | p :: m, ha, hk => by
    have ha' := List.pairwise_cons.1 ha
    simp only [insP]
    split
    · rename_i h
      refine List.pairwise_cons.2 ⟨fun s hs => ?_, ha⟩
      rcases List.mem_cons.1 hs with rfl | hs
      · exact h
      · exact ltK_trans h (ha'.1 s hs)
    · split
      · rename_i h1 h2
        exact List.pairwise_cons.2 ⟨fun s hs => by show ltK q.1 s.1 = true; rw [← h2]; exact ha'.1 s hs, ha'.2⟩
      · rename_i h1 h2
        have hpq : ltK p.1 q.1 = true := by
          rcases ltK_total ((hk p (by simp)).trans hq.symm) h2 with h | h
          · exact h
          · exact absurd h h1
        refine List.pairwise_cons.2 ⟨fun s hs => ?_, insP_asc hq ha'.2 fun s hs => hk s (by simp [hs])⟩
        rcases (keys_insP q m s.1).1 (List.mem_map.2 ⟨s, hs, rfl⟩) with h | h
        · rw [h]; exact hpq
        · obtain ⟨s', h1, h2⟩ := List.mem_map.1 h
          rw [← h2]; exact ha'.1 s' h1

theorem valM_insP {n : Nat} {q : List Int × Int} (hq : q.1.length = n) : ∀ {m : MP}, Asc m → Keyd n m → ∀ k, valM (insP q m) k = if k = q.1 then (if q.1 ∈ keysM m then ar .add .i64 q.2 (valM m k) else q.2) else valM m k
  | [], _, _, k => by
    simp only [insP, valM_cons, keysM, List.map_nil, List.not_mem_nil, if_false]
    by_cases h : q.1 = k
    · simp [h]
    · simp [h, Ne.symm h]
  | p :: m, ha, hk, k => by
    have ha' := List.pairwise_cons.1 ha
    simp only [insP]
    split
    · rename_i h
      have hne : q.1 ∉ keysM (p :: m) := by
        intro hm
        obtain ⟨s, hs, e⟩ := List.mem_map.1 hm
        rcases List.mem_cons.1 hs with rfl | hs
        · rw [e, ltK_irrefl] at h; cases h
        · have := ltK_trans h (ha'.1 s hs)
          rw [e, ltK_irrefl] at this; cases this
      rw [if_neg hne, valM_cons]
      by_cases h2 : q.1 = k
      · simp [h2]
      · simp [h2, Ne.symm h2]
    · split
      · rename_i h1 h2
        have hm : q.1 ∈ keysM (p :: m) := by simp [keysM, h2]
        rw [if_pos hm, valM_cons, valM_cons]
        by_cases h3 : q.1 = k
        · simp [h3, h2.trans h3]
        · have h4 : ¬ p.1 = k := fun e => h3 (h2.symm.trans e)
          simp [h3, Ne.symm h3, h4]
      · rename_i h1 h2
        rw [valM_cons, valM_insP hq ha'.2 (fun s hs => hk s (by simp [hs])) k, valM_cons]
        have hmm : q.1 ∈ keysM (p :: m) ↔ q.1 ∈ keysM m := by simp [keysM, Ne.symm h2]
        by_cases h3 : p.1 = k
        · have : ¬ k = q.1 := fun e => h2 (h3.trans e)
          simp [h3, this]
        · simp only [h3, if_false, hmm]

theorem accP_ok {n : Nat} {l : List (List Int × Int)} (hk : Keyd n l) (hr : ∀ q ∈ l, IntKind.i64.wrap q.2 = q.2) : Asc (accP l) ∧ Keyd n (accP l) ∧ ∀ k, valM (accP l) k = sumK l k := by
  suffices ∀ (l : List (List Int × Int)) (m : MP), Keyd n l → (∀ q ∈ l, IntKind.i64.wrap q.2 = q.2) → Asc m → Keyd n m → Asc (l.foldl (fun m q => insP q m) m) ∧ Keyd n (l.foldl (fun m q => insP q m) m) ∧
      ∀ k, valM (l.foldl (fun m q => insP q m) m) k = l.foldl (fun s q => if q.1 = k then ar .add .i64 s q.2 else s) (valM m k) by
    obtain ⟨h1, h2, h3⟩ := this l [] hk hr (by simp [Asc]) (fun p hp => by simp at hp)
    refine ⟨h1, h2, fun k => ?_⟩
    exact h3 k
  intro l
  induction l with
  | nil => exact fun m _ _ h1 h2 => ⟨h1, h2, fun _ => rfl⟩
  | cons q r ih =>
    intro m hl hl2 ha hm
    have hq := hl q (by simp)
    obtain ⟨h1, h2, h3⟩ := ih (insP q m) (fun p hp => hl p (by simp [hp])) (fun p hp => hl2 p (by simp [hp])) (insP_asc hq ha hm) (insP_keyd hm hq)
    refine ⟨h1, h2, fun k => ?_⟩
    rw [List.foldl_cons, List.foldl_cons, h3 k, valM_insP hq ha hm]
    congr 1
    by_cases h : k = q.1
    · subst h
      simp only [if_true]
      by_cases hmem : q.1 ∈ keysM m
      · simp only [hmem, if_true]
        exact ar_comm _ _
      · simp only [hmem, if_false]
        rw [valM_none hmem]
        show q.2 = IntKind.i64.wrap (0 + q.2)
        rw [Int.zero_add, hl2 q (by simp)]
    · simp [h, Ne.symm h]

theorem sumK_map {f : List Int → List Int} (hf : ∀ a b, f a = f b → a = b) (l : List (List Int × Int)) (k : List Int) : sumK (l.map fun q => (f q.1, q.2)) (f k) = sumK l k := by
  unfold sumK
  rw [List.foldl_map]
  congr 1
  funext s q
  by_cases h : q.1 = k
  · simp [h]
  · have h2 : ¬ f q.1 = f k := fun e => h (hf _ _ e)
    simp [h, h2]
theorem sumK_none {l : List (List Int × Int)} {k : List Int} (h : ∀ q ∈ l, q.1 ≠ k) : sumK l k = 0 := by
  suffices ∀ (l : List (List Int × Int)) (s : Int), (∀ q ∈ l, q.1 ≠ k) → l.foldl (fun s q => if q.1 = k then ar .add .i64 s q.2 else s) s = s from this l 0 h
  intro l
  induction l with
  | nil => exact fun _ _ => rfl
  | cons q r ih =>
    intro s h
    rw [List.foldl_cons, if_neg (h q (by simp))]
    exact ih s fun p hp => h p (by simp [hp])
theorem sumK_key {l : List (List Int × Int)} {k : List Int} (h : sumK l k ≠ 0) : ∃ q ∈ l, q.1 = k := by
  by_cases he : ∃ q ∈ l, q.1 = k
  · exact he
  · exact absurd (sumK_none fun q hq e => he ⟨q, hq, e⟩) h

/-- What comes of changes put in their places, is what the sums are. -/
theorem accP_gathM {n : Nat} {l : List (List Int × Int)} (hk : Keyd n l) (hr : ∀ q ∈ l, IntKind.i64.wrap q.2 = q.2) : (accP l).filter (fun p => p.2 != 0) = gathM l := by
  obtain ⟨h1, h2, h3⟩ := accP_ok hk hr
  have hnd : (keysM (accP l)).Nodup := by
    refine List.Pairwise.map _ (fun p q h e => ?_) h1
    rw [e, ltK_irrefl] at h; cases h
  refine asc_mem (h1.sublist List.filter_sublist) (gathM_asc hk) fun p => ?_
  rw [mem_gathM, List.mem_filter]
  constructor
  · rintro ⟨a, b⟩
    exact ⟨by rw [← h3, valM_mem hnd a], by simpa using b⟩
  · rintro ⟨a, b⟩
    refine ⟨?_, by simpa using b⟩
    by_cases hm : p.1 ∈ keysM (accP l)
    · obtain ⟨q, hq, e⟩ := List.mem_map.1 hm
      have := valM_mem hnd hq
      rw [h3, e, ← a] at this
      have : q = p := Prod.ext e this.symm
      rwa [this] at hq
    · exact absurd (by rw [a, ← h3, valM_none hm]) b

/-- Other keys in the same order. -/
theorem gathM_map {n m : Nat} {f : List Int → List Int} (hf : ∀ a b, f a = f b → a = b) (hn : ∀ k : List Int, k.length = n → (f k).length = m)
    (hlt : ∀ a b, a.length = n → b.length = n → ltK (f a) (f b) = ltK a b) {l : List (List Int × Int)} (hk : Keyd n l) :
    gathM (l.map fun q => (f q.1, q.2)) = (gathM l).map fun q => (f q.1, q.2) := by
  have hkm : Keyd m (l.map fun q => (f q.1, q.2)) := by
    intro p hp
    obtain ⟨q, hq, rfl⟩ := List.mem_map.1 hp
    exact hn _ (hk q hq)
  have hkey : ∀ p ∈ gathM l, p.1.length = n := by
    intro p hp
    obtain ⟨h1, h2⟩ := mem_gathM.1 hp
    obtain ⟨q, hq, e⟩ := sumK_key (h1 ▸ h2)
    rw [← e]; exact hk q hq
  refine asc_mem (gathM_asc hkm) ?_ fun p => ?_
  · refine List.pairwise_map.2 ((gathM_asc hk).imp_of_mem fun {a b} ha hb h => ?_)
    show ltK (f a.1) (f b.1) = true
    rw [hlt _ _ (hkey a ha) (hkey b hb)]; exact h
  · rw [mem_gathM, List.mem_map]
    constructor
    · rintro ⟨h1, h2⟩
      obtain ⟨q, hq, e⟩ := sumK_key (h1 ▸ h2)
      obtain ⟨q', hq', rfl⟩ := List.mem_map.1 hq
      have e : f q'.1 = p.1 := e
      refine ⟨(q'.1, p.2), mem_gathM.2 ⟨?_, h2⟩, Prod.ext e rfl⟩
      rw [h1, ← e, sumK_map hf]
    · rintro ⟨q, hq, rfl⟩
      obtain ⟨h1, h2⟩ := mem_gathM.1 hq
      exact ⟨by rw [sumK_map hf]; exact h1, h2⟩
end Go.Proofs.Ytopcofkpggefkaa

namespace Go.Proofs.Ytopcofkpggefkaa
open Go

/-- Bytes, and not too many. -/
structure RdOk (b : List Int) : Prop where
  byte : ∀ x ∈ b, 0 ≤ x ∧ x ≤ 255
  len : b.length ≤ 2000

def rdByt (b : List Int) (i : Int) : Int := b.getD i.toNat 0
theorem rdByt_eq (b : List Int) (i : Int) : rd .byte b i = rdByt b i := rfl
theorem rd_byte {b : List Int} (h : RdOk b) (i : Int) : 0 ≤ rdByt b i ∧ rdByt b i ≤ 255 := by
  unfold rdByt
  rw [List.getD_eq_getElem?_getD]
  cases hg : b[i.toNat]? with
  | none => simp
  | some x => exact h.byte x (List.mem_of_getElem? hg)

theorem xr_bound {a b : Int} (ha : 0 ≤ a ∧ a < 4611686018427387904) (hb : 0 ≤ b ∧ b < 4611686018427387904) : 0 ≤ xr .i64 a b ∧ xr .i64 a b < 4611686018427387904 := by
  unfold xr
  have h1 : (BitVec.ofInt 64 a).toNat < 2 ^ 62 := by rw [BitVec.toNat_ofInt]; omega
  have h2 : (BitVec.ofInt 64 b).toNat < 2 ^ 62 := by rw [BitVec.toNat_ofInt]; omega
  have h3 := Nat.xor_lt_two_pow h1 h2
  show 0 ≤ IntKind.i64.wrap ((BitVec.ofInt 64 a ^^^ BitVec.ofInt 64 b).toNat : Int) ∧ IntKind.i64.wrap ((BitVec.ofInt 64 a ^^^ BitVec.ofInt 64 b).toNat : Int) < 4611686018427387904
  rw [BitVec.toNat_xor]
  generalize (BitVec.ofInt 64 a).toNat ^^^ (BitVec.ofInt 64 b).toNat = m at h3
  rw [IntWalk.i64_in _ (by omega)]
  omega

theorem pick_ok {b : List Int} (hb : RdOk b) {p n : Int} (hp : 0 ≤ p ∧ p ≤ 1000000) (hn : 1 ≤ n ∧ n ≤ 1000000) :
    p_spec_l6Rd_pick (b, p) n ∧ (v_spec_l6Rd_pick (b, p) n).2 = p + 1 ∧ 0 ≤ (v_spec_l6Rd_pick (b, p) n).1 ∧ (v_spec_l6Rd_pick (b, p) n).1 < n := by
  have h1 : ar .add .i64 p 1 = p + 1 := ar_add (by omega)
  have h2 : ar .sub .i64 (p + 1) 1 = p := by rw [ar_sub (by omega)]; omega
  have hlt : cmp .lss n 1 = false := by rw [cmp_lss']; simp; omega
  have hn0 : n ≠ 0 := by omega
  have hlen := hb.len
  have hlb : lenI .byte b = (b.length : Int) := rfl
  unfold p_spec_l6Rd_pick v_spec_l6Rd_pick spec_l6Rd_pick_b_ob spec_l6Rd_pick_b
  simp only [h1, h2, hlt, cond_false, cmp_eql', hlb, rdByt_eq]
  by_cases h0 : (b.length : Int) = 0
  · simp only [h0, decide_true, ocR]
    refine ⟨by simp, trivial, Int.le_refl _, by omega⟩
  · have hL : 1 ≤ (b.length : Int) := by omega
    have hbne : b ≠ [] := by rintro rfl; exact h0 rfl
    by_cases h3 : p < (b.length : Int)
    · have hc : cmp .lss p (b.length : Int) = true := by rw [cmp_lss']; simpa using h3
      simp only [h0, decide_false, hc, ocR]
      have hx := rd_byte hb p
      rw [IntWalk.i64_in _ (by omega)]
      exact ⟨by simp [inb, hp.1, h3, hn0], trivial, Int.tmod_nonneg _ hx.1, Int.tmod_lt_of_pos _ (by omega)⟩
    · have hc : cmp .lss p (b.length : Int) = false := by rw [cmp_lss']; simpa using h3
      have hm : ar .mul .i64 p 7 = p * 7 := ar_mul (by omega)
      have hm3 : ar .add .i64 (p * 7) 3 = p * 7 + 3 := ar_add (by omega)
      simp only [h0, decide_false, hc, ocR, hm, hm3, ar_rem]
      have i1 : inb (p.tmod b.length) b.length := ⟨Int.tmod_nonneg _ hp.1, Int.tmod_lt_of_pos _ (by omega)⟩
      have i2 : inb ((p * 7 + 3).tmod b.length) b.length := ⟨Int.tmod_nonneg _ (by omega), Int.tmod_lt_of_pos _ (by omega)⟩
      refine ⟨by simp [hbne, i1, i2, hn0], trivial, ?_⟩
      have x1 := rd_byte hb (p.tmod b.length)
      have x2 := rd_byte hb ((p * 7 + 3).tmod b.length)
      generalize rdByt b (p.tmod b.length) = y1 at x1 ⊢
      generalize rdByt b ((p * 7 + 3).tmod b.length) = y2 at x2 ⊢
      rw [IntWalk.i64_in y1 (by omega), IntWalk.i64_in y2 (by omega)]
      have m1 : ar .mul .i64 y1 131 = y1 * 131 := ar_mul (by omega)
      have m2 : ar .mul .i64 y2 1117 = y2 * 1117 := ar_mul (by omega)
      have m3 : ar .mul .i64 p 29 = p * 29 := ar_mul (by omega)
      have m4 : ar .quo .i64 p b.length = p / b.length := ar_quo (by omega)
      have q0 : 0 ≤ p / (b.length : Int) := Int.ediv_nonneg hp.1 (by omega)
      have q1 : p / (b.length : Int) ≤ p := Int.ediv_le_self _ hp.1
      rw [m4]
      generalize p / (b.length : Int) = pl at q0 q1 ⊢
      have m5 : ar .mul .i64 pl 53 = pl * 53 := ar_mul (by omega)
      simp only [m1, m2, m3, m5]
      rw [ar_add (a := y1 * 131) (b := y2 * 1117) (by omega), ar_add (a := y1 * 131 + y2 * 1117) (b := p * 29) (by omega), ar_add (a := y1 * 131 + y2 * 1117 + p * 29) (b := pl * 53) (by omega)]
      have hX : 0 ≤ y1 * 131 + y2 * 1117 + p * 29 + pl * 53 ∧ y1 * 131 + y2 * 1117 + p * 29 + pl * 53 ≤ 1000000000000 := by omega
      generalize y1 * 131 + y2 * 1117 + p * 29 + pl * 53 = X at hX ⊢
      rw [ar_quo (by omega)]
      have hxr := xr_bound (a := X) (b := X / 64) (by omega) (by omega)
      exact ⟨Int.tmod_nonneg _ hxr.1, Int.tmod_lt_of_pos _ (by omega)⟩

theorem l6Open_ok {c : List Int} (hc : ∀ x ∈ c, 0 ≤ x ∧ x ≤ 255) : p_spec_l6Open c ∧ ∃ b, v_spec_l6Open c = (b, 0) ∧ RdOk b := by
  have hl : lenI .byte c = (c.length : Int) := rfl
  unfold p_spec_l6Open v_spec_l6Open spec_l6Open_b_ob spec_l6Open_b spec_l6Open_c1_ob spec_l6Open_c1
  by_cases h : 2000 < (c.length : Int)
  · have hg : cmp .gtr (lenI .byte c) 2000 = true := by rw [cmp_gtr', hl]; simpa using h
    have h3 : le3 0 2000 (lenI .byte c) := ⟨by omega, by omega, by rw [hl]; omega⟩
    simp only [hg, ocR]
    exact ⟨by simp [h3], _, rfl, fun x hx => hc x (List.mem_of_mem_take (List.mem_of_mem_drop hx)), by simp; omega⟩
  · have hg : cmp .gtr (lenI .byte c) 2000 = false := by rw [cmp_gtr', hl]; simpa using h
    simp only [hg, ocR]
    exact ⟨by simp, _, rfl, hc, by omega⟩

theorem l71Time_ok {b : List Int} (hb : RdOk b) {p : Int} (hp : 0 ≤ p ∧ p ≤ 900000) :
    p_spec_l71Time (b, p) ∧ (v_spec_l71Time (b, p)).2 = p + 3 := by
  obtain ⟨a1, a2, a3, a4⟩ := pick_ok hb (p := p) (n := 10) (by omega) (by omega)
  obtain ⟨b1, b2, b3, b4⟩ := pick_ok hb (p := p + 1) (n := 8) (by omega) (by omega)
  obtain ⟨c1, c2, c3, c4⟩ := pick_ok hb (p := p + 1 + 1) (n := 8) (by omega) (by omega)
  obtain ⟨d1, d2, d3, d4⟩ := pick_ok hb (p := p + 1) (n := 4) (by omega) (by omega)
  obtain ⟨e1, e2, e3, e4⟩ := pick_ok hb (p := p + 1 + 1) (n := 4) (by omega) (by omega)
  unfold p_spec_l71Time v_spec_l71Time spec_l71Time_b_ob spec_l71Time_b
  simp only [a2, b2, d2]
  cases h : cmp .eql (v_spec_l6Rd_pick (b, p) 10).1 0 with
  | true => simp only [ocR, c2]; exact ⟨⟨trivial, ⟨a1, trivial⟩, (fun _ => ⟨⟨b1, c1, trivial⟩, trivial⟩), fun h => by cases h⟩, by omega⟩
  | false => simp only [ocR, e2]; exact ⟨⟨trivial, ⟨a1, trivial⟩, (fun h => by cases h), fun _ => ⟨⟨d1, e1, trivial⟩, trivial⟩⟩, by omega⟩

theorem l71Row_ok {b : List Int} (hb : RdOk b) {p : Int} (hp : 0 ≤ p ∧ p ≤ 800000) :
    p_spec_l71Row (b, p) ∧ (v_spec_l71Row (b, p)).2 = p + 6 ∧ -3 ≤ (v_spec_l71Row (b, p)).1.Diff ∧ (v_spec_l71Row (b, p)).1.Diff ≤ 3 := by
  obtain ⟨a1, a2, a3, a4⟩ := pick_ok hb (p := p) (n := 4) (by omega) (by omega)
  obtain ⟨b1, b2, b3, b4⟩ := pick_ok hb (p := p + 1) (n := 9) (by omega) (by omega)
  obtain ⟨c1, c2⟩ := l71Time_ok hb (p := p + 1 + 1) (by omega)
  obtain ⟨d1, d2, d3, d4⟩ := pick_ok hb (p := p + 1 + 1 + 3) (n := 8) (by omega) (by omega)
  unfold p_spec_l71Row v_spec_l71Row spec_l71Row_b_ob spec_l71Row_b
  simp only [a2, b2, c2, ocR, d2]
  refine ⟨⟨trivial, ⟨a1, b1, ⟨b3, by show _ < (9 : Int); exact b4⟩, c1, d1, ⟨d3, by show _ < (8 : Int); exact d4⟩, trivial⟩, trivial⟩, by omega, ?_⟩
  generalize (v_spec_l6Rd_pick (b, p + 1 + 1 + 3) 8).1 = i at d3 d4
  have hi : i = 0 ∨ i = 1 ∨ i = 2 ∨ i = 3 ∨ i = 4 ∨ i = 5 ∨ i = 6 ∨ i = 7 := by omega
  rcases hi with rfl | rfl | rfl | rfl | rfl | rfl | rfl | rfl <;> exact ⟨by decide, by decide⟩
end Go.Proofs.Ytopcofkpggefkaa

namespace Go.Proofs.Ytopcofkpggefkaa
open Go

def rK (r : Row) : List Int := [r.Key, r.Val, r.At.A, r.At.B]
def chR (xs : List Row) : List (List Int × Int) := xs.map fun r => (rK r, r.Diff)
def mkR (p : List Int × Int) : Row := match p.1 with
  | [k, v, a, b] => ⟨k, v, ⟨a, b⟩, p.2⟩
  | _ => ⟨0, 0, ⟨0, 0⟩, 0⟩
def gathR (xs : List Row) : List Row := (gathM (chR xs)).map mkR
theorem mkR_chR (xs : List Row) : (chR xs).map mkR = xs := by
  unfold chR
  rw [List.map_map]
  exact (List.map_congr_left fun x _ => rfl).trans (List.map_id xs)
theorem chR_keyd (xs : List Row) : Keyd 4 (chR xs) := by
  intro p hp
  obtain ⟨r, _, rfl⟩ := List.mem_map.1 hp
  rfl

theorem l2Comp_c2_ok (x y : List Int) (h : x.length = y.length) (hl : x.length < 1099511627776) :
    spec_l2Comp_c2_ob x y ∧ spec_l2Comp_c2 x y = if ltK x y = true then .r (-1) else if ltK y x = true then .r 1 else .x () := by
  have hz : (x.zip y).length = x.length := by rw [List.length_zip]; omega
  suffices key : ∃ q, Runs (fun s => ocLp ((fun (s : Int) => spec_l2Comp_c2_r x y s) s)) (fun s => spec_l2Comp_c2_r_ob x y s) 0 q ∧ q = if ltK x y = true then .r (-1) else if ltK y x = true then .r 1 else .x () by
    obtain ⟨q, h1, h2⟩ := key
    exact ⟨h1.t, h1.v.trans h2⟩
  refine Runs.list (x.zip y) (fun i (_ : Unit) => (i : Int))
    (fun l _ => ltK x y = ltK (x.drop l.length) (y.drop l.length) ∧ ltK y x = ltK (y.drop l.length) (x.drop l.length))
    (b0 := ()) rfl ⟨rfl, rfl⟩ ?_ ?_
  · rintro l ⟨u, v⟩ r ⟨⟩ hx ⟨i1, i2⟩
    have hlen : l.length < x.length := by rw [← hz, hx]; simp
    have hg : (x.zip y)[l.length]? = some (u, v) := by rw [hx]; simp
    rw [List.getElem?_zip_eq_some] at hg
    have hu : rd .int x (l.length : Int) = u := by
      show x.getD (Int.toNat l.length) 0 = u
      rw [Int.toNat_natCast, List.getD_eq_getElem?_getD, hg.1]; rfl
    have hv : rd .int y (l.length : Int) = v := by
      show y.getD (Int.toNat l.length) 0 = v
      rw [Int.toNat_natCast, List.getD_eq_getElem?_getD, hg.2]; rfl
    have hdx : x.drop l.length = u :: x.drop (l.length + 1) := by
      rw [List.drop_eq_getElem_cons hlen]
      congr 1
      have := hg.1
      rw [List.getElem?_eq_getElem hlen] at this
      exact Option.some.inj this
    have hdy : y.drop l.length = v :: y.drop (l.length + 1) := by
      rw [List.drop_eq_getElem_cons (by omega)]
      congr 1
      have := hg.2
      rw [List.getElem?_eq_getElem (by omega)] at this
      exact Option.some.inj this
    rw [hdx, hdy] at i1 i2
    have hlss : cmp .lss (l.length : Int) (lenI .int x) = true := by rw [cmp_lss']; simp [lenI]; omega
    have hi1 : inb (l.length : Int) (lenI .int x) := ⟨by omega, by simp [lenI]; omega⟩
    have hi2 : inb (l.length : Int) (lenI .int y) := ⟨by omega, by simp [lenI]; omega⟩
    refine ⟨by simp [spec_l2Comp_c2_r_ob, hlss, hi1, hi2], ?_⟩
    show ((∃ b', ocLp (spec_l2Comp_c2_r x y (l.length : Int)) = _ ∧ _) ∨ ∃ q, ocLp (spec_l2Comp_c2_r x y (l.length : Int)) = _ ∧ _)
    unfold spec_l2Comp_c2_r
    rw [hlss, hu, hv, succ_mid (l := l) (by omega)]
    rcases Int.lt_trichotomy u v with c | c | c
    · right
      refine ⟨.r (-1), by rw [show cmp .lss u v = true by rw [cmp_lss']; simpa using c]; rfl, ?_⟩
      rw [if_pos (by rw [i1]; simp [ltK, c])]
    · left
      subst c
      refine ⟨(), by rw [show cmp .lss u u = false by rw [cmp_lss']; simp, show cmp .gtr u u = false by rw [cmp_gtr']; simp]; rfl, ?_⟩
      rw [List.length_append, List.length_singleton, i1, i2]
      simp [ltK]
    · right
      refine ⟨.r 1, by rw [show cmp .lss u v = false by rw [cmp_lss']; simp; omega, show cmp .gtr u v = true by rw [cmp_gtr']; simpa using c]; rfl, ?_⟩
      rw [if_neg (by rw [i1]; simp [ltK]; omega), if_pos (by rw [i2]; simp [ltK, c])]
  · rintro ⟨⟩ ⟨i1, i2⟩
    have hlss : cmp .lss ((x.zip y).length : Int) (lenI .int x) = false := by rw [cmp_lss', hz]; simp [lenI]
    refine ⟨by simp only [spec_l2Comp_c2_r_ob, hlss]; simp, .x (), ?_, ?_⟩
    · show ocLp (spec_l2Comp_c2_r x y ((x.zip y).length : Int)) = _
      unfold spec_l2Comp_c2_r
      rw [hlss]; rfl
    · rw [hz, List.drop_length, show x.length = y.length from h, List.drop_length] at i1 i2
      rw [i1, i2]; rfl

theorem l2Comp_ok (a b : Row) : p_spec_l2Comp a b ∧ v_spec_l2Comp a b = if ltK (rK a) (rK b) = true then -1 else if ltK (rK b) (rK a) = true then 1 else 0 := by
  obtain ⟨h1, h2⟩ := l2Comp_c2_ok (rK a) (rK b) rfl (by simp [rK])
  unfold rK at h1 h2 ⊢
  unfold p_spec_l2Comp v_spec_l2Comp spec_l2Comp_b_ob spec_l2Comp_b spec_l2Comp_c1_ob spec_l2Comp_c1
  rw [h2]
  refine ⟨by simp [h1], ?_⟩
  by_cases c1 : ltK [a.Key, a.Val, a.At.A, a.At.B] [b.Key, b.Val, b.At.A, b.At.B] = true
  · rw [if_pos c1, if_pos c1]; rfl
  · rw [if_neg c1, if_neg c1]
    by_cases c2 : ltK [b.Key, b.Val, b.At.A, b.At.B] [a.Key, a.Val, a.At.A, a.At.B] = true
    · rw [if_pos c2, if_pos c2]; rfl
    · rw [if_neg c2, if_neg c2]; rfl

def putR (r : Row) : List Row → List Row
  | [] => [r]
  | y :: ys => if ltK (rK r) (rK y) = true then r :: y :: ys else if rK y = rK r then ⟨r.Key, r.Val, ⟨r.At.A, r.At.B⟩, ar .add .i64 r.Diff y.Diff⟩ :: ys else y :: putR r ys
theorem chR_putR (r : Row) : ∀ ys : List Row, chR (putR r ys) = insP (rK r, r.Diff) (chR ys)
  | [] => rfl
  | y :: ys => by
    simp only [putR, chR, List.map_cons, insP]
    split
    · rfl
    · split
      · rfl
      · have := chR_putR r ys
        unfold chR at this
        rw [List.map_cons, this]
theorem putR_len (r : Row) : ∀ ys : List Row, (putR r ys).length ≤ ys.length + 1
  | [] => Nat.le_refl _
  | y :: ys => by
    have := putR_len r ys
    simp only [putR]
    split
    · simp
    · split <;> simp <;> omega

theorem l2Put_ok (xs : List Row) (r : Row) (hl : xs.length < 1000000000000) : p_spec_l2Put xs r ∧ v_spec_l2Put xs r = putR r xs := by
  suffices key : ∃ q, Runs (fun s => ocLp ((fun (s : Int × (List Row) × Bool × Int) => spec_l2Put_c2_r xs r s.1 s.2.1 s.2.2.1 s.2.2.2) s)) (fun s => spec_l2Put_c2_r_ob xs r s.1 s.2.1 s.2.2.1 s.2.2.2) (r.Diff, [], false, 0) q ∧
      ∃ d out done, q = .x (d, out, done) ∧ out.length ≤ xs.length + 1 ∧ ((done = false ∧ out ++ [⟨r.Key, r.Val, ⟨r.At.A, r.At.B⟩, d⟩] = putR r xs) ∨ (done = true ∧ out = putR r xs)) by
    obtain ⟨q, h1, h2⟩ := key
    obtain ⟨d, out, done, rfl, hlo, hd⟩ := h2
    have hc2 : spec_l2Put_c2 xs r = .x (d, out, done) := h1.v
    have ho2 : spec_l2Put_c2_ob xs r := h1.t
    have hlim : ∀ y : Row, lim (lenI .row out) (lenI .row [y]) := fun y => by simp [lim, lenI]; omega
    unfold p_spec_l2Put v_spec_l2Put spec_l2Put_b_ob spec_l2Put_b spec_l2Put_c1_ob spec_l2Put_c1
    rw [hc2]
    rcases hd with ⟨rfl, hd⟩ | ⟨rfl, hd⟩
    · simp only [spec_l2Put_c5, spec_l2Put_c5_ob, Bool.not_false, ocR]
      exact ⟨by simp [ho2, hlim], hd⟩
    · simp only [spec_l2Put_c5, spec_l2Put_c5_ob, Bool.not_true, ocR]
      exact ⟨by simp [ho2], hd⟩
  refine Runs.list
    xs (fun i (b : Int × List Row × Bool) => (b.1, b.2.1, b.2.2, (i : Int)))
    (fun l b => b.2.1.length ≤ l.length + 1 ∧ ((b.2.2 = false ∧ b.1 = r.Diff ∧ b.2.1 = l ∧ ∀ rest, putR r (l ++ rest) = l ++ putR r rest) ∨ (b.2.2 = true ∧ ∀ rest, putR r (l ++ rest) = b.2.1 ++ rest)))
    (b0 := (r.Diff, [], false)) rfl ⟨by simp, .inl ⟨rfl, rfl, rfl, fun _ => rfl⟩⟩ ?_ ?_
  · rintro l x rest ⟨d, out, done⟩ hx ⟨hlo, hI⟩
    have hlen : xs.length = l.length + (rest.length + 1) := by rw [hx]; simp
    have hrd : rd .row xs (l.length : Int) = x := by rw [hx]; exact rd_mid
    have hin : inb (l.length : Int) (lenI .row xs) := by rw [hx]; exact inb_mid (t := .row)
    have hlss : cmp .lss (l.length : Int) (lenI .row xs) = true := by rw [hx]; exact lss_mid
    have hlim : ∀ (o : List Row) (y : Row), o.length ≤ out.length + 1 → lim (lenI .row o) (lenI .row [y]) := fun o y ho => by simp only [lim, lenI, List.length_singleton] at *; omega
    have hrk : ∀ d, rK (Row.mk r.Key r.Val (Time.mk r.At.A r.At.B) d) = rK r := fun _ => rfl
    obtain ⟨pc, vc⟩ := l2Comp_ok x (Row.mk r.Key r.Val (Time.mk r.At.A r.At.B) d)
    rw [hrk] at vc
    have hlo : out.length ≤ l.length + 1 := hlo
    show spec_l2Put_c2_r_ob xs r d out done (l.length : Int) ∧ ((∃ b', ocLp (spec_l2Put_c2_r xs r d out done (l.length : Int)) = _ ∧ _) ∨ _)
    unfold spec_l2Put_c2_r_ob spec_l2Put_c2_r spec_l2Put_c3_ob spec_l2Put_c3 spec_l2Put_c4_ob spec_l2Put_c4
    rw [hlss, hrd, succ_mid (l := l) (by omega)]
    generalize hc : v_spec_l2Comp x (Row.mk r.Key r.Val (Time.mk r.At.A r.At.B) d) = c at vc
    have hi0 := hlim out x (by omega)
    have hi1 := fun y => hlim out y (by omega)
    have hi2 := fun y z => hlim (out ++ [y]) z (by simp)
    rcases hI with ⟨rfl, h2, h3, h4⟩ | ⟨rfl, h4⟩
    · have h2 : d = r.Diff := h2
      have h3 : out = l := h3
      subst h2 h3
      by_cases k1 : ltK (rK x) (rK r) = true
      · rw [if_pos k1] at vc
        subst vc
        refine ⟨by simp [cmp_gtr', cmp_eql', hin, pc, hi1], .inl ⟨(r.Diff, out ++ [x], false), by simp [cmp_gtr', cmp_eql', ocLp], ?_⟩⟩
        refine ⟨by simp, .inl ⟨rfl, rfl, rfl, fun rest => ?_⟩⟩
        rw [List.append_assoc, h4]
        have n1 : ¬ ltK (rK r) (rK x) = true := fun h => by have := ltK_trans k1 h; rw [ltK_irrefl] at this; cases this
        have n2 : ¬ rK x = rK r := fun h => by rw [h, ltK_irrefl] at k1; cases k1
        show out ++ putR r (x :: rest) = _
        simp [putR, n1, n2]
      · rw [if_neg k1] at vc
        by_cases k2 : ltK (rK r) (rK x) = true
        · rw [if_pos k2] at vc
          subst vc
          refine ⟨by simp [cmp_gtr', cmp_eql', hin, pc, hi1, hi2], .inl ⟨(r.Diff, out ++ [r] ++ [x], true), by simp [cmp_gtr', cmp_eql', ocLp], ?_⟩⟩
          refine ⟨by simp, .inr ⟨rfl, fun rest => ?_⟩⟩
          rw [List.append_assoc, h4]
          show out ++ putR r (x :: rest) = _
          simp [putR, k2]
        · rw [if_neg k2] at vc
          subst vc
          have he : rK x = rK r := by
            by_cases e : rK x = rK r
            · exact e
            · rcases ltK_total (a := rK x) (b := rK r) rfl e with h | h
              · exact absurd h k1
              · exact absurd h k2
          refine ⟨by simp [cmp_gtr', cmp_eql', hin, pc, hi1], .inl ⟨(ar .add .i64 r.Diff x.Diff, out ++ [⟨r.Key, r.Val, ⟨r.At.A, r.At.B⟩, ar .add .i64 r.Diff x.Diff⟩], true), by simp [cmp_gtr', cmp_eql', ocLp], ?_⟩⟩
          refine ⟨by simp, .inr ⟨rfl, fun rest => ?_⟩⟩
          rw [List.append_assoc, h4]
          show out ++ putR r (x :: rest) = _
          simp [putR, he, ltK_irrefl]
    · refine ⟨by simp [hin, pc, hi1], .inl ⟨(d, out ++ [x], true), by simp [ocLp], ?_⟩⟩
      refine ⟨by simp; omega, .inr ⟨rfl, fun rest => ?_⟩⟩
      rw [List.append_assoc, h4]
      simp
  · rintro ⟨d, out, done⟩ ⟨hlo, hI⟩
    have hlss : cmp .lss (xs.length : Int) (lenI .row xs) = false := lss_end
    show spec_l2Put_c2_r_ob xs r d out done (xs.length : Int) ∧ ∃ q, ocLp (spec_l2Put_c2_r xs r d out done (xs.length : Int)) = _ ∧ _
    unfold spec_l2Put_c2_r_ob spec_l2Put_c2_r
    rw [hlss]
    refine ⟨by simp, _, rfl, d, out, done, rfl, hlo, ?_⟩
    rcases hI with ⟨h1, h2, h3, h4⟩ | ⟨h1, h4⟩
    · have h2 : d = r.Diff := h2
      have h3 : out = xs := h3
      have := h4 []
      rw [List.append_nil] at this
      exact .inl ⟨h1, by rw [h2, h3, this]; rfl⟩
    · have := h4 []
      rw [List.append_nil, List.append_nil] at this
      exact .inr ⟨h1, this.symm⟩

theorem chR_foldl (xs : List Row) : ∀ s : List Row, chR (xs.foldl (fun s x => putR x s) s) = (chR xs).foldl (fun m q => insP q m) (chR s) := by
  induction xs with
  | nil => exact fun _ => rfl
  | cons x r ih =>
    intro s
    rw [List.foldl_cons, ih, chR_putR]; rfl
theorem foldl_putR_len (xs : List Row) : ∀ s : List Row, (xs.foldl (fun s x => putR x s) s).length ≤ s.length + xs.length := by
  induction xs with
  | nil => exact fun _ => by simp
  | cons x r ih =>
    intro s
    have h1 := ih (putR x s)
    have h2 := putR_len x s
    rw [List.foldl_cons, List.length_cons]
    omega

/-- Numbers that fit. -/
def InR (n : Int) : Prop := -9223372036854775808 ≤ n ∧ n ≤ 9223372036854775807
theorem putR_gathR {xs : List Row} (hr : ∀ x ∈ xs, InR x.Diff) : (xs.foldl (fun s x => putR x s) []).filter (fun x => x.Diff != 0) = gathR xs := by
  have h1 : chR (xs.foldl (fun s x => putR x s) []) = accP (chR xs) := chR_foldl xs []
  have h2 := accP_gathM (chR_keyd xs) (fun q hq => by
    obtain ⟨r, hr', rfl⟩ := List.mem_map.1 hq
    exact IntWalk.i64_in _ (hr r hr'))
  have h3 : ((chR (xs.foldl (fun s x => putR x s) [])).filter (fun p => p.2 != 0)).map mkR = ((accP (chR xs)).filter (fun p => p.2 != 0)).map mkR := by rw [h1]
  rw [h2] at h3
  unfold gathR
  rw [← h3]
  unfold chR
  rw [List.filter_map, List.map_map]
  exact ((List.map_congr_left fun x _ => rfl).trans (List.map_id _)).symm

theorem gathR_len {xs : List Row} (hr : ∀ x ∈ xs, InR x.Diff) : (gathR xs).length ≤ xs.length := by
  rw [← putR_gathR hr]
  have := foldl_putR_len xs []
  have h2 := List.length_filter_le (fun x : Row => x.Diff != 0) (xs.foldl (fun s x => putR x s) [])
  simp at this
  omega

theorem l2Sum_ok (xs : List Row) (hl : xs.length < 1000000000) (hr : ∀ x ∈ xs, InR x.Diff) : p_spec_l2Sum xs ∧ v_spec_l2Sum xs = gathR xs := by
  have k2 : Runs (fun s => ocLp ((fun (s : (List Row) × Int) => spec_l2Sum_c2_r xs s.1 s.2) s)) (fun s => spec_l2Sum_c2_r_ob xs s.1 s.2) ([], 0) (.x (xs.foldl (fun s x => putR x s) [])) := by
    refine Runs.fold xs (fun i b => (b, (i : Int))) (fun l => l.foldl (fun s x => putR x s) []) rfl (fun l x r hx => ?_) ?_
    · have hlen : xs.length = l.length + (r.length + 1) := by rw [hx]; simp
      have hfl := foldl_putR_len l []
      simp at hfl
      obtain ⟨p1, p2⟩ := l2Put_ok (l.foldl (fun s x => putR x s) []) x (by omega)
      have hrd : rd .row xs (l.length : Int) = x := by rw [hx]; exact rd_mid
      have hin : inb (l.length : Int) (lenI .row xs) := by rw [hx]; exact inb_mid (t := .row)
      have hlss : cmp .lss (l.length : Int) (lenI .row xs) = true := by rw [hx]; exact lss_mid
      simp only [spec_l2Sum_c2_r_ob, spec_l2Sum_c2_r, hlss, hrd, succ_mid (l := l) (by omega), p2]
      exact ⟨by simp [hin, p1], by simp [ocLp]⟩
    · have hend : cmp .lss (xs.length : Int) (lenI .row xs) = false := lss_end (t := .row)
      simp only [spec_l2Sum_c2_r_ob, spec_l2Sum_c2_r, hend]
      exact ⟨by simp, rfl⟩
  have hfl := foldl_putR_len xs []
  simp at hfl
  generalize hys : xs.foldl (fun s x => putR x s) [] = ys at k2 hfl
  have k4 : Runs (fun s => ocLp ((fun (s : (List Row) × Int) => spec_l2Sum_c4_r ys s.1 s.2) s)) (fun s => spec_l2Sum_c4_r_ob ys s.1 s.2) ([], 0) (.x (ys.filter (fun x => x.Diff != 0))) := by
    refine Runs.fold ys (fun i b => (b, (i : Int))) (fun l => l.filter (fun x => x.Diff != 0)) rfl (fun l x r hx => ?_) ?_
    · have hlen : ys.length = l.length + (r.length + 1) := by rw [hx]; simp
      have hfl := List.length_filter_le (fun x : Row => x.Diff != 0) l
      have hrd : rd .row ys (l.length : Int) = x := by rw [hx]; exact rd_mid
      have hin : inb (l.length : Int) (lenI .row ys) := by rw [hx]; exact inb_mid (t := .row)
      have hlss : cmp .lss (l.length : Int) (lenI .row ys) = true := by rw [hx]; exact lss_mid
      have hlim : lim (lenI .row (l.filter (fun x => x.Diff != 0))) (lenI .row [x]) := lim_one (t := .row) (show (l.filter (fun x : Row => x.Diff != 0)).length < 1099511627776 by omega)
      simp only [spec_l2Sum_c4_r_ob, spec_l2Sum_c4_r, spec_l2Sum_c5_ob, spec_l2Sum_c5, hlss, hrd, succ_mid (l := l) (by omega), cmp_neq']
      by_cases h0 : x.Diff = 0
      · simp only [h0, decide_true, Bool.not_true]
        exact ⟨by simp [hin], by simp [ocLp, h0, List.filter_append]⟩
      · simp only [h0, decide_false, Bool.not_false]
        exact ⟨by simp [hin, hlim], by simp [ocLp, h0, List.filter_append]⟩
    · have hend : cmp .lss (ys.length : Int) (lenI .row ys) = false := lss_end (t := .row)
      simp only [spec_l2Sum_c4_r_ob, spec_l2Sum_c4_r, hend]
      exact ⟨by simp, rfl⟩
  have a2 : spec_l2Sum_c2 xs = .x ys := k2.v
  have b2 : spec_l2Sum_c2_ob xs := k2.t
  have a4 : spec_l2Sum_c4 ys = .x (ys.filter (fun x => x.Diff != 0)) := k4.v
  have b4 : spec_l2Sum_c4_ob ys := k4.t
  rw [← putR_gathR hr, hys]
  simp only [p_spec_l2Sum, v_spec_l2Sum, spec_l2Sum_b_ob, spec_l2Sum_b, spec_l2Sum_c1_ob, spec_l2Sum_c1, spec_l2Sum_c3_ob, spec_l2Sum_c3, a2, a4, ocR]
  exact ⟨by simp [b2, b4], trivial⟩

def itR (x : Item) : Row := ⟨x.Key, x.Val, ⟨0, 0⟩, x.Count⟩
def rIt (x : Row) : Item := ⟨x.Key, x.Val, x.Diff⟩
theorem ltK_snoc : ∀ (a b : List Int), a.length = b.length → ltK (a ++ [0]) (b ++ [0]) = ltK a b
  | [], [], _ => by simp [ltK]
  | a :: r, b :: r', h => by simp only [List.cons_append, ltK]; rw [ltK_snoc r r' (by simpa using h)]
  | [], _ :: _, h => by simp at h
  | _ :: _, [], h => by simp at h

theorem chI_keyd (xs : List Item) : Keyd 3 (chI xs) := by
  intro p hp
  obtain ⟨r, _, rfl⟩ := List.mem_map.1 hp
  rfl
theorem gathI_key {xs : List Item} {p : List Int × Int} (hp : p ∈ gathM (chI xs)) : ∃ x ∈ xs, p.1 = kI x := by
  obtain ⟨h1, h2⟩ := mem_gathM.1 hp
  obtain ⟨q, hq, e⟩ := sumK_key (h1 ▸ h2)
  obtain ⟨x, hx, rfl⟩ := List.mem_map.1 hq
  exact ⟨x, hx, e.symm⟩
theorem gathR_itR (xs : List Item) : (gathR (xs.map itR)).map rIt = gathI xs := by
  have h1 : chR (xs.map itR) = (chI xs).map fun q => (q.1 ++ [0], q.2) := by
    unfold chR chI
    rw [List.map_map, List.map_map]
    rfl
  unfold gathR gathI
  rw [h1, gathM_map (n := 3) (m := 4) (f := fun k => k ++ [0]) (fun a b h => List.append_cancel_right h) (fun k h => by simp [h]) (fun a b ha hb => ltK_snoc a b (ha.trans hb.symm)) (chI_keyd xs), List.map_map, List.map_map]
  refine List.map_congr_left fun p hp => ?_
  obtain ⟨x, _, e⟩ := gathI_key hp
  show rIt (mkR (p.1 ++ [0], p.2)) = mkI p
  obtain ⟨k, d⟩ := p
  have e : k = kI x := e
  subst e
  rfl

theorem l2Items_ok (xs : List Item) (hl : xs.length < 100000000) (hr : ∀ x ∈ xs, InR x.Count) : p_spec_l2Items xs ∧ v_spec_l2Items xs = gathI xs := by
  have k2 : Runs (fun s => ocLp ((fun (s : (List Row) × Int) => spec_l2Items_c2_r xs s.1 s.2) s)) (fun s => spec_l2Items_c2_r_ob xs s.1 s.2) ([], 0) (.x (xs.map itR)) := by
    refine Runs.fold xs (fun i b => (b, (i : Int))) (fun l => l.map itR) rfl (fun l x r hx => ?_) ?_
    · have hlen : xs.length = l.length + (r.length + 1) := by rw [hx]; simp
      have hrd : rd .item xs (l.length : Int) = x := by rw [hx]; exact rd_mid
      have hin : inb (l.length : Int) (lenI .item xs) := by rw [hx]; exact inb_mid (t := .item)
      have hlss : cmp .lss (l.length : Int) (lenI .item xs) = true := by rw [hx]; exact lss_mid
      have hlim : ∀ y, lim (lenI .row (l.map itR)) (lenI .row [y]) := fun y => by simp only [lim, lenI, List.length_singleton, List.length_map]; omega
      simp only [spec_l2Items_c2_r_ob, spec_l2Items_c2_r, hlss, hrd, succ_mid (l := l) (by omega)]
      exact ⟨by simp [hin, hlim], by simp [ocLp, itR]⟩
    · have hend : cmp .lss (xs.length : Int) (lenI .item xs) = false := lss_end (t := .item)
      simp only [spec_l2Items_c2_r_ob, spec_l2Items_c2_r, hend]
      exact ⟨by simp, rfl⟩
  have hr' : ∀ y ∈ xs.map itR, InR y.Diff := by
    intro y hy
    obtain ⟨x, hx, rfl⟩ := List.mem_map.1 hy
    exact hr x hx
  obtain ⟨p1, p2⟩ := l2Sum_ok (xs.map itR) (by simp; omega) hr'
  have hgl := gathR_len hr'
  rw [List.length_map] at hgl
  generalize hys : gathR (xs.map itR) = ys at p2 hgl
  have k4 : Runs (fun s => ocLp ((fun (s : (List Item) × Int) => spec_l2Items_c4_r ys s.1 s.2) s)) (fun s => spec_l2Items_c4_r_ob ys s.1 s.2) ([], 0) (.x (ys.map rIt)) := by
    refine Runs.fold ys (fun i b => (b, (i : Int))) (fun l => l.map rIt) rfl (fun l x r hx => ?_) ?_
    · have hlen : ys.length = l.length + (r.length + 1) := by rw [hx]; simp
      have hrd : rd .row ys (l.length : Int) = x := by rw [hx]; exact rd_mid
      have hin : inb (l.length : Int) (lenI .row ys) := by rw [hx]; exact inb_mid (t := .row)
      have hlss : cmp .lss (l.length : Int) (lenI .row ys) = true := by rw [hx]; exact lss_mid
      have hlim : ∀ y, lim (lenI .item (l.map rIt)) (lenI .item [y]) := fun y => by simp only [lim, lenI, List.length_singleton, List.length_map]; omega
      simp only [spec_l2Items_c4_r_ob, spec_l2Items_c4_r, hlss, hrd, succ_mid (l := l) (by omega)]
      exact ⟨by simp [hin, hlim], by simp [ocLp, rIt]⟩
    · have hend : cmp .lss (ys.length : Int) (lenI .row ys) = false := lss_end (t := .row)
      simp only [spec_l2Items_c4_r_ob, spec_l2Items_c4_r, hend]
      exact ⟨by simp, rfl⟩
  have a2 : spec_l2Items_c2 xs = .x (xs.map itR) := k2.v
  have b2 : spec_l2Items_c2_ob xs := k2.t
  have a4 : spec_l2Items_c4 ys = .x (ys.map rIt) := k4.v
  have b4 : spec_l2Items_c4_ob ys := k4.t
  rw [← gathR_itR, hys]
  simp only [p_spec_l2Items, v_spec_l2Items, spec_l2Items_b_ob, spec_l2Items_b, spec_l2Items_c1_ob, spec_l2Items_c1, spec_l2Items_c3_ob, spec_l2Items_c3, a2, p2, a4, ocR]
  exact ⟨by simp [b2, b4, p1, p2], trivial⟩
end Go.Proofs.Ytopcofkpggefkaa

namespace Go.Proofs.Ytopcofkpggefkaa
open Go

def sumT : List (List Int × Int) → List Int → Int
  | [], _ => 0
  | q :: r, k => (if q.1 = k then q.2 else 0) + sumT r k
def absT : List (List Int × Int) → Int
  | [] => 0
  | q :: r => (if 0 ≤ q.2 then q.2 else -q.2) + absT r
theorem absT_nonneg : ∀ l, 0 ≤ absT l
  | [] => Int.le_refl _
  | q :: r => by have := absT_nonneg r; simp only [absT]; split <;> omega
theorem sumT_le : ∀ l k, sumT l k ≤ absT l ∧ -absT l ≤ sumT l k
  | [], k => by simp [sumT, absT]
  | q :: r, k => by
    have := sumT_le r k
    simp only [absT, sumT]
    split <;> split <;> omega
theorem sumK_eq {l : List (List Int × Int)} (h : absT l ≤ 1000000000000000) (k : List Int) : sumK l k = sumT l k := by
  suffices ∀ (l : List (List Int × Int)) (s B : Int), B + absT l ≤ 1000000000000000 → s ≤ B ∧ -B ≤ s → l.foldl (fun s q => if q.1 = k then ar .add .i64 s q.2 else s) s = s + sumT l k by
    have := this l 0 0 (by omega) (by omega)
    unfold sumK
    rw [this, Int.zero_add]
  intro l
  induction l with
  | nil => intro s B _ _; simp [sumT]
  | cons q r ih =>
    intro s B h1 h2
    have hn := absT_nonneg r
    simp only [absT] at h1
    rw [List.foldl_cons]
    have key : ∀ t : Int, (if q.1 = k then ar .add .i64 s q.2 else s) = t → (t = s + (if q.1 = k then q.2 else 0)) → (r.foldl (fun s q => if q.1 = k then ar .add .i64 s q.2 else s) (if q.1 = k then ar .add .i64 s q.2 else s)) = s + sumT (q :: r) k := by
      intro t h3 h4
      rw [h3, ih t (B + (if 0 ≤ q.2 then q.2 else -q.2)) (by split at h1 <;> split <;> omega) (by split at h4 <;> split <;> omega), h4]
      simp only [sumT]
      omega
    refine key _ rfl ?_
    by_cases hq : q.1 = k
    · rw [if_pos hq, if_pos hq, ar_add]
      split at h1 <;> omega
    · rw [if_neg hq, if_neg hq, Int.add_zero]

/-- Counts that are at most 'c'. -/
def Small (c : Int) (xs : List Item) : Prop := ∀ x ∈ xs, -c ≤ x.Count ∧ x.Count ≤ c
theorem absT_chI {c : Int} : ∀ {xs : List Item}, Small c xs → absT (chI xs) ≤ (xs.length : Int) * c
  | [], _ => by simp [chI, absT]
  | x :: r, h => by
    have h1 := absT_chI (xs := r) (fun y hy => h y (by simp [hy]))
    have h2 := h x (by simp)
    show (if 0 ≤ x.Count then x.Count else -x.Count) + absT (chI r) ≤ _
    rw [List.length_cons, Int.natCast_add, Int.add_mul]
    split <;> omega
theorem gathI_small {c : Int} {xs : List Item} (h : Small c xs) (hb : (xs.length : Int) * c ≤ 1000000000000) : Small ((xs.length : Int) * c) (gathI xs) := by
  intro y hy
  obtain ⟨p, hp, rfl⟩ := List.mem_map.1 hy
  obtain ⟨x, _, e⟩ := gathI_key hp
  obtain ⟨h1, _⟩ := mem_gathM.1 hp
  have h2 := absT_chI h
  have hc : (mkI p).Count = p.2 := by
    obtain ⟨k, d⟩ := p
    have e : k = kI x := e
    subst e; rfl
  rw [hc, h1, sumK_eq (by omega)]
  have := sumT_le (chI xs) p.1
  omega
theorem gathI_len {xs : List Item} (h : ∀ x ∈ xs, InR x.Count) : (gathI xs).length ≤ xs.length := by
  rw [← gathR_itR, List.length_map]
  have := gathR_len (xs := xs.map itR) (fun y hy => by obtain ⟨x, hx, rfl⟩ := List.mem_map.1 hy; exact h x hx)
  simpa using this
theorem Small.inR {c : Int} {xs : List Item} (h : Small c xs) (hc : c ≤ 1000000000000) : ∀ x ∈ xs, InR x.Count := fun x hx => by
  have := h x hx
  unfold InR; omega

theorem l6In_p (a b c : Int) : p_spec_l6In a b c := ⟨trivial, trivial, trivial⟩
theorem l6In_v (a b c : Int) : v_spec_l6In a b c = (decide (b ≤ a) && decide (a ≤ c)) := by
  show cond (cmp .geq a b) (cmp .leq a c) false = _
  rw [cmp_geq', cmp_leq']
  cases decide (b ≤ a) <;> rfl
theorem TimeOk_p (t : Time) : p_spec_TimeOk t := ⟨trivial, ⟨l6In_p _ _ _, fun _ => l6In_p _ _ _, trivial⟩, trivial⟩
theorem TimeLess_p (s t : Time) : p_spec_TimeLess s t := ⟨trivial, ⟨TimeOk_p _, fun _ => TimeOk_p _, trivial⟩, trivial⟩
theorem l2Row_p (r : Row) : p_spec_l2Row r := ⟨trivial, ⟨l6In_p _ _ _, fun _ => l6In_p _ _ _, fun _ => TimeOk_p _, fun _ => l6In_p _ _ _, trivial⟩, trivial⟩

theorem RowsOk_p (xs : List Row) (hl : xs.length < 1000000) : p_spec_RowsOk xs := by
  have key : ∃ q, Runs (fun s => ocLp ((fun (s : Int) => spec_RowsOk_c2_r xs s) s)) (fun s => spec_RowsOk_c2_r_ob xs s) 0 q ∧ (q = .r false ∨ q = .x ()) := by
    refine Runs.list xs (fun i (_ : Unit) => (i : Int)) (fun _ _ => True) (b0 := ()) rfl trivial ?_ ?_
    · rintro l x r ⟨⟩ hx -
      have hlen : xs.length = l.length + (r.length + 1) := by rw [hx]; simp
      have hrd : rd .row xs (l.length : Int) = x := by rw [hx]; exact rd_mid
      have hin : inb (l.length : Int) (lenI .row xs) := by rw [hx]; exact inb_mid (t := .row)
      have hlss : cmp .lss (l.length : Int) (lenI .row xs) = true := by rw [hx]; exact lss_mid
      simp only [spec_RowsOk_c2_r_ob, spec_RowsOk_c2_r, hlss, hrd, succ_mid (l := l) (by omega)]
      refine ⟨by simp [hin, l2Row_p], ?_⟩
      cases v_spec_l2Row x with
      | true => exact .inl ⟨(), rfl, trivial⟩
      | false => exact .inr ⟨_, rfl, .inl rfl⟩
    · rintro ⟨⟩ -
      have hend : cmp .lss (xs.length : Int) (lenI .row xs) = false := lss_end (t := .row)
      simp only [spec_RowsOk_c2_r_ob, spec_RowsOk_c2_r, hend]
      exact ⟨by simp, _, rfl, .inr rfl⟩
  obtain ⟨q, h1, h2⟩ := key
  have b2 : spec_RowsOk_c2_ob xs := h1.t
  simp [p_spec_RowsOk, spec_RowsOk_b_ob, spec_RowsOk_c1_ob, b2]

theorem BatchAt_ok (xs : List Row) (t : Time) (hl : xs.length ≤ 1000) (hd : ∀ x ∈ xs, -3 ≤ x.Diff ∧ x.Diff ≤ 3) :
    p_spec_BatchAt xs t ∧ (v_spec_BatchAt xs t).length ≤ xs.length ∧ Small (3 * xs.length) (v_spec_BatchAt xs t) := by
  have key : ∃ q, Runs (fun s => ocLp ((fun (s : (List Item) × Int) => spec_BatchAt_c2_r xs t s.1 s.2) s)) (fun s => spec_BatchAt_c2_r_ob xs t s.1 s.2) ([], 0) q ∧
      ∃ ys : List Item, q = .x ys ∧ ys.length ≤ xs.length ∧ Small 3 ys := by
    refine Runs.list xs (fun i (b : List Item) => (b, (i : Int))) (fun l b => b.length ≤ l.length ∧ Small 3 b) (b0 := []) rfl ⟨by simp, fun x hx => by simp at hx⟩ ?_ ?_
    · rintro l x r b hx ⟨i1, i2⟩
      have hlen : xs.length = l.length + (r.length + 1) := by rw [hx]; simp
      have hrd : rd .row xs (l.length : Int) = x := by rw [hx]; exact rd_mid
      have hin : inb (l.length : Int) (lenI .row xs) := by rw [hx]; exact inb_mid (t := .row)
      have hlss : cmp .lss (l.length : Int) (lenI .row xs) = true := by rw [hx]; exact lss_mid
      have hlim : ∀ y, lim (lenI .item b) (lenI .item [y]) := fun y => lim_one (t := .item) (show b.length < 1099511627776 by omega)
      have hxd := hd x (by rw [hx]; simp)
      simp only [spec_BatchAt_c2_r_ob, spec_BatchAt_c2_r, spec_BatchAt_c3_ob, spec_BatchAt_c3, hlss, hrd, succ_mid (l := l) (by omega)]
      cases hv : v_spec_TimeLess x.At t with
      | true =>
        refine ⟨by simp [hin, hlim, TimeLess_p], .inl ⟨b ++ [⟨x.Key, x.Val, x.Diff⟩], by simp [ocLp], by simp; omega, fun y hy => ?_⟩⟩
        rcases List.mem_append.1 hy with h | h
        · exact i2 y h
        · simp at h; subst h; exact hxd
      | false => exact ⟨by simp [hin, hlim, TimeLess_p], .inl ⟨b, by simp [ocLp], by simp; omega, i2⟩⟩
    · rintro b ⟨i1, i2⟩
      have hend : cmp .lss (xs.length : Int) (lenI .row xs) = false := lss_end (t := .row)
      simp only [spec_BatchAt_c2_r_ob, spec_BatchAt_c2_r, hend]
      exact ⟨by simp, _, rfl, b, rfl, i1, i2⟩
  obtain ⟨q, h1, ys, rfl, h2, h3⟩ := key
  have a2 : spec_BatchAt_c2 xs t = .x ys := h1.v
  have b2 : spec_BatchAt_c2_ob xs t := h1.t
  have hinr := h3.inR (by omega)
  obtain ⟨p1, p2⟩ := l2Items_ok ys (by omega) hinr
  have hgl := gathI_len hinr
  have hgs := gathI_small h3 (by omega)
  simp only [p_spec_BatchAt, v_spec_BatchAt, spec_BatchAt_b_ob, spec_BatchAt_b, spec_BatchAt_c1_ob, spec_BatchAt_c1, a2, p2]
  refine ⟨by simp [RowsOk_p xs (by omega), TimeOk_p, b2, p1], ?_⟩
  cases (cond (!(v_spec_RowsOk xs)) true (!(v_spec_TimeOk t))) with
  | true => exact ⟨by simp [ocR], fun x hx => by simp [ocR] at hx⟩
  | false => exact ⟨Nat.le_trans hgl h2, fun x hx => by have := hgs x hx; omega⟩

theorem l71Rows_c4_ok {b : List Int} (hb : RdOk b) {p n : Int} (hp : 0 ≤ p ∧ p ≤ 700000) {out : List Row} (hl : out.length ≤ 1000) (hd : ∀ x ∈ out, -3 ≤ x.Diff ∧ x.Diff ≤ 3) {x : Row} (hx : -3 ≤ x.Diff ∧ x.Diff ≤ 3) :
    spec_l71Rows_c4_ob b p out n x ∧ ∃ p' k v d, spec_l71Rows_c4 b p out n x = .n (p', k, v, d) ∧ p ≤ p' ∧ p' ≤ p + 3 ∧ -3 ≤ d ∧ d ≤ 3 := by
  have hL : lenI .row out = (out.length : Int) := rfl
  unfold spec_l71Rows_c4_ob spec_l71Rows_c4
  simp only [hL, cmp_gtr', cmp_eql']
  by_cases h0 : 0 < (out.length : Int)
  · obtain ⟨a1, a2, a3, a4⟩ := pick_ok hb (p := p) (n := 3) (by omega) (by omega)
    obtain ⟨b1, b2, b3, b4⟩ := pick_ok hb (p := p + 1) (n := (out.length : Int)) (by omega) (by omega)
    obtain ⟨c1, c2, c3, c4⟩ := pick_ok hb (p := p + 1 + 1) (n := 2) (by omega) (by omega)
    have hin : inb (v_spec_l6Rd_pick (b, p + 1) (out.length : Int)).1 (out.length : Int) := ⟨b3, b4⟩
    have hy : -3 ≤ (rd .row out (v_spec_l6Rd_pick (b, p + 1) (out.length : Int)).1).Diff ∧ (rd .row out (v_spec_l6Rd_pick (b, p + 1) (out.length : Int)).1).Diff ≤ 3 := by
      have hlt : (v_spec_l6Rd_pick (b, p + 1) (out.length : Int)).1.toNat < out.length := by omega
      have he : rd .row out (v_spec_l6Rd_pick (b, p + 1) (out.length : Int)).1 = out[(v_spec_l6Rd_pick (b, p + 1) (out.length : Int)).1.toNat] := by
        show out.getD _ _ = _
        rw [List.getD_eq_getElem?_getD, List.getElem?_eq_getElem hlt]; rfl
      rw [he]
      exact hd _ (List.getElem_mem _)
    simp only [h0, decide_true, Bool.and_true, cond_true, a2, b2]
    by_cases e1 : (v_spec_l6Rd_pick (b, p) 3).1 = 0
    · simp only [e1, decide_true]
      by_cases e2 : (v_spec_l6Rd_pick (b, p + 1 + 1) 2).1 = 0
      · simp only [e2, decide_true]
        refine ⟨by simp [a1, b1, c1, hin], _, _, _, _, rfl, by omega, by omega, ?_⟩
        rw [IntWalk.i64_in _ (by omega)]
        omega
      · simp only [e2, decide_false]
        exact ⟨by simp [a1, b1, c1, hin], _, _, _, _, rfl, by omega, by omega, hx⟩
    · simp only [e1, decide_false]
      exact ⟨by simp [a1], _, _, _, _, rfl, by omega, by omega, hx⟩
  · simp only [h0, decide_false, Bool.false_and, cond_false]
    exact ⟨by simp, _, _, _, _, rfl, by omega, by omega, hx⟩

/-- A loop that counts down. -/
theorem Runs.down {σ ρ β : Type} [Inhabited ρ] {step : σ → Lp σ ρ} {ob : σ → Prop} (st : Nat → β → σ) (I : Nat → β → Prop) {Q : ρ → Prop} {n0 : Nat} {b0 : β} {s0 : σ} (hs : st n0 b0 = s0) (h0 : I n0 b0)
    (hgo : ∀ n b, n + 1 ≤ n0 → I (n + 1) b → ob (st (n + 1) b) ∧ ∃ b', step (st (n + 1) b) = .go (st n b') ∧ I n b')
    (hout : ∀ b, I 0 b → ob (st 0 b) ∧ ∃ q, step (st 0 b) = .out q ∧ Q q) : ∃ q, Runs step ob s0 q ∧ Q q := by
  subst hs
  suffices ∀ (n : Nat) (b : β), n ≤ n0 → I n b → ∃ q, Runs step ob (st n b) q ∧ Q q from this n0 b0 (Nat.le_refl _) h0
  intro n
  induction n with
  | zero =>
    intro b _ hI
    obtain ⟨ho, q, h1, h2⟩ := hout b hI
    exact ⟨q, .out ho h1, h2⟩
  | succ n ih =>
    intro b hn hI
    obtain ⟨ho, b', h1, h2⟩ := hgo n b hn hI
    obtain ⟨q, hq, hQ⟩ := ih b' (by omega) h2
    exact ⟨q, .go ho h1 hq, hQ⟩

theorem l71Rows_ok {b : List Int} (hb : RdOk b) {p m : Int} (hp : 0 ≤ p ∧ p ≤ 500000) (hm : 0 ≤ m ∧ m ≤ 100) :
    p_spec_l71Rows (b, p) m ∧ p ≤ (v_spec_l71Rows (b, p) m).2 ∧ (v_spec_l71Rows (b, p) m).2 ≤ p + 1 + 9 * m ∧ ((v_spec_l71Rows (b, p) m).1.length : Int) ≤ m ∧ ∀ x ∈ (v_spec_l71Rows (b, p) m).1, -3 ≤ x.Diff ∧ x.Diff ≤ 3 := by
  have h1 : ar .add .i64 m 1 = m + 1 := ar_add (by omega)
  obtain ⟨a1, a2, a3, a4⟩ := pick_ok hb (p := p) (n := m + 1) (by omega) (by omega)
  generalize hn : (v_spec_l6Rd_pick (b, p) (m + 1)).1 = n at a3 a4
  obtain ⟨n0, rfl⟩ : ∃ n0 : Nat, n = (n0 : Int) := ⟨n.toNat, by omega⟩
  have key : ∃ q, Runs (fun s => ocLp ((fun (s : Int × (List Row) × Int) => spec_l71Rows_c2_r b (p + 1) (n0 : Int) s.1 s.2.1 s.2.2) s)) (fun s => spec_l71Rows_c2_r_ob b (p + 1) (n0 : Int) s.1 s.2.1 s.2.2) (p + 1, [], (n0 : Int)) q ∧
      ∃ p' out, q = .x (p', out) ∧ p + 1 ≤ p' ∧ p' ≤ p + 1 + 9 * n0 ∧ out.length ≤ n0 ∧ ∀ x ∈ out, -3 ≤ x.Diff ∧ x.Diff ≤ 3 := by
    refine Runs.down (fun i (b : Int × List Row) => (b.1, b.2, (i : Int))) (fun i b => p + 1 ≤ b.1 ∧ b.1 + 9 * i ≤ p + 1 + 9 * n0 ∧ b.2.length + i ≤ n0 ∧ ∀ x ∈ b.2, -3 ≤ x.Diff ∧ x.Diff ≤ 3) (n0 := n0) (b0 := (p + 1, [])) rfl ⟨by simp, by simp, by simp, fun x hx => by simp at hx⟩ ?_ ?_
    · rintro i ⟨q, out⟩ hi ⟨i1, i2, i3, i4⟩
      simp only [] at i1 i2 i3 i4
      have hg : cmp .gtr (((i + 1 : Nat) : Int)) 0 = true := by rw [cmp_gtr']; simp
      have hs : ar .sub .i64 (((i + 1 : Nat) : Int)) 1 = (i : Int) := by rw [ar_sub (by omega)]; omega
      obtain ⟨r1, r2, r3, r4⟩ := l71Row_ok hb (p := q) (by omega)
      obtain ⟨c1, p', k, v, d, c2, c3, c4, c5⟩ := l71Rows_c4_ok hb (p := q + 6) (n := ((i + 1 : Nat) : Int)) (by omega) (out := out) (by omega) i4 (x := (v_spec_l71Row (b, q)).1) ⟨r3, r4⟩
      have hlim : ∀ y, lim (lenI .row out) (lenI .row [y]) := fun y => lim_one (t := .row) (show out.length < 1099511627776 by omega)
      simp only [spec_l71Rows_c2_r_ob, spec_l71Rows_c2_r, spec_l71Rows_c3_ob, spec_l71Rows_c3, hg, hs, r2, c2]
      have c1' : spec_l71Rows_c4_ob b (q + 6) out ((i : Int) + 1) (v_spec_l71Row (b, q)).1 := c1
      refine ⟨by simp [r1, c1', hlim], ⟨p', out ++ [⟨k, v, (v_spec_l71Row (b, q)).1.At, d⟩]⟩, rfl, by simp only []; omega, by simp only []; omega, by simp; omega, fun x hx => ?_⟩
      rcases List.mem_append.1 hx with h | h
      · exact i4 x h
      · simp at h; subst h; exact c5
    · rintro ⟨q, out⟩ ⟨i1, i2, i3, i4⟩
      have hg : cmp .gtr ((0 : Nat) : Int) 0 = false := rfl
      simp only [spec_l71Rows_c2_r_ob, spec_l71Rows_c2_r, hg]
      exact ⟨by simp, _, rfl, q, out, rfl, i1, by simp at i2; omega, by simpa using i3, i4⟩
  obtain ⟨q, k1, p', out, rfl, k2, k3, k4, k5⟩ := key
  have a5 : spec_l71Rows_c2 b (p + 1) (n0 : Int) = .x (p', out) := k1.v
  have b5 : spec_l71Rows_c2_ob b (p + 1) (n0 : Int) := k1.t
  simp only [p_spec_l71Rows, v_spec_l71Rows, spec_l71Rows_b_ob, spec_l71Rows_b, spec_l71Rows_c1_ob, spec_l71Rows_c1, h1, a2, hn, a5, ocR]
  exact ⟨by simp [a1, b5], by omega, by omega, by omega, k5⟩

theorem l71Set_ok {b : List Int} (hb : RdOk b) {p : Int} (hp : 0 ≤ p ∧ p ≤ 400000) :
    p_spec_l71Set (b, p) ∧ p ≤ (v_spec_l71Set (b, p)).2 ∧ (v_spec_l71Set (b, p)).2 ≤ p + 100 ∧ (v_spec_l71Set (b, p)).1.length ≤ 9 ∧ Small 24 (v_spec_l71Set (b, p)).1 := by
  obtain ⟨r1, r2, r3, r4, r5⟩ := l71Rows_ok hb (p := p) (m := 8) (by omega) (by omega)
  obtain ⟨s1, s2, s3⟩ := BatchAt_ok (v_spec_l71Rows (b, p) 8).1 (Time.mk 7 7) (by omega) r5
  generalize hs : v_spec_BatchAt (v_spec_l71Rows (b, p) 8).1 (Time.mk 7 7) = s at s2 s3
  generalize hq : (v_spec_l71Rows (b, p) 8).2 = q at r2 r3
  have hs8 : s.length ≤ 8 := by omega
  have hsm : Small 24 s := fun x hx => by have := s3 x hx; omega
  obtain ⟨a1, a2, a3, a4⟩ := pick_ok hb (p := q) (n := 24) (by omega) (by omega)
  have key : spec_l71Set_c1_ob b q s ∧ ((∃ q' out, spec_l71Set_c1 b q s = .n (q', out) ∧ q ≤ q' ∧ q' ≤ q + 4 ∧ out.length ≤ 9 ∧ Small 24 out) ∨ ∃ q' out, spec_l71Set_c1 b q s = .r (out, q') ∧ q ≤ q' ∧ q' ≤ q + 4 ∧ out.length ≤ 9 ∧ Small 24 out) := by
    have hL : lenI .item s = (s.length : Int) := rfl
    unfold spec_l71Set_c1_ob spec_l71Set_c1
    simp only [a2]
    by_cases e0 : (v_spec_l6Rd_pick (b, q) 24).1 = 0
    · obtain ⟨b1, b2, b3, b4⟩ := pick_ok hb (p := q + 1) (n := 6) (by omega) (by omega)
      obtain ⟨c1, c2, c3, c4⟩ := pick_ok hb (p := q + 1 + 1) (n := 120) (by omega) (by omega)
      obtain ⟨d1, d2, d3, d4⟩ := pick_ok hb (p := q + 1 + 1 + 1) (n := 3) (by omega) (by omega)
      have hlim : ∀ y, lim (lenI .item s) (lenI .item [y]) := fun y => lim_one (t := .item) (show s.length < 1099511627776 by omega)
      simp only [e0, b2, c2, d2, show cmp .eql (0 : Int) 0 = true from rfl]
      refine ⟨by simp [a1, b1, c1, d1, hlim], .inr ⟨_, _, rfl, by omega, by omega, by simp; omega, fun x hx => ?_⟩⟩
      rcases List.mem_append.1 hx with h | h
      · exact hsm x h
      · simp at h; subst h
        simp only []
        rw [ar_sub (by omega)]
        omega
    · have hc0 : cmp .eql (v_spec_l6Rd_pick (b, q) 24).1 0 = false := by rw [cmp_eql']; simpa using e0
      by_cases e1 : (v_spec_l6Rd_pick (b, q) 24).1 = 1
      · have hc1 : cmp .eql (v_spec_l6Rd_pick (b, q) 24).1 1 = true := by rw [cmp_eql']; simpa using e1
        by_cases h0 : 0 < (s.length : Int)
        · have hg : cmp .gtr (lenI .item s) 0 = true := by rw [cmp_gtr', hL]; simpa using h0
          obtain ⟨b1, b2, b3, b4⟩ := pick_ok hb (p := q + 1) (n := lenI .item s) (by omega) (by omega)
          have hin : inb (v_spec_l6Rd_pick (b, q + 1) (lenI .item s)).1 (lenI .item s) := ⟨b3, b4⟩
          simp only [hc0, hc1, hg, b2]
          refine ⟨by simp [a1, b1, hin], .inl ⟨_, _, rfl, by omega, by omega, by rw [List.length_set]; omega, fun x hx => ?_⟩⟩
          rcases List.mem_or_eq_of_mem_set hx with h | h
          · exact hsm x h
          · subst h; simp only []; omega
        · have hg : cmp .gtr (lenI .item s) 0 = false := by rw [cmp_gtr', hL]; simpa using h0
          simp only [hc0, hc1, hg]
          exact ⟨by simp [a1], .inl ⟨_, _, rfl, by omega, by omega, by omega, hsm⟩⟩
      · have hc1 : cmp .eql (v_spec_l6Rd_pick (b, q) 24).1 1 = false := by rw [cmp_eql']; simpa using e1
        simp only [hc0, hc1]
        exact ⟨by simp [a1], .inl ⟨_, _, rfl, by omega, by omega, by omega, hsm⟩⟩
  obtain ⟨k1, ⟨q', out, k2, k3, k4, k5, k6⟩ | ⟨q', out, k2, k3, k4, k5, k6⟩⟩ := key
  · simp only [p_spec_l71Set, v_spec_l71Set, spec_l71Set_b_ob, spec_l71Set_b, hs, hq, k2, ocR]
    exact ⟨by simp [r1, s1, k1], by omega, by omega, k5, k6⟩
  · simp only [p_spec_l71Set, v_spec_l71Set, spec_l71Set_b_ob, spec_l71Set_b, hs, hq, k2, ocR]
    exact ⟨by simp [r1, s1, k1], by omega, by omega, k5, k6⟩

/-- What is drawn for a step of a loop. -/
theorem DrawLoopStep_ok {c : List Int} (hc : ∀ x ∈ c, 0 ≤ x ∧ x ≤ 255) : p_spec_DrawLoopStep c ∧ ∃ ties first now, v_spec_DrawLoopStep c = (ties, first, now, ()) ∧
    (ties.length ≤ 9 ∧ Small 24 ties) ∧ (first.length ≤ 9 ∧ Small 24 first) ∧ (now.length ≤ 9 ∧ Small 24 now) := by
  obtain ⟨o1, b, o2, hb⟩ := l6Open_ok hc
  obtain ⟨a1, a2, a3, a4, a5⟩ := l71Set_ok hb (p := 0) (by omega)
  generalize hA : v_spec_l71Set (b, 0) = A at a2 a3 a4 a5
  obtain ⟨b1, b2, b3, b4, b5⟩ := l71Set_ok hb (p := A.2) (by omega)
  generalize hB : v_spec_l71Set (b, A.2) = B at b2 b3 b4 b5
  obtain ⟨c1, c2, c3, c4, c5⟩ := l71Set_ok hb (p := B.2) (by omega)
  generalize hC : v_spec_l71Set (b, B.2) = C at c2 c3 c4 c5
  refine ⟨?_, A.1, B.1, C.1, ?_, ⟨a4, a5⟩, ⟨b4, b5⟩, ⟨c4, c5⟩⟩
  · simp only [p_spec_DrawLoopStep, spec_DrawLoopStep_b_ob, o2, hA, hB]
    simp [o1, a1, b1, c1]
  · simp only [v_spec_DrawLoopStep, spec_DrawLoopStep_b, o2, hA, hB, hC, ocR]

/-- What is drawn for a loop. -/
theorem DrawLoopSet_ok {c : List Int} (hc : ∀ x ∈ c, 0 ≤ x ∧ x ≤ 255) : p_spec_DrawLoopSet c ∧ ∃ ties first n, v_spec_DrawLoopSet c = (ties, first, n, ()) ∧
    (ties.length ≤ 9 ∧ Small 24 ties) ∧ (first.length ≤ 9 ∧ Small 24 first) ∧ -1 ≤ n ∧ n ≤ 7 := by
  obtain ⟨o1, b, o2, hb⟩ := l6Open_ok hc
  obtain ⟨d1, d2, d3, d4⟩ := pick_ok hb (p := 0) (n := 7) (by omega) (by omega)
  obtain ⟨e1, e2, e3, e4⟩ := pick_ok hb (p := 0 + 1) (n := 20) (by omega) (by omega)
  obtain ⟨f1, f2, f3, f4⟩ := pick_ok hb (p := 0 + 1 + 1) (n := 2) (by omega) (by omega)
  have key : spec_DrawLoopSet_c1_ob b (0 + 1) (v_spec_l6Rd_pick (b, 0) 7).1 ∧ ∃ q n, spec_DrawLoopSet_c1 b (0 + 1) (v_spec_l6Rd_pick (b, 0) 7).1 = .n (q, n) ∧ 0 ≤ q ∧ q ≤ 5 ∧ -1 ≤ n ∧ n ≤ 7 := by
    unfold spec_DrawLoopSet_c1_ob spec_DrawLoopSet_c1
    by_cases h : (v_spec_l6Rd_pick (b, 0 + 1) 20).1 = 0
    · have hc1 : cmp .eql (v_spec_l6Rd_pick (b, 0 + 1) 20).1 0 = true := by rw [cmp_eql']; simpa using h
      have hin : inb (v_spec_l6Rd_pick (b, 0 + 1 + 1) 2).1 (lenI .int [(-1), 7]) := ⟨f3, f4⟩
      simp only [hc1, e2]
      refine ⟨?_, _, _, rfl, by omega, by omega, ?_⟩
      · exact ⟨⟨e1, trivial⟩, fun _ => ⟨⟨f1, hin, trivial⟩, trivial⟩, fun h => by cases h⟩
      · generalize (v_spec_l6Rd_pick (b, 0 + 1 + 1) 2).1 = i at f3 f4
        have hi : i = 0 ∨ i = 1 := by omega
        rcases hi with rfl | rfl <;> exact ⟨by decide, by decide⟩
    · have hc1 : cmp .eql (v_spec_l6Rd_pick (b, 0 + 1) 20).1 0 = false := by rw [cmp_eql']; simpa using h
      simp only [hc1, e2]
      exact ⟨⟨⟨e1, trivial⟩, (fun h => by cases h), fun _ => trivial⟩, _, _, rfl, by omega, by omega, by omega, by omega⟩
  obtain ⟨k1, q, n, k2, k3, k4, k5, k6⟩ := key
  obtain ⟨a1, a2, a3, a4, a5⟩ := l71Set_ok hb (p := q) (by omega)
  generalize hA : v_spec_l71Set (b, q) = A at a2 a3 a4 a5
  obtain ⟨b1, b2, b3, b4, b5⟩ := l71Set_ok hb (p := A.2) (by omega)
  generalize hB : v_spec_l71Set (b, A.2) = B at b2 b3 b4 b5
  refine ⟨?_, A.1, B.1, n, ?_, ⟨a4, a5⟩, ⟨b4, b5⟩, k5, k6⟩
  · simp only [p_spec_DrawLoopSet, spec_DrawLoopSet_b_ob, o2, d2, k2]
    refine ⟨trivial, ⟨o1, trivial⟩, ⟨d1, trivial⟩, k1, fun q7 q8 h => ?_⟩
    cases h
    rw [hA]
    exact ⟨⟨a1, b1, trivial⟩, trivial⟩
  · simp only [v_spec_DrawLoopSet, spec_DrawLoopSet_b, o2, d2, k2, hA, hB, ocR]
end Go.Proofs.Ytopcofkpggefkaa

namespace Go.Proofs.Ytopcofkpggefkaa
open Go

def okI (x : Item) : Bool := decide (0 ≤ x.Key ∧ x.Key ≤ 3 ∧ 0 ≤ x.Val ∧ x.Val ≤ 99 ∧ x.Count ≠ 0 ∧ -1099511627776 ≤ x.Count ∧ x.Count ≤ 1099511627776)
def badI : Option Item → Item → Bool
  | none, _ => false
  | some y, x => decide (x.Key < y.Key ∨ (y.Key = x.Key ∧ x.Val ≤ y.Val))
def okR : Option Item → List Item → Bool
  | _, [] => true
  | y, x :: r => okI x && (!badI y x && okR (some x) r)
def setOk (s : List Item) : Bool := okR none s && decide (s.length ≤ 400)

theorem last_cases {α : Type} (l : List α) : (l = [] ∧ l.getLast? = none) ∨ ∃ l' y, l = l' ++ [y] ∧ l.getLast? = some y := by
  rcases List.eq_nil_or_concat l with h | ⟨l', y, h⟩
  · exact .inl ⟨h, by rw [h]; rfl⟩
  · exact .inr ⟨l', y, by rw [h, List.concat_eq_append], by rw [h]; simp⟩

theorem impl_SetOk_ok (xs : List Item) (hl : xs.length < 1000000000) : p_impl_SetOk xs ∧ v_impl_SetOk xs = setOk xs := by
  have key : ∃ q, Runs (fun s => ocLp ((fun (s : Int) => impl_SetOk_c2_r xs (lenI .item xs) s) s)) (fun s => impl_SetOk_c2_r_ob xs (lenI .item xs) s) 0 q ∧ q = (if okR none xs = true then .x () else .r false) := by
    refine Runs.list xs (fun i (_ : Unit) => (i : Int)) (fun l _ => okR none xs = okR l.getLast? (xs.drop l.length)) (b0 := ()) rfl rfl ?_ ?_
    · rintro l x r ⟨⟩ hx hI
      have hlen : xs.length = l.length + (r.length + 1) := by rw [hx]; simp
      have hrd : rd .item xs (l.length : Int) = x := by rw [hx]; exact rd_mid
      have hin : inb (l.length : Int) (lenI .item xs) := by rw [hx]; exact inb_mid (t := .item)
      have hlss : cmp .lss (l.length : Int) (lenI .item xs) = true := by rw [hx]; exact lss_mid
      have hdrop : xs.drop l.length = x :: r := by rw [hx]; simp
      have hdrop2 : xs.drop (l ++ [x]).length = r := by rw [hx]; simp
      rw [hdrop] at hI
      simp only [okR] at hI
      have e1 : (cond (cond (cond (cond (cond (cond (cmp .lss x.Key 0) true (cmp .geq x.Key 4)) true (cmp .lss x.Val 0)) true (cmp .geq x.Val 100)) true (cmp .eql x.Count 0)) true (cmp .lss x.Count (-1099511627776))) true (cmp .gtr x.Count 1099511627776)) = !okI x := by
        simp only [cmp_lss', cmp_geq', cmp_eql', cmp_gtr']
        rw [Bool.eq_iff_iff]
        simp [okI]
        omega
      have hprev : inb (ar .sub .i64 (l.length : Int) 1) (lenI .item xs) ∨ l = [] := by
        rcases last_cases l with ⟨h, _⟩ | ⟨l', y, h, _⟩
        · exact .inr h
        · left
          rw [ar_sub (by omega)]
          rw [h] at hin ⊢
          unfold inb at hin ⊢
          simp at hin ⊢
          omega
      have e2 : (cond (cmp .gtr (l.length : Int) 0) (cond (cmp .gtr (rd .item xs (ar .sub .i64 (l.length : Int) 1)).Key x.Key) true (cond (cmp .eql (rd .item xs (ar .sub .i64 (l.length : Int) 1)).Key x.Key) (cmp .geq (rd .item xs (ar .sub .i64 (l.length : Int) 1)).Val x.Val) false)) false) = badI l.getLast? x := by
        rcases last_cases l with ⟨h, h2⟩ | ⟨l', y, h, h2⟩
        · rw [h2, h]; rfl
        · have hs : ar .sub .i64 (l.length : Int) 1 = (l'.length : Int) := by rw [ar_sub (by omega), h]; simp
          have hy : rd .item xs (l'.length : Int) = y := by rw [hx, h, List.append_assoc]; exact rd_mid
          have hg : cmp .gtr (l.length : Int) 0 = true := by rw [cmp_gtr', h]; simp
          rw [h2, hs, hy, hg]
          simp only [cmp_geq', cmp_eql', cmp_gtr', badI]
          rw [Bool.eq_iff_iff]
          simp
      have hob : impl_SetOk_c2_r_ob xs (lenI .item xs) (l.length : Int) := by
        unfold impl_SetOk_c2_r_ob
        rcases hprev with hp | hp
        · simp [hin, hp]
        · subst hp
          have hin0 : inb (0 : Int) (lenI .item xs) := hin
          simp [hin0, cmp_gtr']
      refine ⟨hob, ?_⟩
      show (∃ b', ocLp (impl_SetOk_c2_r xs (lenI .item xs) (l.length : Int)) = _ ∧ _) ∨ ∃ q, ocLp (impl_SetOk_c2_r xs (lenI .item xs) (l.length : Int)) = _ ∧ _
      simp only [impl_SetOk_c2_r, hlss, hrd, succ_mid (l := l) (by omega), e1, e2]
      cases h1 : okI x with
      | false =>
        rw [h1] at hI
        exact .inr ⟨.r false, rfl, by rw [hI]; rfl⟩
      | true =>
        cases h2 : badI l.getLast? x with
        | true =>
          rw [h1, h2] at hI
          exact .inr ⟨.r false, rfl, by rw [hI]; rfl⟩
        | false =>
          rw [h1, h2] at hI
          exact .inl ⟨(), rfl, by rw [hdrop2, hI]; simp⟩
    · rintro ⟨⟩ hI
      have hend : cmp .lss (xs.length : Int) (lenI .item xs) = false := lss_end (t := .item)
      rw [List.drop_length] at hI
      simp only [impl_SetOk_c2_r_ob, impl_SetOk_c2_r, hend]
      exact ⟨by simp, _, rfl, by rw [hI]; rfl⟩
  obtain ⟨q, h1, h2⟩ := key
  have b2 : impl_SetOk_c2_ob xs (lenI .item xs) := h1.t
  have a2 : impl_SetOk_c2 xs (lenI .item xs) = _ := h1.v.trans h2
  simp only [p_impl_SetOk, v_impl_SetOk, impl_SetOk_b_ob, impl_SetOk_b, impl_SetOk_c1_ob, impl_SetOk_c1, setOk, a2]
  refine ⟨by simp [b2], ?_⟩
  cases okR none xs with
  | false => rfl
  | true =>
    show cmp .leq (xs.length : Int) 400 = _
    rw [cmp_leq', Bool.true_and]
    rw [Bool.eq_iff_iff]
    simp
    omega

theorem l3Item_p (x : Item) : p_spec_l3Item x := ⟨trivial, ⟨l6In_p _ _ _, fun _ => l6In_p _ _ _, trivial⟩, trivial⟩
theorem l3Item_v (x : Item) : v_spec_l3Item x = decide (0 ≤ x.Key ∧ x.Key ≤ 3 ∧ 0 ≤ x.Val ∧ x.Val ≤ 99 ∧ x.Count ≠ 0) := by
  show cond (cond (v_spec_l6In x.Key 0 3) (v_spec_l6In x.Val 0 99) false) (cmp .neq x.Count 0) false = _
  rw [l6In_v, l6In_v, cmp_neq', Bool.eq_iff_iff]
  simp
  omega
theorem l3Big_v : v_spec_l3Big = 1099511627776 := rfl
theorem l3Big_p : p_spec_l3Big := ⟨trivial, trivial, trivial⟩

theorem spec_SetOk_ok (xs : List Item) (hl : xs.length < 1000000000) : p_spec_SetOk xs ∧ v_spec_SetOk xs = setOk xs := by
  have key : ∃ q, Runs (fun s => ocLp ((fun (s : Int) => spec_SetOk_c2_r xs s) s)) (fun s => spec_SetOk_c2_r_ob xs s) 0 q ∧ q = (if okR none xs = true then .x () else .r false) := by
    refine Runs.list xs (fun i (_ : Unit) => (i : Int)) (fun l _ => okR none xs = okR l.getLast? (xs.drop l.length)) (b0 := ()) rfl rfl ?_ ?_
    · rintro l x r ⟨⟩ hx hI
      have hlen : xs.length = l.length + (r.length + 1) := by rw [hx]; simp
      have hrd : rd .item xs (l.length : Int) = x := by rw [hx]; exact rd_mid
      have hin : inb (l.length : Int) (lenI .item xs) := by rw [hx]; exact inb_mid (t := .item)
      have hlss : cmp .lss (l.length : Int) (lenI .item xs) = true := by rw [hx]; exact lss_mid
      have hdrop : xs.drop l.length = x :: r := by rw [hx]; simp
      have hdrop2 : xs.drop (l ++ [x]).length = r := by rw [hx]; simp
      rw [hdrop] at hI
      simp only [okR] at hI
      have hw : IntKind.wrap .i64 (0 - v_spec_l3Big) = -1099511627776 := by rw [l3Big_v, IntWalk.i64_in _ (by omega)]; rfl
      have e1 : (cond (!(v_spec_l3Item x)) true (!(v_spec_l6In x.Count (IntKind.wrap .i64 (0 - v_spec_l3Big)) v_spec_l3Big))) = !okI x := by
        rw [l3Item_v, hw, l3Big_v, l6In_v, Bool.eq_iff_iff]
        simp [okI]
        omega
      have hprev : inb (ar .sub .i64 (l.length : Int) 1) (lenI .item xs) ∨ l = [] := by
        rcases last_cases l with ⟨h, _⟩ | ⟨l', y, h, _⟩
        · exact .inr h
        · left
          rw [ar_sub (by omega)]
          rw [h] at hin ⊢
          unfold inb at hin ⊢
          simp at hin ⊢
          omega
      have e2 : (cond (cmp .gtr (l.length : Int) 0) (cond (cmp .gtr (rd .item xs (ar .sub .i64 (l.length : Int) 1)).Key x.Key) true (cond (cmp .eql (rd .item xs (ar .sub .i64 (l.length : Int) 1)).Key x.Key) (cmp .geq (rd .item xs (ar .sub .i64 (l.length : Int) 1)).Val x.Val) false)) false) = badI l.getLast? x := by
        rcases last_cases l with ⟨h, h2⟩ | ⟨l', y, h, h2⟩
        · rw [h2, h]; rfl
        · have hs : ar .sub .i64 (l.length : Int) 1 = (l'.length : Int) := by rw [ar_sub (by omega), h]; simp
          have hy : rd .item xs (l'.length : Int) = y := by rw [hx, h, List.append_assoc]; exact rd_mid
          have hg : cmp .gtr (l.length : Int) 0 = true := by rw [cmp_gtr', h]; simp
          rw [h2, hs, hy, hg]
          simp only [cmp_geq', cmp_eql', cmp_gtr', badI]
          rw [Bool.eq_iff_iff]
          simp
      have hob : spec_SetOk_c2_r_ob xs (l.length : Int) := by
        unfold spec_SetOk_c2_r_ob
        rcases hprev with hp | hp
        · simp [hin, hp, hrd, l3Item_p, l3Big_p, l6In_p]
        · subst hp
          have hrd0 : rd .item xs (0 : Int) = x := hrd
          have hin0 : inb (0 : Int) (lenI .item xs) := hin
          simp [hin0, cmp_gtr', hrd0, l3Item_p, l3Big_p, l6In_p]
      refine ⟨hob, ?_⟩
      show (∃ b', ocLp (spec_SetOk_c2_r xs (l.length : Int)) = _ ∧ _) ∨ ∃ q, ocLp (spec_SetOk_c2_r xs (l.length : Int)) = _ ∧ _
      simp only [spec_SetOk_c2_r, hlss, hrd, succ_mid (l := l) (by omega), e1, e2]
      cases h1 : okI x with
      | false =>
        rw [h1] at hI
        exact .inr ⟨.r false, rfl, by rw [hI]; rfl⟩
      | true =>
        cases h2 : badI l.getLast? x with
        | true =>
          rw [h1, h2] at hI
          exact .inr ⟨.r false, rfl, by rw [hI]; rfl⟩
        | false =>
          rw [h1, h2] at hI
          exact .inl ⟨(), rfl, by rw [hdrop2, hI]; simp⟩
    · rintro ⟨⟩ hI
      have hend : cmp .lss (xs.length : Int) (lenI .item xs) = false := lss_end (t := .item)
      rw [List.drop_length] at hI
      simp only [spec_SetOk_c2_r_ob, spec_SetOk_c2_r, hend]
      exact ⟨by simp, _, rfl, by rw [hI]; rfl⟩
  obtain ⟨q, h1, h2⟩ := key
  have b2 : spec_SetOk_c2_ob xs := h1.t
  have a2 : spec_SetOk_c2 xs = _ := h1.v.trans h2
  simp only [p_spec_SetOk, v_spec_SetOk, spec_SetOk_b_ob, spec_SetOk_b, spec_SetOk_c1_ob, spec_SetOk_c1, setOk, a2]
  refine ⟨by simp [b2], ?_⟩
  have hg : cmp .gtr (lenI .item xs) 400 = !decide (xs.length ≤ 400) := by
    show cmp .gtr (xs.length : Int) 400 = _
    rw [cmp_gtr', Bool.eq_iff_iff]
    simp
    omega
  rw [hg]
  cases decide (xs.length ≤ 400) <;> cases okR none xs <;> rfl

def onceI (xs : List Item) : List Item := (xs.filter fun x => decide (0 < x.Count)).map fun x => ⟨x.Key, x.Val, 1⟩
theorem once_ok (xs : List Item) (hl : xs.length < 1000000000) : p_impl_once xs ∧ v_impl_once xs = onceI xs := by
  have k2 : Runs (fun s => ocLp ((fun (s : (List Item) × Int) => impl_once_c2_r xs (lenI .item xs) s.1 s.2) s)) (fun s => impl_once_c2_r_ob xs (lenI .item xs) s.1 s.2) ([], 0) (.x (onceI xs)) := by
    refine Runs.fold xs (fun i b => (b, (i : Int))) onceI rfl (fun l x r hx => ?_) ?_
    · have hlen : xs.length = l.length + (r.length + 1) := by rw [hx]; simp
      have hrd : rd .item xs (l.length : Int) = x := by rw [hx]; exact rd_mid
      have hin : inb (l.length : Int) (lenI .item xs) := by rw [hx]; exact inb_mid (t := .item)
      have hlss : cmp .lss (l.length : Int) (lenI .item xs) = true := by rw [hx]; exact lss_mid
      have ho : (onceI l).length ≤ l.length := by unfold onceI; rw [List.length_map]; exact List.length_filter_le _ _
      have hlim : ∀ y, lim (lenI .item (onceI l)) (lenI .item [y]) := fun y => lim_one (t := .item) (show (onceI l).length < 1099511627776 by omega)
      simp only [impl_once_c2_r_ob, impl_once_c2_r, impl_once_c3_ob, impl_once_c3, hlss, hrd, succ_mid (l := l) (by omega), cmp_gtr']
      by_cases h0 : 0 < x.Count
      · simp only [h0, decide_true]
        exact ⟨by simp [hin, hlim], by simp [ocLp, onceI, h0, List.filter_append]⟩
      · simp only [h0, decide_false]
        exact ⟨by simp [hin], by simp [ocLp, onceI, h0, List.filter_append]⟩
    · have hend : cmp .lss (xs.length : Int) (lenI .item xs) = false := lss_end (t := .item)
      simp only [impl_once_c2_r_ob, impl_once_c2_r, hend]
      exact ⟨by simp, rfl⟩
  have a2 : impl_once_c2 xs (lenI .item xs) = .x (onceI xs) := k2.v
  have b2 : impl_once_c2_ob xs (lenI .item xs) := k2.t
  simp only [p_impl_once, v_impl_once, impl_once_b_ob, impl_once_b, impl_once_c1_ob, impl_once_c1, a2, ocR]
  exact ⟨by simp [b2], trivial⟩

def keyI (x : Item) : Item := ⟨x.Key, 0, x.Count⟩
def lead1 (now : List Item) (x : Item) : List Item := (now.filter fun y => decide (x.Key = y.Key)).map fun y => ⟨ar .rem .i64 x.Val 4, 0, ar .mul .i64 x.Count y.Count⟩
def leadI (ties now : List Item) : List Item := ties.flatMap (lead1 now)
def allI (ties first now : List Item) : List Item := first.map keyI ++ leadI ties now
theorem lead1_len (now : List Item) (x : Item) : (lead1 now x).length ≤ now.length := by
  unfold lead1; rw [List.length_map]; exact List.length_filter_le _ _
theorem leadI_len (ties now : List Item) : (leadI ties now).length ≤ ties.length * now.length := by
  induction ties with
  | nil => simp [leadI]
  | cons x r ih =>
    have := lead1_len now x
    simp only [leadI, List.flatMap_cons, List.length_append, List.length_cons] at ih ⊢
    rw [Nat.add_mul, Nat.one_mul]
    omega
theorem leadI_len4 {ties now : List Item} (h1 : ties.length ≤ 400) (h2 : now.length ≤ 400) : (leadI ties now).length ≤ 160000 :=
  Nat.le_trans (leadI_len ties now) (Nat.mul_le_mul h1 h2)

theorem loopStep_ok (ties first now : List Item) (h1 : ties.length ≤ 400) (h2 : first.length ≤ 400) (h3 : now.length ≤ 400) (hs : ∀ x ∈ allI ties first now, InR x.Count) :
    p_impl_loopStep ties first now ∧ v_impl_loopStep ties first now = onceI (gathI (allI ties first now)) := by
  have k2 : Runs (fun s => ocLp ((fun (s : (List Item) × Int) => impl_loopStep_c2_r ties now first (lenI .item first) s.1 s.2) s)) (fun s => impl_loopStep_c2_r_ob ties now first (lenI .item first) s.1 s.2) ([], 0) (.x (first.map keyI)) := by
    refine Runs.fold first (fun i b => (b, (i : Int))) (fun l => l.map keyI) rfl (fun l x r hx => ?_) ?_
    · have hlen : first.length = l.length + (r.length + 1) := by rw [hx]; simp
      have hrd : rd .item first (l.length : Int) = x := by rw [hx]; exact rd_mid
      have hin : inb (l.length : Int) (lenI .item first) := by rw [hx]; exact inb_mid (t := .item)
      have hlss : cmp .lss (l.length : Int) (lenI .item first) = true := by rw [hx]; exact lss_mid
      have hlim : ∀ y, lim (lenI .item (l.map keyI)) (lenI .item [y]) := fun y => lim_one (t := .item) (show (l.map keyI).length < 1099511627776 by rw [List.length_map]; omega)
      simp only [impl_loopStep_c2_r_ob, impl_loopStep_c2_r, hlss, hrd, succ_mid (l := l) (by omega)]
      exact ⟨by simp [hin, hlim], by simp [ocLp, keyI]⟩
    · have hend : cmp .lss (first.length : Int) (lenI .item first) = false := lss_end (t := .item)
      simp only [impl_loopStep_c2_r_ob, impl_loopStep_c2_r, hend]
      exact ⟨by simp, rfl⟩
  have k6 : ∀ (acc : List Item) (x : Item) (o : List Item) (m k : Int), acc.length ≤ 200000 →
      Runs (fun s => ocLp ((fun (s : (List Item) × Int) => impl_loopStep_c6_r now acc x o m k (lenI .item now) s.1 s.2) s)) (fun s => impl_loopStep_c6_r_ob now acc x o m k (lenI .item now) s.1 s.2) (acc, 0) (.x (acc ++ lead1 now x)) := by
    intro acc x o m k hacc
    refine Runs.fold now (fun i b => (b, (i : Int))) (fun l => acc ++ lead1 l x) (by simp [lead1]) (fun l y r hx => ?_) ?_
    · have hlen : now.length = l.length + (r.length + 1) := by rw [hx]; simp
      have hrd : rd .item now (l.length : Int) = y := by rw [hx]; exact rd_mid
      have hin : inb (l.length : Int) (lenI .item now) := by rw [hx]; exact inb_mid (t := .item)
      have hlss : cmp .lss (l.length : Int) (lenI .item now) = true := by rw [hx]; exact lss_mid
      have hl1 := lead1_len l x
      have hlim : ∀ y, lim (lenI .item (acc ++ lead1 l x)) (lenI .item [y]) := fun y => lim_one (t := .item) (show (acc ++ lead1 l x).length < 1099511627776 by rw [List.length_append]; omega)
      simp only [impl_loopStep_c6_r_ob, impl_loopStep_c6_r, impl_loopStep_c7_ob, impl_loopStep_c7, hlss, hrd, succ_mid (l := l) (by omega), cmp_eql']
      by_cases h0 : x.Key = y.Key
      · simp only [h0, decide_true]
        exact ⟨by simp [hin, hlim], by simp [ocLp, lead1, h0, List.filter_append]⟩
      · simp only [h0, decide_false]
        exact ⟨by simp [hin], by simp [ocLp, lead1, h0, List.filter_append]⟩
    · have hend : cmp .lss (now.length : Int) (lenI .item now) = false := lss_end (t := .item)
      simp only [impl_loopStep_c6_r_ob, impl_loopStep_c6_r, hend]
      exact ⟨by simp, rfl⟩
  have k4 : Runs (fun s => ocLp ((fun (s : (List Item) × Int) => impl_loopStep_c4_r now (first.map keyI) ties (lenI .item ties) s.1 s.2) s)) (fun s => impl_loopStep_c4_r_ob now (first.map keyI) ties (lenI .item ties) s.1 s.2) (first.map keyI, 0) (.x (allI ties first now)) := by
    refine Runs.fold ties (fun i b => (b, (i : Int))) (fun l => first.map keyI ++ leadI l now) (by simp [leadI]) (fun l x r hx => ?_) ?_
    · have hlen : ties.length = l.length + (r.length + 1) := by rw [hx]; simp
      have hrd : rd .item ties (l.length : Int) = x := by rw [hx]; exact rd_mid
      have hin : inb (l.length : Int) (lenI .item ties) := by rw [hx]; exact inb_mid (t := .item)
      have hlss : cmp .lss (l.length : Int) (lenI .item ties) = true := by rw [hx]; exact lss_mid
      have hl1 := leadI_len4 (ties := l) (now := now) (by omega) h3
      have k := k6 (first.map keyI ++ leadI l now) x ties (lenI .item ties) (l.length : Int) (by rw [List.length_append, List.length_map]; omega)
      have a6 : impl_loopStep_c6 now (first.map keyI ++ leadI l now) x ties (lenI .item ties) (l.length : Int) (lenI .item now) = .x (first.map keyI ++ leadI l now ++ lead1 now x) := k.v
      have b6 : impl_loopStep_c6_ob now (first.map keyI ++ leadI l now) x ties (lenI .item ties) (l.length : Int) (lenI .item now) := k.t
      simp only [impl_loopStep_c4_r_ob, impl_loopStep_c4_r, impl_loopStep_c5_ob, impl_loopStep_c5, hlss, hrd, succ_mid (l := l) (by omega), a6]
      exact ⟨by simp [hin, b6], by simp [ocLp, leadI]⟩
    · have hend : cmp .lss (ties.length : Int) (lenI .item ties) = false := lss_end (t := .item)
      simp only [impl_loopStep_c4_r_ob, impl_loopStep_c4_r, hend]
      exact ⟨by simp, rfl⟩
  have a2 : impl_loopStep_c2 ties now first (lenI .item first) = .x (first.map keyI) := k2.v
  have b2 : impl_loopStep_c2_ob ties now first (lenI .item first) := k2.t
  have a4 : impl_loopStep_c4 now (first.map keyI) ties (lenI .item ties) = .x (allI ties first now) := k4.v
  have b4 : impl_loopStep_c4_ob now (first.map keyI) ties (lenI .item ties) := k4.t
  have hal : (allI ties first now).length ≤ 200000 := by
    have := leadI_len4 (ties := ties) (now := now) h1 h3
    unfold allI
    rw [List.length_append, List.length_map]
    omega
  have hgl := gathI_len hs
  obtain ⟨o1, o2⟩ := once_ok (gathI (allI ties first now)) (by omega)
  have hp : p_impl_gathered (allI ties first now) := by
    show ((allI ties first now).length : Int) + 1 ≤ 1099511627776
    omega
  have hv : v_impl_gathered (allI ties first now) = gathI (allI ties first now) := rfl
  simp only [p_impl_loopStep, v_impl_loopStep, impl_loopStep_b_ob, impl_loopStep_b, impl_loopStep_c1_ob, impl_loopStep_c1, impl_loopStep_c3_ob, impl_loopStep_c3, a2, a4, hv, o2, ocR]
  exact ⟨by simp [b2, b4, a4, hp, hv, o1], trivial⟩

theorem LoopStep_ok (ties first now : List Item) (h1 : ties.length < 1000000000) (h2 : first.length < 1000000000) (h3 : now.length < 1000000000)
    (hs : setOk ties = true → setOk first = true → setOk now = true → ∀ x ∈ allI ties first now, InR x.Count) :
    p_impl_LoopStep ties first now ∧ v_impl_LoopStep ties first now = if setOk ties = true ∧ setOk first = true ∧ setOk now = true then onceI (gathI (allI ties first now)) else [] := by
  obtain ⟨a1, a2⟩ := impl_SetOk_ok ties h1
  obtain ⟨b1, b2⟩ := impl_SetOk_ok first h2
  obtain ⟨c1, c2⟩ := impl_SetOk_ok now h3
  unfold p_impl_LoopStep v_impl_LoopStep impl_LoopStep_b_ob impl_LoopStep_b
  rw [a2, b2, c2]
  cases e1 : setOk ties with
  | false => exact ⟨by simp [a1, b1, c1], rfl⟩
  | true =>
    cases e2 : setOk first with
    | false => exact ⟨by simp [a1, b1, c1], rfl⟩
    | true =>
      cases e3 : setOk now with
      | false => exact ⟨by simp [a1, b1, c1], rfl⟩
      | true =>
        have hlen : ∀ s : List Item, setOk s = true → s.length ≤ 400 := fun s h => by simp only [setOk, Bool.and_eq_true, decide_eq_true_eq] at h; exact h.2
        obtain ⟨d1, d2⟩ := loopStep_ok ties first now (hlen _ e1) (hlen _ e2) (hlen _ e3) (hs e1 e2 e3)
        refine ⟨by simp [a1, b1, c1, d1], ?_⟩
        rw [if_pos ⟨rfl, rfl, rfl⟩]
        exact d2
end Go.Proofs.Ytopcofkpggefkaa

namespace Go.Proofs.Ytopcofkpggefkaa
open Go

theorem l22Keys_ok (xs : List Item) (hl : xs.length < 1000000000) : p_spec_l22Keys xs ∧ v_spec_l22Keys xs = xs.map keyI := by
  have k2 : Runs (fun s => ocLp ((fun (s : (List Item) × Int) => spec_l22Keys_c2_r xs s.1 s.2) s)) (fun s => spec_l22Keys_c2_r_ob xs s.1 s.2) ([], 0) (.x (xs.map keyI)) := by
    refine Runs.fold xs (fun i b => (b, (i : Int))) (fun l => l.map keyI) rfl (fun l x r hx => ?_) ?_
    · have hlen : xs.length = l.length + (r.length + 1) := by rw [hx]; simp
      have hrd : rd .item xs (l.length : Int) = x := by rw [hx]; exact rd_mid
      have hin : inb (l.length : Int) (lenI .item xs) := by rw [hx]; exact inb_mid (t := .item)
      have hlss : cmp .lss (l.length : Int) (lenI .item xs) = true := by rw [hx]; exact lss_mid
      have hlim : ∀ y, lim (lenI .item (l.map keyI)) (lenI .item [y]) := fun y => lim_one (t := .item) (show (l.map keyI).length < 1099511627776 by rw [List.length_map]; omega)
      simp only [spec_l22Keys_c2_r_ob, spec_l22Keys_c2_r, hlss, hrd, succ_mid (l := l) (by omega)]
      exact ⟨by simp [hin, hlim], by simp [ocLp, keyI]⟩
    · have hend : cmp .lss (xs.length : Int) (lenI .item xs) = false := lss_end (t := .item)
      simp only [spec_l22Keys_c2_r_ob, spec_l22Keys_c2_r, hend]
      exact ⟨by simp, rfl⟩
  have a2 : spec_l22Keys_c2 xs = .x (xs.map keyI) := k2.v
  have b2 : spec_l22Keys_c2_ob xs := k2.t
  simp only [p_spec_l22Keys, v_spec_l22Keys, spec_l22Keys_b_ob, spec_l22Keys_b, spec_l22Keys_c1_ob, spec_l22Keys_c1, a2, ocR]
  exact ⟨by simp [b2], trivial⟩

theorem l22Lead_ok (ties now : List Item) (h1 : ties.length ≤ 400) (h3 : now.length ≤ 400) : p_spec_l22Lead ties now ∧ v_spec_l22Lead ties now = leadI ties now := by
  have k4 : ∀ (acc : List Item) (i : Int) (x : Item), acc.length ≤ 200000 → rd .item ties i = x → inb i (lenI .item ties) →
      Runs (fun s => ocLp ((fun (s : (List Item) × Int) => spec_l22Lead_c4_r ties now acc i s.1 s.2) s)) (fun s => spec_l22Lead_c4_r_ob ties now acc i s.1 s.2) (acc, 0) (.x (acc ++ lead1 now x)) := by
    intro acc i x hacc hxi hini
    refine Runs.fold now (fun i b => (b, (i : Int))) (fun l => acc ++ lead1 l x) (by simp [lead1]) (fun l y r hx => ?_) ?_
    · have hlen : now.length = l.length + (r.length + 1) := by rw [hx]; simp
      have hrd : rd .item now (l.length : Int) = y := by rw [hx]; exact rd_mid
      have hin : inb (l.length : Int) (lenI .item now) := by rw [hx]; exact inb_mid (t := .item)
      have hlss : cmp .lss (l.length : Int) (lenI .item now) = true := by rw [hx]; exact lss_mid
      have hl1 := lead1_len l x
      have hlim : ∀ y, lim (lenI .item (acc ++ lead1 l x)) (lenI .item [y]) := fun y => lim_one (t := .item) (show (acc ++ lead1 l x).length < 1099511627776 by rw [List.length_append]; omega)
      simp only [spec_l22Lead_c4_r_ob, spec_l22Lead_c4_r, spec_l22Lead_c5_ob, spec_l22Lead_c5, hlss, hrd, hxi, succ_mid (l := l) (by omega), cmp_eql']
      by_cases h0 : x.Key = y.Key
      · simp only [h0, decide_true]
        exact ⟨by simp [hin, hlim, hini], by simp [ocLp, lead1, h0, List.filter_append]⟩
      · simp only [h0, decide_false]
        exact ⟨by simp [hin, hini], by simp [ocLp, lead1, h0, List.filter_append]⟩
    · have hend : cmp .lss (now.length : Int) (lenI .item now) = false := lss_end (t := .item)
      simp only [spec_l22Lead_c4_r_ob, spec_l22Lead_c4_r, hend]
      exact ⟨by simp, rfl⟩
  have k2 : Runs (fun s => ocLp ((fun (s : (List Item) × Int) => spec_l22Lead_c2_r ties now s.1 s.2) s)) (fun s => spec_l22Lead_c2_r_ob ties now s.1 s.2) ([], 0) (.x (leadI ties now)) := by
    refine Runs.fold ties (fun i b => (b, (i : Int))) (fun l => leadI l now) (by simp [leadI]) (fun l x r hx => ?_) ?_
    · have hlen : ties.length = l.length + (r.length + 1) := by rw [hx]; simp
      have hrd : rd .item ties (l.length : Int) = x := by rw [hx]; exact rd_mid
      have hin : inb (l.length : Int) (lenI .item ties) := by rw [hx]; exact inb_mid (t := .item)
      have hlss : cmp .lss (l.length : Int) (lenI .item ties) = true := by rw [hx]; exact lss_mid
      have hl1 := leadI_len4 (ties := l) (now := now) (by omega) h3
      have k := k4 (leadI l now) (l.length : Int) x (by omega) hrd hin
      have a4 : spec_l22Lead_c4 ties now (leadI l now) (l.length : Int) = .x (leadI l now ++ lead1 now x) := k.v
      have b4 : spec_l22Lead_c4_ob ties now (leadI l now) (l.length : Int) := k.t
      simp only [spec_l22Lead_c2_r_ob, spec_l22Lead_c2_r, spec_l22Lead_c3_ob, spec_l22Lead_c3, hlss, succ_mid (l := l) (by omega), a4]
      exact ⟨by simp [b4], by simp [ocLp, leadI]⟩
    · have hend : cmp .lss (ties.length : Int) (lenI .item ties) = false := lss_end (t := .item)
      simp only [spec_l22Lead_c2_r_ob, spec_l22Lead_c2_r, hend]
      exact ⟨by simp, rfl⟩
  have a2 : spec_l22Lead_c2 ties now = .x (leadI ties now) := k2.v
  have b2 : spec_l22Lead_c2_ob ties now := k2.t
  simp only [p_spec_l22Lead, v_spec_l22Lead, spec_l22Lead_b_ob, spec_l22Lead_b, spec_l22Lead_c1_ob, spec_l22Lead_c1, a2, ocR]
  exact ⟨by simp [b2], trivial⟩

def l3K (s : List Item) (k : Int) : List Item := (s.filter fun x => decide (x.Key = k) && decide (0 < x.Count)).map fun x => ⟨k, x.Val, 1⟩
theorem l3K_len (s : List Item) (k : Int) : (l3K s k).length ≤ s.length := by
  unfold l3K; rw [List.length_map]; exact List.length_filter_le _ _
theorem l3Key_ok (xs : List Item) (k : Int) (hl : xs.length < 1000000000) : p_spec_l3Key xs k 2 ∧ v_spec_l3Key xs k 2 = l3K xs k := by
  have key : ∃ q, Runs (fun s => ocLp ((fun (s : (List Item) × Int × Int) => spec_l3Key_c2_r xs k 2 s.1 s.2.1 s.2.2) s)) (fun s => spec_l3Key_c2_r_ob xs k 2 s.1 s.2.1 s.2.2) ([], 0, 0) q ∧ ∃ n, q = .x (l3K xs k, n) := by
    refine Runs.list xs (fun i (b : List Item × Int) => (b.1, b.2, (i : Int))) (fun l b => b.1 = l3K l k) (b0 := ([], 0)) rfl rfl ?_ ?_
    · rintro l x r ⟨out, n⟩ hx hI
      have hI : out = l3K l k := hI
      subst hI
      have hlen : xs.length = l.length + (r.length + 1) := by rw [hx]; simp
      have hrd : rd .item xs (l.length : Int) = x := by rw [hx]; exact rd_mid
      have hin : inb (l.length : Int) (lenI .item xs) := by rw [hx]; exact inb_mid (t := .item)
      have hlss : cmp .lss (l.length : Int) (lenI .item xs) = true := by rw [hx]; exact lss_mid
      have hl1 := l3K_len l k
      have hlim : ∀ y, lim (lenI .item (l3K l k)) (lenI .item [y]) := fun y => lim_one (t := .item) (show (l3K l k).length < 1099511627776 by omega)
      simp only [spec_l3Key_c2_r_ob, spec_l3Key_c2_r, spec_l3Key_c3_ob, spec_l3Key_c3, hlss, hrd, succ_mid (l := l) (by omega), cmp_neq', cmp_gtr']
      by_cases h0 : x.Key = k
      · by_cases h1 : 0 < x.Count
        · simp only [h0, h1, decide_true, Bool.not_true, cond_true, cmp_eql']
          refine ⟨by simp [hin, hlim], .inl ⟨(l3K (l ++ [x]) k, ar .add .i64 n x.Count), ?_, rfl⟩⟩
          simp [ocLp, l3K, h0, h1, List.filter_append]
        · simp only [h0, h1, decide_true, decide_false, Bool.not_true, cond_false]
          refine ⟨by simp [hin], .inl ⟨(l3K (l ++ [x]) k, ar .add .i64 n x.Count), ?_, rfl⟩⟩
          simp [ocLp, l3K, h0, h1, List.filter_append]
      · simp only [h0, decide_false, Bool.not_false]
        refine ⟨by simp [hin], .inl ⟨(l3K (l ++ [x]) k, n), ?_, rfl⟩⟩
        simp [ocLp, l3K, h0, List.filter_append]
    · rintro ⟨out, n⟩ hI
      have hI : out = l3K xs k := hI
      subst hI
      have hend : cmp .lss (xs.length : Int) (lenI .item xs) = false := lss_end (t := .item)
      simp only [spec_l3Key_c2_r_ob, spec_l3Key_c2_r, hend]
      exact ⟨by simp, _, rfl, n, rfl⟩
  obtain ⟨q, h1, n, rfl⟩ := key
  have a2 : spec_l3Key_c2 xs k 2 = .x (l3K xs k, n) := h1.v
  have b2 : spec_l3Key_c2_ob xs k 2 := h1.t
  have hc : cond (cmp .eql (2 : Int) 1) (cmp .neq n 0) false = false := by rw [cmp_eql']; rfl
  simp only [p_spec_l3Key, v_spec_l3Key, spec_l3Key_b_ob, spec_l3Key_b, spec_l3Key_c1_ob, spec_l3Key_c1, spec_l3Key_c4_ob, spec_l3Key_c4, a2, hc, ocR]
  exact ⟨by simp [b2, cmp_eql'], trivial⟩

def onceK (s : List Item) : List Item := [0, 1, 2, 3].flatMap (l3K s)
theorem SetOnce_ok (xs : List Item) (hl : xs.length < 100000000) (hok : setOk xs = true) : p_spec_SetOnce xs ∧ v_spec_SetOnce xs = onceK xs := by
  obtain ⟨s1, s2⟩ := spec_SetOk_ok xs (by omega)
  rw [hok] at s2
  have k2 : Runs (fun s => ocLp ((fun (s : (List Item) × Int) => spec_l3Sum_c2_r xs 2 s.1 s.2) s)) (fun s => spec_l3Sum_c2_r_ob xs 2 s.1 s.2) ([], 0) (.x (onceK xs)) := by
    refine Runs.fold ([0, 1, 2, 3] : List Int) (fun i b => (b, (i : Int))) (fun l => l.flatMap (l3K xs)) rfl (fun l x r hx => ?_) ?_
    · have hlen : 4 = l.length + (r.length + 1) := by rw [show (4 : Nat) = ([0, 1, 2, 3] : List Int).length from rfl, hx]; simp
      have hxl : x = (l.length : Int) := by
        have h1 : ([0, 1, 2, 3] : List Int)[l.length]? = some x := by rw [hx]; simp
        have h2 : l.length = 0 ∨ l.length = 1 ∨ l.length = 2 ∨ l.length = 3 := by omega
        rcases h2 with h | h | h | h <;> rw [h] at h1 ⊢ <;> simp at h1 <;> omega
      obtain ⟨q1, q2⟩ := l3Key_ok xs x (by omega)
      have hfl : (l.flatMap (l3K xs)).length ≤ l.length * xs.length := by
        clear hx hlen hxl q1 q2
        induction l with
        | nil => simp
        | cons y l ih =>
          have := l3K_len xs y
          simp only [List.flatMap_cons, List.length_append, List.length_cons]
          rw [Nat.add_mul, Nat.one_mul]
          omega
      have hlx := l3K_len xs x
      have hl4 : l.length * xs.length ≤ 4 * xs.length := Nat.mul_le_mul_right _ (by omega)
      have hlim : lim (lenI .item (l.flatMap (l3K xs))) (lenI .item (l3K xs x)) := lim_two (t := .item) (show (l.flatMap (l3K xs)).length + (l3K xs x).length < 1099511627776 by omega)
      have hlss : cmp .lss x 4 = true := by rw [cmp_lss', hxl]; simp; omega
      have hsucc := succ_mid (l := l) (by omega)
      rw [← hxl] at hsucc ⊢
      simp only [spec_l3Sum_c2_r_ob, spec_l3Sum_c2_r, hlss, s2, q2, hsucc, cond_true]
      exact ⟨by simp [s1, q1, hlim], by simp [ocLp]⟩
    · have hend : cmp .lss ((([0, 1, 2, 3] : List Int).length : Nat) : Int) 4 = false := rfl
      simp only [spec_l3Sum_c2_r_ob, spec_l3Sum_c2_r, hend, cond_false]
      exact ⟨by simp, rfl⟩
  have a2 : spec_l3Sum_c2 xs 2 = .x (onceK xs) := k2.v
  have b2 : spec_l3Sum_c2_ob xs 2 := k2.t
  have hp : p_spec_l3Sum xs 2 := by
    simp only [p_spec_l3Sum, spec_l3Sum_b_ob, spec_l3Sum_c1_ob]
    simp [b2]
  have hv : v_spec_l3Sum xs 2 = onceK xs := by
    simp only [v_spec_l3Sum, spec_l3Sum_b, spec_l3Sum_c1, a2, ocR]
  exact ⟨⟨trivial, ⟨hp, trivial⟩, trivial⟩, hv⟩

theorem specLoopStep_ok (ties first now : List Item) (h1 : ties.length < 1000000000) (h2 : first.length < 1000000000) (h3 : now.length < 1000000000)
    (hs : setOk ties = true → setOk first = true → setOk now = true → (∀ x ∈ allI ties first now, InR x.Count) ∧ setOk (gathI (allI ties first now)) = true) :
    p_spec_LoopStep ties first now ∧ v_spec_LoopStep ties first now = if setOk ties = true ∧ setOk first = true ∧ setOk now = true then onceK (gathI (allI ties first now)) else [] := by
  obtain ⟨a1, a2⟩ := spec_SetOk_ok ties h1
  obtain ⟨b1, b2⟩ := spec_SetOk_ok first h2
  obtain ⟨c1, c2⟩ := spec_SetOk_ok now h3
  unfold p_spec_LoopStep v_spec_LoopStep spec_LoopStep_b_ob spec_LoopStep_b
  rw [a2, b2, c2]
  cases e1 : setOk ties with
  | false => exact ⟨by simp [a1, b1, c1], rfl⟩
  | true =>
    cases e2 : setOk first with
    | false => exact ⟨by simp [a1, b1, c1], rfl⟩
    | true =>
      cases e3 : setOk now with
      | false => exact ⟨by simp [a1, b1, c1], rfl⟩
      | true =>
        have hlen : ∀ s : List Item, setOk s = true → s.length ≤ 400 := fun s h => by simp only [setOk, Bool.and_eq_true, decide_eq_true_eq] at h; exact h.2
        obtain ⟨r1, r2⟩ := hs e1 e2 e3
        have l1 := hlen _ e1
        have l2 := hlen _ e2
        have l3 := hlen _ e3
        obtain ⟨k1, k2⟩ := l22Keys_ok first (by omega)
        obtain ⟨d1, d2⟩ := l22Lead_ok ties now l1 l3
        have hll := leadI_len4 (ties := ties) (now := now) l1 l3
        have hal : (allI ties first now).length ≤ 200000 := by unfold allI; rw [List.length_append, List.length_map]; omega
        have hal2 : first.map keyI ++ leadI ties now = allI ties first now := rfl
        obtain ⟨i1, i2⟩ := l2Items_ok (allI ties first now) (by omega) r1
        have hgl := gathI_len r1
        obtain ⟨o1, o2⟩ := SetOnce_ok (gathI (allI ties first now)) (by omega) r2
        have hlim : lim (lenI .item (first.map keyI)) (lenI .item (leadI ties now)) := lim_two (t := .item) (show (first.map keyI).length + (leadI ties now).length < 1099511627776 by rw [List.length_map]; omega)
        simp only [k2, d2, hal2, i2, o2, ocR]
        exact ⟨by simp [a1, b1, c1, k1, d1, hlim, i1, o1], by simp⟩
end Go.Proofs.Ytopcofkpggefkaa

namespace Go.Proofs.Ytopcofkpggefkaa
open Go

def ltIt (x y : Item) : Prop := x.Key < y.Key ∨ (x.Key = y.Key ∧ x.Val < y.Val)
theorem ltIt_irr (a : Item) : ¬ ltIt a a := fun h => by unfold ltIt at h; omega
theorem ltIt_tr {a b c : Item} (h1 : ltIt a b) (h2 : ltIt b c) : ltIt a c := by unfold ltIt at *; omega
theorem badI_iff (y x : Item) : badI (some y) x = false ↔ ltIt y x := by
  unfold badI ltIt
  rw [decide_eq_false_iff_not]
  omega

theorem okR_pw : ∀ {s : List Item} {y : Option Item}, okR y s = true → (∀ x ∈ s, okI x = true) ∧ s.Pairwise ltIt ∧ ∀ z, y = some z → ∀ x ∈ s, ltIt z x
  | [], _, _ => ⟨fun x hx => by simp at hx, List.Pairwise.nil, fun _ _ x hx => by simp at hx⟩
  | x :: r, y, h => by
    simp only [okR, Bool.and_eq_true, Bool.not_eq_true'] at h
    obtain ⟨h1, h2, h3⟩ := okR_pw h.2.2
    have h4 := h3 x rfl
    refine ⟨fun z hz => ?_, List.pairwise_cons.2 ⟨h4, h2⟩, fun z hz u hu => ?_⟩
    · rcases List.mem_cons.1 hz with rfl | hz
      · exact h.1
      · exact h1 z hz
    · subst hz
      have hzx := (badI_iff z x).1 h.2.1
      rcases List.mem_cons.1 hu with rfl | hu
      · exact hzx
      · exact ltIt_tr hzx (h4 u hu)
theorem okR_of : ∀ {s : List Item} {y : Option Item}, (∀ x ∈ s, okI x = true) → s.Pairwise ltIt → (∀ z, y = some z → ∀ x ∈ s, ltIt z x) → okR y s = true
  | [], _, _, _, _ => rfl
  | x :: r, y, h1, h2, h3 => by
    have h2' := List.pairwise_cons.1 h2
    simp only [okR, Bool.and_eq_true, Bool.not_eq_true']
    refine ⟨h1 x (by simp), ?_, okR_of (fun z hz => h1 z (by simp [hz])) h2'.2 fun z hz u hu => ?_⟩
    · cases y with
      | none => rfl
      | some z => exact (badI_iff z x).2 (h3 z rfl x (by simp))
    · cases hz; exact h2'.1 u hu

theorem gathI_pw (xs : List Item) : (gathI xs).Pairwise ltIt := by
  unfold gathI
  refine List.pairwise_map.2 ((gathM_asc (chI_keyd xs)).imp_of_mem fun {a b} ha hb h => ?_)
  obtain ⟨x, _, ea⟩ := gathI_key ha
  obtain ⟨y, _, eb⟩ := gathI_key hb
  obtain ⟨k, d⟩ := a
  obtain ⟨k', d'⟩ := b
  have ea : k = kI x := ea
  have eb : k' = kI y := eb
  subst ea eb
  have h : ltK (kI x) (kI y) = true := h
  simp only [kI, ltK, Bool.or_eq_true, Bool.and_eq_true, decide_eq_true_eq] at h
  show x.Key < y.Key ∨ (x.Key = y.Key ∧ x.Val < y.Val)
  rcases h with h | ⟨he, h | ⟨_, h | ⟨_, h⟩⟩⟩
  · exact .inl h
  · exact .inr ⟨he, h⟩
  · omega
  · cases h
theorem mem_gathI {xs : List Item} {z : Item} : z ∈ gathI xs ↔ z.Count = sumK (chI xs) (kI z) ∧ z.Count ≠ 0 := by
  unfold gathI
  rw [List.mem_map]
  constructor
  · rintro ⟨⟨k, d⟩, hp, rfl⟩
    obtain ⟨x, _, e⟩ := gathI_key hp
    have e : k = kI x := e
    subst e
    exact mem_gathM.1 hp
  · rintro ⟨h1, h2⟩
    exact ⟨(kI z, z.Count), mem_gathM.2 ⟨h1, h2⟩, rfl⟩
theorem gathI_from {xs : List Item} {z : Item} (h : z ∈ gathI xs) : ∃ x ∈ xs, x.Key = z.Key ∧ x.Val = z.Val := by
  obtain ⟨h1, h2⟩ := mem_gathI.1 h
  obtain ⟨q, hq, e⟩ := sumK_key (h1 ▸ h2)
  obtain ⟨x, hx, rfl⟩ := List.mem_map.1 hq
  have e : kI x = kI z := e
  simp only [kI, List.cons.injEq, and_true] at e
  exact ⟨x, hx, e.1, e.2⟩

theorem mem_onceI {s : List Item} {z : Item} : z ∈ onceI s ↔ ∃ x ∈ s, 0 < x.Count ∧ z = ⟨x.Key, x.Val, 1⟩ := by
  unfold onceI
  simp only [List.mem_map, List.mem_filter, decide_eq_true_eq]
  constructor
  · rintro ⟨x, ⟨h1, h2⟩, rfl⟩; exact ⟨x, h1, h2, rfl⟩
  · rintro ⟨x, h1, h2, rfl⟩; exact ⟨x, ⟨h1, h2⟩, rfl⟩
theorem onceI_pw {s : List Item} (h : s.Pairwise ltIt) : (onceI s).Pairwise ltIt :=
  List.pairwise_map.2 ((h.sublist List.filter_sublist).imp fun h => h)
theorem l3K_pw {s : List Item} (h : s.Pairwise ltIt) (k : Int) : (l3K s k).Pairwise ltIt := by
  refine List.pairwise_map.2 ((h.sublist List.filter_sublist).imp_of_mem fun {a b} ha hb h => ?_)
  have ha := (List.mem_filter.1 ha).2
  have hb := (List.mem_filter.1 hb).2
  simp only [Bool.and_eq_true, decide_eq_true_eq] at ha hb
  unfold ltIt at h
  exact .inr ⟨rfl, show a.Val < b.Val by omega⟩
theorem mem_l3K {s : List Item} {k : Int} {z : Item} : z ∈ l3K s k ↔ ∃ x ∈ s, x.Key = k ∧ 0 < x.Count ∧ z = ⟨x.Key, x.Val, 1⟩ := by
  unfold l3K
  simp only [List.mem_map, List.mem_filter, Bool.and_eq_true, decide_eq_true_eq]
  constructor
  · rintro ⟨x, ⟨h1, h2, h3⟩, rfl⟩; exact ⟨x, h1, h2, h3, by rw [h2]⟩
  · rintro ⟨x, h1, h2, h3, rfl⟩; exact ⟨x, ⟨h1, h2, h3⟩, by rw [h2]⟩

theorem onceK_eq {s : List Item} (h : okR none s = true) : onceK s = onceI s := by
  obtain ⟨h1, h2, _⟩ := okR_pw h
  refine pw_eq (lt := ltIt) ltIt_irr ltIt_tr ?_ (onceI_pw h2) fun z => ?_
  · have hk : ∀ {k : Int} {z : Item}, z ∈ l3K s k → z.Key = k := fun hz => by
      obtain ⟨x, _, e, _, rfl⟩ := mem_l3K.1 hz
      exact e
    have hc : ∀ {k k' : Int}, k < k' → ∀ a ∈ l3K s k, ∀ b ∈ l3K s k', ltIt a b := fun hlt a ha b hb => .inl (by rw [hk ha, hk hb]; exact hlt)
    show (l3K s 0 ++ (l3K s 1 ++ (l3K s 2 ++ (l3K s 3 ++ [])))).Pairwise ltIt
    rw [List.append_nil]
    refine List.pairwise_append.2 ⟨l3K_pw h2 0, List.pairwise_append.2 ⟨l3K_pw h2 1, List.pairwise_append.2 ⟨l3K_pw h2 2, l3K_pw h2 3, hc (by omega)⟩, fun a ha b hb => ?_⟩, fun a ha b hb => ?_⟩
    · rcases List.mem_append.1 hb with hb | hb
      · exact hc (by omega) a ha b hb
      · exact hc (by omega) a ha b hb
    · rcases List.mem_append.1 hb with hb | hb
      · exact hc (by omega) a ha b hb
      · rcases List.mem_append.1 hb with hb | hb
        · exact hc (by omega) a ha b hb
        · exact hc (by omega) a ha b hb
  · rw [mem_onceI]
    unfold onceK
    rw [List.mem_flatMap]
    constructor
    · rintro ⟨k, _, hz⟩
      obtain ⟨x, a, _, b, c⟩ := mem_l3K.1 hz
      exact ⟨x, a, b, c⟩
    · rintro ⟨x, a, b, c⟩
      have hx := h1 x a
      simp only [okI, decide_eq_true_eq] at hx
      refine ⟨x.Key, ?_, mem_l3K.2 ⟨x, a, rfl, b, c⟩⟩
      have : x.Key = 0 ∨ x.Key = 1 ∨ x.Key = 2 ∨ x.Key = 3 := by omega
      simp
      exact this

/-- The keys that hold, as a set. -/
def canon (P : Int → Bool) : List Item := (([0, 1, 2, 3] : List Int).filter P).map fun k => ⟨k, 0, 1⟩
theorem mem_canon {P : Int → Bool} {z : Item} : z ∈ canon P ↔ (0 ≤ z.Key ∧ z.Key ≤ 3) ∧ P z.Key = true ∧ z.Val = 0 ∧ z.Count = 1 := by
  unfold canon
  simp only [List.mem_map, List.mem_filter]
  constructor
  · rintro ⟨k, ⟨h1, h2⟩, rfl⟩
    simp at h1
    exact ⟨⟨by simp only; omega, by simp only; omega⟩, h2, rfl, rfl⟩
  · rintro ⟨h1, h2, h3, h4⟩
    refine ⟨z.Key, ⟨?_, h2⟩, ?_⟩
    · simp; omega
    · obtain ⟨k, v, c⟩ := z
      have h3 : v = 0 := h3
      have h4 : c = 1 := h4
      subst h3 h4
      rfl
theorem canon_pw (P : Int → Bool) : (canon P).Pairwise ltIt := by
  refine List.pairwise_map.2 (List.Pairwise.sublist List.filter_sublist ?_)
  show List.Pairwise (fun a b => ltIt ⟨a, 0, 1⟩ ⟨b, 0, 1⟩) ([0, 1, 2, 3] : List Int)
  unfold ltIt
  simp
theorem canon_len (P : Int → Bool) : (canon P).length ≤ 4 := by
  unfold canon
  rw [List.length_map]
  exact List.length_filter_le _ _
theorem canon_ok (P : Int → Bool) : setOk (canon P) = true := by
  simp only [setOk, Bool.and_eq_true, decide_eq_true_eq]
  refine ⟨okR_of (fun x hx => ?_) (canon_pw P) (fun z hz => by cases hz), Nat.le_trans (canon_len P) (by omega)⟩
  obtain ⟨h1, _, h3, h4⟩ := mem_canon.1 hx
  simp only [okI, decide_eq_true_eq]
  omega

/-- A set that is well formed and small. -/
structure G9 (s : List Item) : Prop where
  ok : setOk s = true
  len : s.length ≤ 9
  small : Small 24 s
theorem G9.item {s : List Item} (h : G9 s) {x : Item} (hx : x ∈ s) : 0 ≤ x.Key ∧ x.Key ≤ 3 ∧ 0 ≤ x.Val := by
  have := h.ok
  simp only [setOk, Bool.and_eq_true] at this
  have := (okR_pw this.1).1 x hx
  simp only [okI, decide_eq_true_eq] at this
  omega
theorem canon_G9 (P : Int → Bool) : G9 (canon P) :=
  ⟨canon_ok P, Nat.le_trans (canon_len P) (by omega), fun x hx => by have := (mem_canon.1 hx).2.2.2; omega⟩

theorem mul_bound {a b : Int} (ha : -24 ≤ a ∧ a ≤ 24) (hb : -24 ≤ b ∧ b ≤ 24) : -576 ≤ a * b ∧ a * b ≤ 576 := by
  have h1 : a.natAbs ≤ 24 := by omega
  have h2 : b.natAbs ≤ 24 := by omega
  have h3 : (a * b).natAbs ≤ 24 * 24 := by rw [Int.natAbs_mul]; exact Nat.mul_le_mul h1 h2
  omega

section
variable {ties first now : List Item} (ht : G9 ties) (hf : G9 first) (hn : G9 now)
include ht hf hn
theorem allI_ok : (allI ties first now).length ≤ 90 ∧ Small 576 (allI ties first now) ∧ ∀ x ∈ allI ties first now, 0 ≤ x.Key ∧ x.Key ≤ 3 ∧ x.Val = 0 := by
  refine ⟨?_, fun x hx => ?_, fun x hx => ?_⟩
  · have h1 := leadI_len ties now
    have h2 := Nat.mul_le_mul ht.len hn.len
    have h3 := hf.len
    unfold allI
    rw [List.length_append, List.length_map]
    omega
  · rcases List.mem_append.1 hx with h | h
    · obtain ⟨y, hy, rfl⟩ := List.mem_map.1 h
      have := hf.small y hy
      simp only [keyI]
      omega
    · obtain ⟨y, hy, h⟩ := List.mem_flatMap.1 h
      obtain ⟨z, hz, rfl⟩ := List.mem_map.1 h
      have hz := (List.mem_filter.1 hz).1
      have := mul_bound (ht.small y hy) (hn.small z hz)
      simp only
      rw [ar_mul (by omega)]
      exact this
  · rcases List.mem_append.1 hx with h | h
    · obtain ⟨y, hy, rfl⟩ := List.mem_map.1 h
      have := hf.item hy
      exact ⟨this.1, this.2.1, rfl⟩
    · obtain ⟨y, hy, h⟩ := List.mem_flatMap.1 h
      obtain ⟨z, hz, rfl⟩ := List.mem_map.1 h
      have := ht.item hy
      have h1 := Int.tmod_nonneg 4 this.2.2
      have h2 := Int.tmod_lt_of_pos y.Val (show (0 : Int) < 4 by omega)
      exact ⟨h1, show y.Val.tmod 4 ≤ 3 by omega, rfl⟩

theorem allI_abs : absT (chI (allI ties first now)) ≤ 51840 := by
  obtain ⟨h1, h2, _⟩ := allI_ok ht hf hn
  have := absT_chI h2
  omega
theorem allI_inR : ∀ x ∈ allI ties first now, InR x.Count := fun x hx => by
  have := (allI_ok ht hf hn).2.1 x hx
  unfold InR; omega
theorem gath_ok : setOk (gathI (allI ties first now)) = true := by
  obtain ⟨h1, h2, h3⟩ := allI_ok ht hf hn
  have hl := gathI_len (allI_inR ht hf hn)
  have hs := gathI_small h2 (by omega)
  simp only [setOk, Bool.and_eq_true, decide_eq_true_eq]
  refine ⟨okR_of (fun x hx => ?_) (gathI_pw _) (fun z hz => by cases hz), by omega⟩
  obtain ⟨y, hy, e1, e2⟩ := gathI_from hx
  have := h3 y hy
  have hc := (mem_gathI.1 hx).2
  have hb := hs x hx
  simp only [okI, decide_eq_true_eq]
  omega

/-- The sum of a key's changes in a step. -/
def stepS_ (ties first now : List Item) (k : Int) : Int := sumT (chI (allI ties first now)) [k, 0, 0]
theorem step_canon : onceI (gathI (allI ties first now)) = canon fun k => decide (0 < stepS_ ties first now k) := by
  have habs := allI_abs ht hf hn
  refine pw_eq (lt := ltIt) ltIt_irr ltIt_tr (onceI_pw (gathI_pw _)) (canon_pw _) fun z => ?_
  rw [mem_onceI, mem_canon]
  constructor
  · rintro ⟨x, h1, h2, rfl⟩
    obtain ⟨y, hy, e1, e2⟩ := gathI_from h1
    have h3 := (allI_ok ht hf hn).2.2 y hy
    have h4 := (mem_gathI.1 h1).1
    rw [sumK_eq (by omega)] at h4
    have hv : x.Val = 0 := by omega
    refine ⟨⟨by simp only; omega, by simp only; omega⟩, ?_, hv, rfl⟩
    have hk : kI x = [x.Key, 0, 0] := by unfold kI; rw [hv]
    exact decide_eq_true (show 0 < sumT (chI (allI ties first now)) [x.Key, 0, 0] by rw [← hk, ← h4]; exact h2)
  · rintro ⟨h1, h2, h3, h4⟩
    have h2 : 0 < sumT (chI (allI ties first now)) [z.Key, 0, 0] := of_decide_eq_true h2
    refine ⟨⟨z.Key, 0, sumT (chI (allI ties first now)) [z.Key, 0, 0]⟩, mem_gathI.2 ⟨?_, show sumT (chI (allI ties first now)) [z.Key, 0, 0] ≠ 0 by omega⟩, h2, ?_⟩
    · rw [sumK_eq (by omega)]; rfl
    · obtain ⟨k, v, c⟩ := z
      have h3 : v = 0 := h3
      have h4 : c = 1 := h4
      subst h3 h4
      rfl
end

def stepI (ties first now : List Item) : List Item := onceI (gathI (allI ties first now))
theorem stepI_G9 {ties first now : List Item} (ht : G9 ties) (hf : G9 first) (hn : G9 now) : G9 (stepI ties first now) := by
  unfold stepI
  rw [step_canon ht hf hn]
  exact canon_G9 _
theorem nil_G9 : G9 [] := ⟨rfl, by simp, fun x hx => by simp at hx⟩

/-- What is drawn for a set: well formed or not, it is small. -/
structure D9 (s : List Item) : Prop where
  len : s.length ≤ 9
  small : Small 24 s
theorem D9.g {s : List Item} (h : D9 s) (ho : setOk s = true) : G9 s := ⟨ho, h.len, h.small⟩
theorem G9.d {s : List Item} (h : G9 s) : D9 s := ⟨h.len, h.small⟩

/-- The step of the program and the one of the reference. -/
theorem steps_ok {ties first now : List Item} (ht : D9 ties) (hf : D9 first) (hn : D9 now) :
    (p_impl_LoopStep ties first now ∧ v_impl_LoopStep ties first now = if setOk ties = true ∧ setOk first = true ∧ setOk now = true then stepI ties first now else []) ∧
    (p_spec_LoopStep ties first now ∧ v_spec_LoopStep ties first now = if setOk ties = true ∧ setOk first = true ∧ setOk now = true then stepI ties first now else []) := by
  have h1 := ht.len
  have h2 := hf.len
  have h3 := hn.len
  refine ⟨LoopStep_ok ties first now (by omega) (by omega) (by omega) (fun a b c => allI_inR (ht.g a) (hf.g b) (hn.g c)), ?_⟩
  obtain ⟨q1, q2⟩ := specLoopStep_ok ties first now (by omega) (by omega) (by omega) (fun a b c => ⟨allI_inR (ht.g a) (hf.g b) (hn.g c), gath_ok (ht.g a) (hf.g b) (hn.g c)⟩)
  refine ⟨q1, q2.trans ?_⟩
  by_cases h : setOk ties = true ∧ setOk first = true ∧ setOk now = true
  · rw [if_pos h, if_pos h]
    have hg := gath_ok (ht.g h.1) (hf.g h.2.1) (hn.g h.2.2)
    simp only [setOk, Bool.and_eq_true] at hg
    exact onceK_eq hg.1
  · rw [if_neg h, if_neg h]
end Go.Proofs.Ytopcofkpggefkaa

namespace Go.Proofs.Ytopcofkpggefkaa
open Go

theorem item_ext {x y : Item} (h1 : x.Key = y.Key) (h2 : x.Val = y.Val) (h3 : x.Count = y.Count) : x = y := by
  cases x; cases y; simp only at h1 h2 h3; rw [h1, h2, h3]
theorem eqIt (x y : Item) : (cmp .eql x.Key y.Key && (cmp .eql x.Val y.Val && (cmp .eql x.Count y.Count && true))) = true ↔ x = y := by
  rw [cmp_eql', cmp_eql', cmp_eql']
  simp only [Bool.and_eq_true, decide_eq_true_eq, and_true]
  constructor
  · rintro ⟨h1, h2, h3⟩; exact item_ext h1 h2 h3
  · rintro rfl; exact ⟨rfl, rfl, rfl⟩

theorem lwItems_ok (a b : List Item) (hl : a.length < 1000000000) : p_laws_lwItems a b ∧ (v_laws_lwItems a b = true ↔ a = b) := by
  by_cases hlen : a.length = b.length
  · have hz : (a.zip b).length = a.length := by rw [List.length_zip]; omega
    have key : ∃ q, Runs (fun s => ocLp ((fun (s : Int) => laws_lwItems_c2_r a b s) s)) (fun s => laws_lwItems_c2_r_ob a b s) 0 q ∧ ((q = .x () ∧ a = b) ∨ (q = .r false ∧ a ≠ b)) := by
      refine Runs.list (a.zip b) (fun i (_ : Unit) => (i : Int)) (fun l _ => a.take l.length = b.take l.length) (b0 := ()) rfl rfl ?_ ?_
      · rintro l ⟨u, v⟩ r ⟨⟩ hx hI
        have hll : l.length < a.length := by rw [← hz, hx]; simp
        have hg : (a.zip b)[l.length]? = some (u, v) := by rw [hx]; simp
        rw [List.getElem?_zip_eq_some] at hg
        have hu : rd .item a (l.length : Int) = u := by
          show a.getD (Int.toNat l.length) _ = u
          rw [Int.toNat_natCast, List.getD_eq_getElem?_getD, hg.1]; rfl
        have hv : rd .item b (l.length : Int) = v := by
          show b.getD (Int.toNat l.length) _ = v
          rw [Int.toNat_natCast, List.getD_eq_getElem?_getD, hg.2]; rfl
        have hla : lenI .item a = (a.length : Int) := rfl
        have hlb : lenI .item b = (b.length : Int) := rfl
        have hlss : cmp .lss (l.length : Int) (lenI .item a) = true := by rw [cmp_lss', hla]; simp; omega
        have hi1 : inb (l.length : Int) (lenI .item a) := ⟨by omega, by omega⟩
        have hi2 : inb (l.length : Int) (lenI .item b) := ⟨by omega, by omega⟩
        refine ⟨by simp [laws_lwItems_c2_r_ob, hlss, hi1, hi2], ?_⟩
        show (∃ b', ocLp (laws_lwItems_c2_r a b (l.length : Int)) = _ ∧ _) ∨ ∃ q, ocLp (laws_lwItems_c2_r a b (l.length : Int)) = _ ∧ _
        simp only [laws_lwItems_c2_r, hlss, hu, hv, succ_mid (l := l) (by omega)]
        by_cases he : u = v
        · left
          subst he
          rw [(eqIt u u).2 rfl]
          refine ⟨(), rfl, ?_⟩
          rw [List.length_append, List.length_singleton, List.take_add_one, List.take_add_one, hI, hg.1, hg.2]
        · right
          have hne : (cmp .eql u.Key v.Key && (cmp .eql u.Val v.Val && (cmp .eql u.Count v.Count && true))) = false := by
            rw [← Bool.not_eq_true, eqIt]; exact he
          rw [hne]
          refine ⟨.r false, rfl, .inr ⟨rfl, fun hab => he ?_⟩⟩
          have := hg.1
          rw [hab, hg.2] at this
          exact (Option.some.inj this).symm
      · rintro ⟨⟩ hI
        have hend : cmp .lss ((a.zip b).length : Int) (lenI .item a) = false := by rw [cmp_lss', hz]; simp [lenI]
        rw [hz, List.take_length, hlen, List.take_length] at hI
        simp only [laws_lwItems_c2_r_ob, laws_lwItems_c2_r, hend]
        exact ⟨by simp, _, rfl, .inl ⟨rfl, hI⟩⟩
    obtain ⟨q, h1, h2⟩ := key
    have b2 : laws_lwItems_c2_ob a b := h1.t
    have hn : cmp .neq (lenI .item a) (lenI .item b) = false := by
      show cmp .neq (a.length : Int) (b.length : Int) = false
      rw [cmp_neq', hlen]; simp
    rcases h2 with ⟨rfl, h2⟩ | ⟨rfl, h2⟩
    · have a2 : laws_lwItems_c2 a b = .x () := h1.v
      simp only [p_laws_lwItems, v_laws_lwItems, laws_lwItems_b_ob, laws_lwItems_b, laws_lwItems_c1_ob, laws_lwItems_c1, hn, a2, ocR]
      exact ⟨by simp [b2], fun _ => h2, fun _ => trivial⟩
    · have a2 : laws_lwItems_c2 a b = .r false := h1.v
      simp only [p_laws_lwItems, v_laws_lwItems, laws_lwItems_b_ob, laws_lwItems_b, laws_lwItems_c1_ob, laws_lwItems_c1, hn, a2, ocR]
      exact ⟨by simp [b2], (fun h => by cases h), fun h => absurd h h2⟩
  · have hn : cmp .neq (lenI .item a) (lenI .item b) = true := by
      show cmp .neq (a.length : Int) (b.length : Int) = true
      rw [cmp_neq']; simp; omega
    simp only [p_laws_lwItems, v_laws_lwItems, laws_lwItems_b_ob, laws_lwItems_b, hn, ocR]
    exact ⟨by simp, (fun h => by cases h), fun h => absurd (by rw [h]) hlen⟩
theorem lwItems_p {a b : List Item} (hl : a.length < 1000000000) : p_laws_lwItems a b := (lwItems_ok a b hl).1
theorem lwItems_self {a : List Item} (hl : a.length < 1000000000) : v_laws_lwItems a a = true := (lwItems_ok a a hl).2.2 rfl

/-! ## A step -/
theorem FnLoopStep_true (c : List Int) (hc : ∀ x ∈ c, 0 ≤ x ∧ x ≤ 255) : p_laws_FnLoopStep c ∧ v_laws_FnLoopStep c = true := by
  by_cases hbig : cmp .gtr (lenI .byte c) 1048576 = true
  · simp only [p_laws_FnLoopStep, v_laws_FnLoopStep, laws_FnLoopStep_b_ob, laws_FnLoopStep_b, hbig, ocR]
    exact ⟨by simp, trivial⟩
  · have hbig : cmp .gtr (lenI .byte c) 1048576 = false := by simpa using hbig
    obtain ⟨d1, ties, first, now, d2, ⟨t1, t2⟩, ⟨f1, f2⟩, ⟨n1, n2⟩⟩ := DrawLoopStep_ok hc
    have dt : D9 ties := ⟨t1, t2⟩
    have df : D9 first := ⟨f1, f2⟩
    have dn : D9 now := ⟨n1, n2⟩
    obtain ⟨⟨i1, i2⟩, r1, r2⟩ := steps_ok dt df dn
    obtain ⟨a1, a2⟩ := spec_SetOk_ok ties (by omega)
    obtain ⟨b1, b2⟩ := spec_SetOk_ok first (by omega)
    obtain ⟨c1, c2⟩ := spec_SetOk_ok now (by omega)
    rw [← r2] at i2
    generalize hx : v_spec_LoopStep ties first now = x at i2 r2
    have hxl : x.length < 1000000000 := by
      by_cases h : setOk ties = true ∧ setOk first = true ∧ setOk now = true
      · rw [r2, if_pos h]
        have := (stepI_G9 (dt.g h.1) (df.g h.2.1) (dn.g h.2.2)).len
        omega
      · rw [r2, if_neg h]; simp
    have w1 := lwItems_p (b := x) hxl
    have w2 := lwItems_self hxl
    by_cases h : setOk ties = true ∧ setOk first = true ∧ setOk now = true
    · obtain ⟨e1, e2, e3⟩ := h
      rw [e1] at a2
      rw [e2] at b2
      rw [e3] at c2
      rw [if_pos ⟨e1, e2, e3⟩] at r2
      have gt := dt.g e1
      have gf := df.g e2
      have gn := dn.g e3
      have hx1 : x = canon _ := r2.trans (step_canon gt gf gn)
      have gx : G9 x := by rw [r2]; exact stepI_G9 gt gf gn
      have key : Runs (fun s => ocLp ((fun (s : Int) => laws_FnLoopStep_c2_r ties first now x s) s)) (fun s => laws_FnLoopStep_c2_r_ob ties first now x s) 0 (.x ()) := by
        refine Runs.fold x (fun i (_ : Unit) => (i : Int)) (fun _ => ()) rfl (fun l y r hy => ?_) ?_
        · have hlen : x.length = l.length + (r.length + 1) := by rw [hy]; simp
          have hrd : rd .item x (l.length : Int) = y := by rw [hy]; exact rd_mid
          have hin : inb (l.length : Int) (lenI .item x) := by rw [hy]; exact inb_mid (t := .item)
          have hlss : cmp .lss (l.length : Int) (lenI .item x) = true := by rw [hy]; exact lss_mid
          have hy1 : y ∈ canon _ := hx1 ▸ (show y ∈ x by rw [hy]; simp)
          obtain ⟨_, _, h3, h4⟩ := mem_canon.1 hy1
          have q1 : cmp .neq y.Count 1 = false := by rw [cmp_neq', h4]; rfl
          have q2 : cmp .neq y.Val 0 = false := by rw [cmp_neq', h3]; rfl
          simp only [laws_FnLoopStep_c2_r_ob, laws_FnLoopStep_c2_r, hlss, hrd, q1, q2, succ_mid (l := l) (by omega), cond_false]
          exact ⟨by simp [hin], by simp [ocLp]⟩
        · have hend : cmp .lss (x.length : Int) (lenI .item x) = false := lss_end (t := .item)
          simp only [laws_FnLoopStep_c2_r_ob, laws_FnLoopStep_c2_r, hend]
          exact ⟨by simp, rfl⟩
      have a5 : laws_FnLoopStep_c2 ties first now x = .x () := key.v
      have b5 : laws_FnLoopStep_c2_ob ties first now x := key.t
      obtain ⟨⟨j1, j2⟩, _⟩ := steps_ok nil_G9.d df dn
      obtain ⟨⟨k1, k2⟩, _⟩ := steps_ok dt df nil_G9.d
      rw [if_pos ⟨rfl, e2, e3⟩] at j2
      rw [if_pos ⟨e1, e2, rfl⟩] at k2
      have hnil : leadI ties [] = [] := by
        unfold leadI lead1
        induction ties with
        | nil => rfl
        | cons y r ih => simp
      have hsame : stepI [] first now = stepI ties first [] := by
        unfold stepI allI
        rw [hnil]; rfl
      rw [hsame] at j2
      have g1 := (stepI_G9 gt gf nil_G9).len
      have w3 := lwItems_p (a := stepI ties first []) (b := stepI ties first []) (by omega)
      have w4 := lwItems_self (a := stepI ties first []) (by omega)
      obtain ⟨s1, s2⟩ := impl_SetOk_ok x hxl
      rw [gx.ok] at s2
      simp only [p_laws_FnLoopStep, v_laws_FnLoopStep, laws_FnLoopStep_b_ob, laws_FnLoopStep_b, laws_FnLoopStep_c1_ob, laws_FnLoopStep_c1, hbig, d2, hx, i2, a2, b2, c2, w2, a5, j2, k2, w4, s2, ocR, Bool.not_true, cond_false, cond_true]
      exact ⟨by simp [d1, i1, r1, w1, a1, b1, c1, b5, j1, k1, s1, w3], trivial⟩
    · have hc3 : cond (cond (cond (!v_laws_lwItems x x) true (!v_spec_SetOk ties)) true (!v_spec_SetOk first)) true (!v_spec_SetOk now) = true := by
        rw [a2, b2, c2, w2]
        cases e1 : setOk ties <;> cases e2 : setOk first <;> cases e3 : setOk now <;> first | rfl | exact absurd ⟨e1, e2, e3⟩ h
      simp only [p_laws_FnLoopStep, v_laws_FnLoopStep, laws_FnLoopStep_b_ob, laws_FnLoopStep_b, hbig, d2, hx, i2, hc3, ocR]
      exact ⟨by simp [d1, i1, r1, w1, a1, b1, c1], w2⟩
end Go.Proofs.Ytopcofkpggefkaa

namespace Go.Proofs.Ytopcofkpggefkaa
open Go

def iterI (ties first : List Item) : Nat → List Item
  | 0 => []
  | n + 1 => stepI ties first (iterI ties first n)
theorem iterI_G9 {ties first : List Item} (ht : G9 ties) (hf : G9 first) : ∀ n, G9 (iterI ties first n)
  | 0 => nil_G9
  | n + 1 => stepI_G9 ht hf (iterI_G9 ht hf n)

/-- What the program's loop comes to, and the reference's. -/
def roundsV (ties first : List Item) (n : Int) : List Item := if setOk ties = true ∧ setOk first = true ∧ 0 ≤ n ∧ n ≤ 6 then iterI ties first n.toNat else []
theorem roundsV_len {ties first : List Item} (ht : D9 ties) (hf : D9 first) (n : Int) : (roundsV ties first n).length ≤ 9 := by
  unfold roundsV
  split
  · rename_i h
    exact (iterI_G9 (ht.g h.1) (hf.g h.2.1) _).len
  · simp

theorem LoopSet_ok {ties first : List Item} (ht : D9 ties) (hf : D9 first) (n : Int) : p_impl_LoopSet ties first n ∧ v_impl_LoopSet ties first n = roundsV ties first n := by
  have h1 := ht.len
  have h2 := hf.len
  obtain ⟨a1, a2⟩ := impl_SetOk_ok ties (by omega)
  obtain ⟨b1, b2⟩ := impl_SetOk_ok first (by omega)
  by_cases h : setOk ties = true ∧ setOk first = true ∧ 0 ≤ n ∧ n ≤ 6
  · obtain ⟨e1, e2, e3, e4⟩ := h
    have gt := ht.g e1
    have gf := hf.g e2
    obtain ⟨m, rfl⟩ : ∃ m : Nat, n = (m : Int) := ⟨n.toNat, by omega⟩
    have key : Runs (fun s => ocLp ((fun (s : (List Item) × Int) => impl_LoopSet_c2_r ties first (m : Int) s.1 s.2) s)) (fun s => impl_LoopSet_c2_r_ob ties first (m : Int) s.1 s.2) ([], 0) (.x (iterI ties first m)) := by
      have hm : (List.replicate m ()).length = m := List.length_replicate
      have hr := Runs.fold (step := fun s => ocLp ((fun (s : (List Item) × Int) => impl_LoopSet_c2_r ties first (m : Int) s.1 s.2) s)) (ob := fun s => impl_LoopSet_c2_r_ob ties first (m : Int) s.1 s.2) (fin := .x (iterI ties first m)) (s0 := ([], 0))
        (List.replicate m ()) (fun i b => (b, (i : Int))) (fun l => iterI ties first l.length) rfl (fun l x r hx => ?_) ?_
      · exact hr
      · have hlen : m = l.length + (r.length + 1) := by rw [← hm, hx]; simp
        have hlss : cmp .lss (l.length : Int) (m : Int) = true := by rw [cmp_lss']; simp; omega
        have gn := iterI_G9 gt gf l.length
        have l3 := gn.len
        obtain ⟨s1, s2⟩ := loopStep_ok ties first (iterI ties first l.length) (by omega) (by omega) (by omega) (allI_inR gt gf gn)
        simp only [impl_LoopSet_c2_r_ob, impl_LoopSet_c2_r, hlss, s2, succ_mid (l := l) (by omega)]
        exact ⟨by simp [s1], by simp [ocLp, iterI, stepI]⟩
      · have hend : cmp .lss ((List.replicate m ()).length : Int) (m : Int) = false := by rw [cmp_lss', hm]; simp
        simp only [impl_LoopSet_c2_r_ob, impl_LoopSet_c2_r, hend]
        exact ⟨by simp, by rw [hm]; rfl⟩
    have k1 : impl_LoopSet_c2 ties first (m : Int) = .x (iterI ties first m) := key.v
    have k2 : impl_LoopSet_c2_ob ties first (m : Int) := key.t
    have q1 : cmp .lss (m : Int) 0 = false := by rw [cmp_lss']; simp
    have q2 : cmp .gtr (m : Int) 6 = false := by rw [cmp_gtr']; simp; omega
    rw [roundsV, if_pos ⟨e1, e2, e3, e4⟩]
    simp only [p_impl_LoopSet, v_impl_LoopSet, impl_LoopSet_b_ob, impl_LoopSet_b, impl_LoopSet_c1_ob, impl_LoopSet_c1, a2, b2, e1, e2, q1, q2, k1, Bool.not_true, cond_false, ocR, Int.toNat_natCast]
    exact ⟨by simp [a1, b1, k2], trivial⟩
  · have hc : cond (cond (cond (!v_impl_SetOk ties) true (!v_impl_SetOk first)) true (cmp .lss n 0)) true (cmp .gtr n 6) = true := by
      rw [a2, b2, cmp_lss', cmp_gtr']
      cases e1 : setOk ties <;> cases e2 : setOk first <;> first | rfl | (simp; have : ¬ (0 ≤ n ∧ n ≤ 6) := fun h' => h ⟨e1, e2, h'⟩; omega)
    rw [roundsV, if_neg h]
    simp only [p_impl_LoopSet, v_impl_LoopSet, impl_LoopSet_b_ob, impl_LoopSet_b, hc, ocR]
    exact ⟨by simp [a1, b1], trivial⟩

theorem specLoopSet_ok {ties first : List Item} (ht : D9 ties) (hf : D9 first) (n : Int) : p_spec_LoopSet ties first n ∧ v_spec_LoopSet ties first n = roundsV ties first n := by
  have h1 := ht.len
  have h2 := hf.len
  obtain ⟨a1, a2⟩ := spec_SetOk_ok ties (by omega)
  obtain ⟨b1, b2⟩ := spec_SetOk_ok first (by omega)
  have c1 := l6In_p n 0 6
  have c2 := l6In_v n 0 6
  by_cases h : setOk ties = true ∧ setOk first = true ∧ 0 ≤ n ∧ n ≤ 6
  · obtain ⟨e1, e2, e3, e4⟩ := h
    have gt := ht.g e1
    have gf := hf.g e2
    obtain ⟨m, rfl⟩ : ∃ m : Nat, n = (m : Int) := ⟨n.toNat, by omega⟩
    have key : Runs (fun s => ocLp ((fun (s : (List Item) × Int) => spec_LoopSet_c2_r ties first (m : Int) s.1 s.2) s)) (fun s => spec_LoopSet_c2_r_ob ties first (m : Int) s.1 s.2) ([], 0) (.x (iterI ties first m)) := by
      have hm : (List.replicate m ()).length = m := List.length_replicate
      have hr := Runs.fold (step := fun s => ocLp ((fun (s : (List Item) × Int) => spec_LoopSet_c2_r ties first (m : Int) s.1 s.2) s)) (ob := fun s => spec_LoopSet_c2_r_ob ties first (m : Int) s.1 s.2) (fin := .x (iterI ties first m)) (s0 := ([], 0))
        (List.replicate m ()) (fun i b => (b, (i : Int))) (fun l => iterI ties first l.length) rfl (fun l x r hx => ?_) ?_
      · exact hr
      · have hlen : m = l.length + (r.length + 1) := by rw [← hm, hx]; simp
        have hlss : cmp .lss (l.length : Int) (m : Int) = true := by rw [cmp_lss']; simp; omega
        have gn := iterI_G9 gt gf l.length
        obtain ⟨s1, s2⟩ := (steps_ok ht hf gn.d).2
        rw [if_pos ⟨e1, e2, gn.ok⟩] at s2
        simp only [spec_LoopSet_c2_r_ob, spec_LoopSet_c2_r, hlss, s2, succ_mid (l := l) (by omega)]
        exact ⟨by simp [s1], by simp [ocLp, iterI]⟩
      · have hend : cmp .lss ((List.replicate m ()).length : Int) (m : Int) = false := by rw [cmp_lss', hm]; simp
        simp only [spec_LoopSet_c2_r_ob, spec_LoopSet_c2_r, hend]
        exact ⟨by simp, by rw [hm]; rfl⟩
    have k1 : spec_LoopSet_c2 ties first (m : Int) = .x (iterI ties first m) := key.v
    have k2 : spec_LoopSet_c2_ob ties first (m : Int) := key.t
    have q1 : v_spec_l6In (m : Int) 0 6 = true := by rw [c2]; simp; omega
    rw [roundsV, if_pos ⟨e1, e2, e3, e4⟩]
    simp only [p_spec_LoopSet, v_spec_LoopSet, spec_LoopSet_b_ob, spec_LoopSet_b, spec_LoopSet_c1_ob, spec_LoopSet_c1, a2, b2, e1, e2, q1, k1, Bool.not_true, cond_false, ocR, Int.toNat_natCast]
    exact ⟨by simp [a1, b1, c1, k2], trivial⟩
  · have hc : cond (cond (!v_spec_SetOk ties) true (!v_spec_SetOk first)) true (!v_spec_l6In n 0 6) = true := by
      rw [a2, b2, c2]
      cases e1 : setOk ties <;> cases e2 : setOk first <;> first | rfl | (simp; have : ¬ (0 ≤ n ∧ n ≤ 6) := fun h' => h ⟨e1, e2, h'⟩; omega)
    rw [roundsV, if_neg h]
    simp only [p_spec_LoopSet, v_spec_LoopSet, spec_LoopSet_b_ob, spec_LoopSet_b, hc, ocR]
    exact ⟨by simp [a1, b1, c1], trivial⟩

/-! ## What a step does not change -/
theorem iterI_fix {ties first : List Item} {n : Nat} (h : stepI ties first (iterI ties first n) = iterI ties first n) : ∀ j, iterI ties first (n + j) = iterI ties first n
  | 0 => rfl
  | j + 1 => by
    show stepI ties first (iterI ties first (n + j)) = _
    rw [iterI_fix h j, h]

theorem FnLoopFix_true (c : List Int) (hc : ∀ x ∈ c, 0 ≤ x ∧ x ≤ 255) : p_laws_FnLoopFix c ∧ v_laws_FnLoopFix c = true := by
  by_cases hbig : cmp .gtr (lenI .byte c) 1048576 = true
  · simp only [p_laws_FnLoopFix, v_laws_FnLoopFix, laws_FnLoopFix_b_ob, laws_FnLoopFix_b, hbig, ocR]
    exact ⟨by simp, trivial⟩
  · have hbig : cmp .gtr (lenI .byte c) 1048576 = false := by simpa using hbig
    obtain ⟨d1, ties, first, n, d2, ⟨t1, t2⟩, ⟨f1, f2⟩, n1, n2⟩ := DrawLoopSet_ok hc
    have dt : D9 ties := ⟨t1, t2⟩
    have df : D9 first := ⟨f1, f2⟩
    obtain ⟨i1, i2⟩ := LoopSet_ok dt df n
    obtain ⟨r1, r2⟩ := specLoopSet_ok dt df n
    obtain ⟨a1, a2⟩ := spec_SetOk_ok ties (by omega)
    obtain ⟨b1, b2⟩ := spec_SetOk_ok first (by omega)
    have hxl := roundsV_len dt df n
    rw [← r2] at i2
    generalize hx : v_spec_LoopSet ties first n = x at i2 r2
    rw [← r2] at hxl
    have w1 := lwItems_p (a := x) (b := x) (by omega)
    have w2 := lwItems_self (a := x) (by omega)
    by_cases h : setOk ties = true ∧ setOk first = true ∧ 0 ≤ n ∧ n < 6
    · obtain ⟨e1, e2, e3, e4⟩ := h
      have gt := dt.g e1
      have gf := df.g e2
      obtain ⟨m, rfl⟩ : ∃ m : Nat, n = (m : Int) := ⟨n.toNat, by omega⟩
      have hxi : x = iterI ties first m := by rw [r2, roundsV, if_pos ⟨e1, e2, e3, by omega⟩, Int.toNat_natCast]
      have gx : G9 x := hxi ▸ iterI_G9 gt gf m
      obtain ⟨j1, j2⟩ := (steps_ok dt df gx.d).1
      rw [if_pos ⟨e1, e2, gx.ok⟩] at j2
      have gs := stepI_G9 gt gf gx
      have gsl := gs.len
      obtain ⟨w3, w4⟩ := lwItems_ok (stepI ties first x) x (by omega)
      have hadd : ar .add .i64 (m : Int) 1 = ((m + 1 : Nat) : Int) := by rw [ar_add (by omega)]; omega
      obtain ⟨k1, k2⟩ := LoopSet_ok dt df 6
      obtain ⟨l1, l2⟩ := LoopSet_ok dt df ((m + 1 : Nat) : Int)
      have q1 : cmp .lss (m : Int) 0 = false := by rw [cmp_lss']; simp
      have q2 : cmp .geq (m : Int) 6 = false := by rw [cmp_geq']; simp; omega
      rw [e1] at a2
      rw [e2] at b2
      cases hw : v_laws_lwItems (stepI ties first x) x with
      | false =>
        simp only [p_laws_FnLoopFix, v_laws_FnLoopFix, laws_FnLoopFix_b_ob, laws_FnLoopFix_b, hbig, d2, hx, i2, a2, b2, q1, q2, w2, j2, hw, Bool.not_true, Bool.not_false, cond_false, ocR]
        exact ⟨by simp [d1, i1, r1, w1, a1, b1, j1, w3], trivial⟩
      | true =>
        have hfix : stepI ties first x = x := w4.1 hw
        rw [hxi] at hfix
        have k3 : v_impl_LoopSet ties first 6 = x := by
          rw [k2, roundsV, if_pos ⟨e1, e2, by omega, by omega⟩, hxi, show (6 : Int).toNat = m + (6 - m) by omega]
          exact iterI_fix hfix _
        have l3 : v_impl_LoopSet ties first ((m + 1 : Nat) : Int) = x := by
          rw [l2, roundsV, if_pos ⟨e1, e2, by omega, by omega⟩, hxi, Int.toNat_natCast]
          exact iterI_fix hfix 1
        simp only [p_laws_FnLoopFix, v_laws_FnLoopFix, laws_FnLoopFix_b_ob, laws_FnLoopFix_b, hbig, d2, hx, i2, a2, b2, q1, q2, w2, j2, hw, hadd, k3, l3, Bool.not_true, Bool.not_false, cond_false, cond_true, ocR]
        have l1' : p_impl_LoopSet ties first ((m : Int) + 1) := l1
        exact ⟨by simp [d1, i1, r1, w1, a1, b1, j1, w3, k1, l1'], trivial⟩
    · have hc3 : cond (cond (cond (cond (!v_laws_lwItems x x) true (!v_spec_SetOk ties)) true (!v_spec_SetOk first)) true (cmp .lss n 0)) true (cmp .geq n 6) = true := by
        rw [a2, b2, w2, cmp_lss', cmp_geq']
        cases e1 : setOk ties <;> cases e2 : setOk first <;> first | rfl | (simp; have : ¬ (0 ≤ n ∧ n < 6) := fun h' => h ⟨e1, e2, h'⟩; omega)
      simp only [p_laws_FnLoopFix, v_laws_FnLoopFix, laws_FnLoopFix_b_ob, laws_FnLoopFix_b, hbig, d2, hx, i2, hc3, ocR]
      exact ⟨by simp [d1, i1, r1, w1, a1, b1], w2⟩
end Go.Proofs.Ytopcofkpggefkaa

namespace Go.Proofs.Ytopcofkpggefkaa
open Go

def plusI (s : List Item) : Prop := ∀ x ∈ s, 0 ≤ x.Count

theorem lwPlus_ok (xs : List Item) (hl : xs.length < 1000000000) : p_laws_lwPlus xs ∧ (v_laws_lwPlus xs = true ↔ plusI xs) := by
  have key : ∃ q, Runs (fun s => ocLp ((fun (s : Int) => laws_lwPlus_c2_r xs s) s)) (fun s => laws_lwPlus_c2_r_ob xs s) 0 q ∧ ((q = .x () ∧ plusI xs) ∨ (q = .r false ∧ ¬ plusI xs)) := by
    refine Runs.list xs (fun i (_ : Unit) => (i : Int)) (fun l _ => plusI l) (b0 := ()) rfl (fun x hx => by simp at hx) ?_ ?_
    · rintro l x r ⟨⟩ hx hI
      have hlen : xs.length = l.length + (r.length + 1) := by rw [hx]; simp
      have hrd : rd .item xs (l.length : Int) = x := by rw [hx]; exact rd_mid
      have hin : inb (l.length : Int) (lenI .item xs) := by rw [hx]; exact inb_mid (t := .item)
      have hlss : cmp .lss (l.length : Int) (lenI .item xs) = true := by rw [hx]; exact lss_mid
      refine ⟨by simp [laws_lwPlus_c2_r_ob, hin], ?_⟩
      show (∃ b', ocLp (laws_lwPlus_c2_r xs (l.length : Int)) = _ ∧ _) ∨ ∃ q, ocLp (laws_lwPlus_c2_r xs (l.length : Int)) = _ ∧ _
      simp only [laws_lwPlus_c2_r, hlss, hrd, succ_mid (l := l) (by omega)]
      by_cases h0 : x.Count < 0
      · right
        rw [show cmp .lss x.Count 0 = true by rw [cmp_lss']; simpa using h0]
        refine ⟨.r false, rfl, .inr ⟨rfl, fun hp => ?_⟩⟩
        have := hp x (by rw [hx]; simp)
        omega
      · left
        rw [show cmp .lss x.Count 0 = false by rw [cmp_lss']; simpa using h0]
        refine ⟨(), rfl, fun y hy => ?_⟩
        rcases List.mem_append.1 hy with h | h
        · exact hI y h
        · simp at h; subst h; omega
    · rintro ⟨⟩ hI
      have hend : cmp .lss (xs.length : Int) (lenI .item xs) = false := lss_end (t := .item)
      simp only [laws_lwPlus_c2_r_ob, laws_lwPlus_c2_r, hend]
      exact ⟨by simp, _, rfl, .inl ⟨rfl, hI⟩⟩
  obtain ⟨q, h1, h2⟩ := key
  have b2 : laws_lwPlus_c2_ob xs := h1.t
  rcases h2 with ⟨rfl, h2⟩ | ⟨rfl, h2⟩
  · have a2 : laws_lwPlus_c2 xs = .x () := h1.v
    simp only [p_laws_lwPlus, v_laws_lwPlus, laws_lwPlus_b_ob, laws_lwPlus_b, laws_lwPlus_c1_ob, laws_lwPlus_c1, a2, ocR]
    exact ⟨by simp [b2], fun _ => h2, fun _ => trivial⟩
  · have a2 : laws_lwPlus_c2 xs = .r false := h1.v
    simp only [p_laws_lwPlus, v_laws_lwPlus, laws_lwPlus_b_ob, laws_lwPlus_b, laws_lwPlus_c1_ob, laws_lwPlus_c1, a2, ocR]
    exact ⟨by simp [b2], (fun h => by cases h), fun h => absurd h h2⟩

theorem lwHas_ok (xs : List Item) (y : Item) (hl : xs.length < 1000000000) : p_laws_lwHas xs y ∧ (y ∈ xs → v_laws_lwHas xs y = true) := by
  have key : ∃ q, Runs (fun s => ocLp ((fun (s : Int) => laws_lwHas_c2_r xs y s) s)) (fun s => laws_lwHas_c2_r_ob xs y s) 0 q ∧ (q = .r true ∨ (q = .x () ∧ y ∉ xs)) := by
    refine Runs.list xs (fun i (_ : Unit) => (i : Int)) (fun l _ => y ∉ l) (b0 := ()) rfl (by simp) ?_ ?_
    · rintro l x r ⟨⟩ hx hI
      have hlen : xs.length = l.length + (r.length + 1) := by rw [hx]; simp
      have hrd : rd .item xs (l.length : Int) = x := by rw [hx]; exact rd_mid
      have hin : inb (l.length : Int) (lenI .item xs) := by rw [hx]; exact inb_mid (t := .item)
      have hlss : cmp .lss (l.length : Int) (lenI .item xs) = true := by rw [hx]; exact lss_mid
      refine ⟨by simp [laws_lwHas_c2_r_ob, hin], ?_⟩
      show (∃ b', ocLp (laws_lwHas_c2_r xs y (l.length : Int)) = _ ∧ _) ∨ ∃ q, ocLp (laws_lwHas_c2_r xs y (l.length : Int)) = _ ∧ _
      simp only [laws_lwHas_c2_r, hlss, hrd, succ_mid (l := l) (by omega)]
      by_cases he : x = y
      · right
        rw [(eqIt x y).2 he]
        exact ⟨.r true, rfl, .inl rfl⟩
      · left
        have hne : (cmp .eql x.Key y.Key && (cmp .eql x.Val y.Val && (cmp .eql x.Count y.Count && true))) = false := by
          rw [← Bool.not_eq_true, eqIt]; exact he
        rw [hne]
        refine ⟨(), rfl, fun hm => ?_⟩
        rcases List.mem_append.1 hm with h | h
        · exact hI h
        · simp at h; exact he h.symm
    · rintro ⟨⟩ hI
      have hend : cmp .lss (xs.length : Int) (lenI .item xs) = false := lss_end (t := .item)
      simp only [laws_lwHas_c2_r_ob, laws_lwHas_c2_r, hend]
      exact ⟨by simp, _, rfl, .inr ⟨rfl, hI⟩⟩
  obtain ⟨q, h1, h2⟩ := key
  have b2 : laws_lwHas_c2_ob xs y := h1.t
  rcases h2 with rfl | ⟨rfl, h2⟩
  · have a2 : laws_lwHas_c2 xs y = .r true := h1.v
    simp only [p_laws_lwHas, v_laws_lwHas, laws_lwHas_b_ob, laws_lwHas_b, laws_lwHas_c1_ob, laws_lwHas_c1, a2, ocR]
    exact ⟨by simp [b2], fun _ => trivial⟩
  · have a2 : laws_lwHas_c2 xs y = .x () := h1.v
    simp only [p_laws_lwHas, v_laws_lwHas, laws_lwHas_b_ob, laws_lwHas_b, laws_lwHas_c1_ob, laws_lwHas_c1, a2, ocR]
    exact ⟨by simp [b2], fun h => absurd h h2⟩

theorem sumT_append (l l' : List (List Int × Int)) (k : List Int) : sumT (l ++ l') k = sumT l k + sumT l' k := by
  induction l with
  | nil => simp [sumT]
  | cons q r ih => simp only [List.cons_append, sumT, ih]; omega
theorem sumT_sub {l l' : List (List Int × Int)} (h : l.Sublist l') (hp : ∀ q ∈ l', 0 ≤ q.2) (k : List Int) : sumT l k ≤ sumT l' k := by
  induction h with
  | slnil => exact Int.le_refl _
  | cons a _ ih =>
    have h1 := ih (fun q hq => hp q (by simp [hq]))
    have h2 := hp a (by simp)
    simp only [sumT]
    split <;> omega
  | cons_cons a _ ih =>
    have h1 := ih (fun q hq => hp q (by simp [hq]))
    simp only [sumT]
    omega
theorem leadI_sub {ties now now' : List Item} (h : now.Sublist now') : (leadI ties now).Sublist (leadI ties now') := by
  induction ties with
  | nil => exact List.Sublist.refl _
  | cons x r ih =>
    simp only [leadI, List.flatMap_cons] at ih ⊢
    exact List.Sublist.append ((h.filter _).map _) ih

theorem filter_sub {α : Type} {p q : α → Bool} (h : ∀ a, p a = true → q a = true) : ∀ l : List α, (l.filter p).Sublist (l.filter q)
  | [] => List.Sublist.refl _
  | a :: r => by
    simp only [List.filter_cons]
    cases hp : p a with
    | true => rw [h a hp]; exact (filter_sub h r).cons_cons a
    | false =>
      cases q a with
      | true => exact (filter_sub h r).cons a
      | false => exact filter_sub h r
theorem stepI_plus (ties first now : List Item) : plusI (stepI ties first now) := by
  intro x hx
  unfold stepI at hx
  obtain ⟨y, _, _, rfl⟩ := mem_onceI.1 hx
  show (0 : Int) ≤ 1
  omega
theorem iterI_plus (ties first : List Item) : ∀ n, plusI (iterI ties first n)
  | 0 => fun x hx => by simp [iterI] at hx
  | n + 1 => stepI_plus ties first _
theorem iterI_len4 {ties first : List Item} (ht : G9 ties) (hf : G9 first) : ∀ n, (iterI ties first n).length ≤ 4
  | 0 => by simp [iterI]
  | n + 1 => by
    show (stepI ties first (iterI ties first n)).length ≤ 4
    unfold stepI
    rw [step_canon ht hf (iterI_G9 ht hf n)]
    exact canon_len _

section
variable {ties first : List Item} (ht : G9 ties) (hf : G9 first) (pt : plusI ties)
include ht hf pt
theorem stepI_mono {now now' : List Item} (hn : G9 now) (hn' : G9 now') (pn : plusI now') (h : now.Sublist now') : (stepI ties first now).Sublist (stepI ties first now') := by
  unfold stepI
  rw [step_canon ht hf hn, step_canon ht hf hn']
  unfold canon
  refine List.Sublist.map _ (filter_sub (fun k hk => ?_) _)
  have hk : 0 < stepS_ ties first now k := of_decide_eq_true hk
  refine decide_eq_true ?_
  have hs : ((chI (leadI ties now)).Sublist (chI (leadI ties now'))) := (leadI_sub h).map _
  have hp : ∀ q ∈ chI (leadI ties now'), 0 ≤ q.2 := by
    intro q hq
    obtain ⟨z, hz, rfl⟩ := List.mem_map.1 hq
    obtain ⟨x, hx, hz⟩ := List.mem_flatMap.1 hz
    obtain ⟨y, hy, rfl⟩ := List.mem_map.1 hz
    have hy := (List.mem_filter.1 hy).1
    have hb := mul_bound (ht.small x hx) (hn'.small y hy)
    show 0 ≤ ar .mul .i64 x.Count y.Count
    rw [ar_mul (by omega)]
    exact Int.mul_nonneg (pt x hx) (pn y hy)
  have := sumT_sub hs hp [k, 0, 0]
  unfold stepS_ allI at hk ⊢
  have e1 : chI (first.map keyI ++ leadI ties now) = chI (first.map keyI) ++ chI (leadI ties now) := List.map_append
  have e2 : chI (first.map keyI ++ leadI ties now') = chI (first.map keyI) ++ chI (leadI ties now') := List.map_append
  rw [e1, sumT_append] at hk
  rw [e2, sumT_append]
  omega
theorem iterI_sub : ∀ n, (iterI ties first n).Sublist (iterI ties first (n + 1))
  | 0 => List.nil_sublist _
  | n + 1 => stepI_mono ht hf pt (iterI_G9 ht hf n) (iterI_G9 ht hf (n + 1)) (iterI_plus ties first (n + 1)) (iterI_sub n)
theorem iterI_46 : iterI ties first 4 = iterI ties first 6 := by
  have hlt : ∀ n, iterI ties first n = iterI ties first (n + 1) ∨ (iterI ties first n).length < (iterI ties first (n + 1)).length := by
    intro n
    have hs := iterI_sub ht hf pt n
    rcases Nat.lt_or_ge (iterI ties first n).length (iterI ties first (n + 1)).length with h | h
    · exact .inr h
    · exact .inl (hs.eq_of_length_le h)
  have key : ∃ n, n ≤ 4 ∧ iterI ties first n = iterI ties first (n + 1) := by
    by_cases he : ∃ n, n ≤ 4 ∧ iterI ties first n = iterI ties first (n + 1)
    · exact he
    · exfalso
      have h : ∀ n, n ≤ 4 → (iterI ties first n).length < (iterI ties first (n + 1)).length := fun n hn => by
        rcases hlt n with h | h
        · exact absurd ⟨n, hn, h⟩ he
        · exact h
      have h0 : (iterI ties first 0).length < (iterI ties first 1).length := h 0 (by omega)
      have h1 : (iterI ties first 1).length < (iterI ties first 2).length := h 1 (by omega)
      have h2 : (iterI ties first 2).length < (iterI ties first 3).length := h 2 (by omega)
      have h3 : (iterI ties first 3).length < (iterI ties first 4).length := h 3 (by omega)
      have h4 : (iterI ties first 4).length < (iterI ties first 5).length := h 4 (by omega)
      have h5 := iterI_len4 ht hf 5
      omega
  obtain ⟨n, hn, he⟩ := key
  have hf' : stepI ties first (iterI ties first n) = iterI ties first n := he.symm
  have e4 := iterI_fix hf' (4 - n)
  have e6 := iterI_fix hf' (6 - n)
  rw [show n + (4 - n) = 4 by omega] at e4
  rw [show n + (6 - n) = 6 by omega] at e6
  rw [e4, e6]
end

theorem FnLoopFour_true (c : List Int) (hc : ∀ x ∈ c, 0 ≤ x ∧ x ≤ 255) : p_laws_FnLoopFour c ∧ v_laws_FnLoopFour c = true := by
  by_cases hbig : cmp .gtr (lenI .byte c) 1048576 = true
  · simp only [p_laws_FnLoopFour, v_laws_FnLoopFour, laws_FnLoopFour_b_ob, laws_FnLoopFour_b, hbig, ocR]
    exact ⟨by simp, trivial⟩
  · have hbig : cmp .gtr (lenI .byte c) 1048576 = false := by simpa using hbig
    obtain ⟨d1, ties, first, n, d2, ⟨t1, t2⟩, ⟨f1, f2⟩, n1, n2⟩ := DrawLoopSet_ok hc
    have dt : D9 ties := ⟨t1, t2⟩
    have df : D9 first := ⟨f1, f2⟩
    obtain ⟨i1, i2⟩ := LoopSet_ok dt df n
    obtain ⟨r1, r2⟩ := specLoopSet_ok dt df n
    obtain ⟨a1, a2⟩ := spec_SetOk_ok ties (by omega)
    obtain ⟨b1, b2⟩ := spec_SetOk_ok first (by omega)
    obtain ⟨p1, p2⟩ := lwPlus_ok ties (by omega)
    obtain ⟨q1, q2⟩ := lwPlus_ok first (by omega)
    have hxl := roundsV_len dt df n
    rw [← r2] at i2
    generalize hx : v_spec_LoopSet ties first n = x at i2 r2
    rw [← r2] at hxl
    have w1 := lwItems_p (a := x) (b := x) (by omega)
    have w2 := lwItems_self (a := x) (by omega)
    by_cases h : setOk ties = true ∧ setOk first = true ∧ v_laws_lwPlus ties = true ∧ v_laws_lwPlus first = true
    · obtain ⟨e1, e2, e3, e4⟩ := h
      have gt := dt.g e1
      have gf := df.g e2
      obtain ⟨k1, k2⟩ := LoopSet_ok dt df 4
      obtain ⟨l1, l2⟩ := LoopSet_ok dt df 6
      rw [roundsV, if_pos ⟨e1, e2, by omega, by omega⟩] at k2 l2
      have h46 := iterI_46 gt gf (p2.1 e3)
      have k3 : v_impl_LoopSet ties first 4 = iterI ties first 6 := k2.trans h46
      have l3 : v_impl_LoopSet ties first 6 = iterI ties first 6 := l2
      have g6 := (iterI_G9 gt gf 6).len
      have w3 := lwItems_p (a := iterI ties first 6) (b := iterI ties first 6) (by omega)
      have w4 := lwItems_self (a := iterI ties first 6) (by omega)
      rw [e1] at a2
      rw [e2] at b2
      simp only [p_laws_FnLoopFour, v_laws_FnLoopFour, laws_FnLoopFour_b_ob, laws_FnLoopFour_b, hbig, d2, hx, i2, a2, b2, e3, e4, w2, k3, l3, w4, Bool.not_true, cond_false, ocR]
      exact ⟨by simp [d1, i1, r1, w1, a1, b1, p1, q1, k1, l1, w3], trivial⟩
    · have hc3 : cond (cond (cond (cond (!v_laws_lwItems x x) true (!v_spec_SetOk ties)) true (!v_spec_SetOk first)) true (!v_laws_lwPlus ties)) true (!v_laws_lwPlus first) = true := by
        rw [a2, b2, w2]
        cases e1 : setOk ties <;> cases e2 : setOk first <;> cases e3 : v_laws_lwPlus ties <;> cases e4 : v_laws_lwPlus first <;> first | rfl | exact absurd ⟨e1, e2, e3, e4⟩ h
      simp only [p_laws_FnLoopFour, v_laws_FnLoopFour, laws_FnLoopFour_b_ob, laws_FnLoopFour_b, hbig, d2, hx, i2, hc3, ocR]
      exact ⟨by simp [d1, i1, r1, w1, a1, b1, p1, q1], w2⟩

theorem FnLoopSet_true (c : List Int) (hc : ∀ x ∈ c, 0 ≤ x ∧ x ≤ 255) : p_laws_FnLoopSet c ∧ v_laws_FnLoopSet c = true := by
  by_cases hbig : cmp .gtr (lenI .byte c) 1048576 = true
  · simp only [p_laws_FnLoopSet, v_laws_FnLoopSet, laws_FnLoopSet_b_ob, laws_FnLoopSet_b, hbig, ocR]
    exact ⟨by simp, trivial⟩
  · have hbig : cmp .gtr (lenI .byte c) 1048576 = false := by simpa using hbig
    obtain ⟨d1, ties, first, n, d2, ⟨t1, t2⟩, ⟨f1, f2⟩, n1, n2⟩ := DrawLoopSet_ok hc
    have dt : D9 ties := ⟨t1, t2⟩
    have df : D9 first := ⟨f1, f2⟩
    obtain ⟨i1, i2⟩ := LoopSet_ok dt df n
    obtain ⟨r1, r2⟩ := specLoopSet_ok dt df n
    obtain ⟨a1, a2⟩ := spec_SetOk_ok ties (by omega)
    obtain ⟨b1, b2⟩ := spec_SetOk_ok first (by omega)
    obtain ⟨p1, p2⟩ := lwPlus_ok ties (by omega)
    obtain ⟨q1, q2⟩ := lwPlus_ok first (by omega)
    have hxl := roundsV_len dt df n
    rw [← r2] at i2
    generalize hx : v_spec_LoopSet ties first n = x at i2 r2
    rw [← r2] at hxl
    have w1 := lwItems_p (a := x) (b := x) (by omega)
    have w2 := lwItems_self (a := x) (by omega)
    by_cases h : setOk ties = true ∧ setOk first = true ∧ v_laws_lwPlus ties = true ∧ v_laws_lwPlus first = true ∧ 0 ≤ n ∧ n < 6
    · obtain ⟨e1, e2, e3, e4, e5, e6⟩ := h
      have gt := dt.g e1
      have gf := df.g e2
      obtain ⟨m, rfl⟩ : ∃ m : Nat, n = (m : Int) := ⟨n.toNat, by omega⟩
      have hxi : x = iterI ties first m := by rw [r2, roundsV, if_pos ⟨e1, e2, e5, by omega⟩, Int.toNat_natCast]
      have gx : G9 x := hxi ▸ iterI_G9 gt gf m
      have hadd : ar .add .i64 (m : Int) 1 = ((m + 1 : Nat) : Int) := by rw [ar_add (by omega)]; omega
      obtain ⟨l1, l2⟩ := LoopSet_ok dt df ((m + 1 : Nat) : Int)
      rw [roundsV, if_pos ⟨e1, e2, by omega, by omega⟩, Int.toNat_natCast] at l2
      generalize hy : iterI ties first (m + 1) = y at l2
      have gy : G9 y := hy ▸ iterI_G9 gt gf (m + 1)
      have gyl := gy.len
      have hsub : x.Sublist y := by rw [hxi, ← hy]; exact iterI_sub gt gf (p2.1 e3) m
      obtain ⟨j1, j2⟩ := (steps_ok dt df gx.d).1
      rw [if_pos ⟨e1, e2, gx.ok⟩] at j2
      have j3 : v_impl_LoopStep ties first x = y := by rw [j2, hxi, ← hy]; rfl
      have w3 := lwItems_p (a := y) (b := y) (by omega)
      have w4 := lwItems_self (a := y) (by omega)
      have o1 : cmp .lss (m : Int) 0 = false := by rw [cmp_lss']; simp
      have o2 : cmp .geq (m : Int) 6 = false := by rw [cmp_geq']; simp; omega
      rw [e1] at a2
      rw [e2] at b2
      have key : Runs (fun s => ocLp ((fun (s : Int) => laws_FnLoopSet_c2_r ties first x y s) s)) (fun s => laws_FnLoopSet_c2_r_ob ties first x y s) 0 (.x ()) := by
        refine Runs.fold x (fun i (_ : Unit) => (i : Int)) (fun _ => ()) rfl (fun l z r hz => ?_) ?_
        · have hlen : x.length = l.length + (r.length + 1) := by rw [hz]; simp
          have hrd : rd .item x (l.length : Int) = z := by rw [hz]; exact rd_mid
          have hin : inb (l.length : Int) (lenI .item x) := by rw [hz]; exact inb_mid (t := .item)
          have hlss : cmp .lss (l.length : Int) (lenI .item x) = true := by rw [hz]; exact lss_mid
          have hzy : z ∈ y := hsub.subset (by rw [hz]; simp)
          obtain ⟨u1, u2⟩ := lwHas_ok y z (by omega)
          have u3 := u2 hzy
          simp only [laws_FnLoopSet_c2_r_ob, laws_FnLoopSet_c2_r, hlss, hrd, u3, Bool.not_true, succ_mid (l := l) (by omega)]
          exact ⟨by simp [hin, u1], by simp [ocLp]⟩
        · have hend : cmp .lss (x.length : Int) (lenI .item x) = false := lss_end (t := .item)
          simp only [laws_FnLoopSet_c2_r_ob, laws_FnLoopSet_c2_r, hend]
          exact ⟨by simp, rfl⟩
      have k1 : laws_FnLoopSet_c2 ties first x y = .x () := key.v
      have k2 : laws_FnLoopSet_c2_ob ties first x y := key.t
      simp only [p_laws_FnLoopSet, v_laws_FnLoopSet, laws_FnLoopSet_b_ob, laws_FnLoopSet_b, laws_FnLoopSet_c1_ob, laws_FnLoopSet_c1, hbig, d2, hx, i2, a2, b2, e3, e4, o1, o2, w2, hadd, l2, k1, j3, w4, Bool.not_true, cond_false, ocR]
      have l1' : p_impl_LoopSet ties first ((m : Int) + 1) := l1
      exact ⟨by simp [d1, i1, r1, w1, a1, b1, p1, q1, l1', k2, j1, w3], trivial⟩
    · have hc3 : cond (cond (cond (cond (cond (cond (!v_laws_lwItems x x) true (!v_spec_SetOk ties)) true (!v_spec_SetOk first)) true (cmp .lss n 0)) true (cmp .geq n 6)) true (!v_laws_lwPlus ties)) true (!v_laws_lwPlus first) = true := by
        rw [a2, b2, w2, cmp_lss', cmp_geq']
        cases e1 : setOk ties <;> cases e2 : setOk first <;> cases e3 : v_laws_lwPlus ties <;> cases e4 : v_laws_lwPlus first <;> first | (simp; done) | (simp; have : ¬ (0 ≤ n ∧ n < 6) := fun h' => h ⟨e1, e2, e3, e4, h'⟩; omega)
      simp only [p_laws_FnLoopSet, v_laws_FnLoopSet, laws_FnLoopSet_b_ob, laws_FnLoopSet_b, hbig, d2, hx, i2, hc3, ocR]
      exact ⟨by simp [d1, i1, r1, w1, a1, b1, p1, q1], w2⟩
end Go.Proofs.Ytopcofkpggefkaa
