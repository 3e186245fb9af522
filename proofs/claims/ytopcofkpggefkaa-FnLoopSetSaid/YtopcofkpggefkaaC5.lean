/-
  Printed by a program: what functions compute, and their contracts (part 2). No statement is proved here.
-/
import Derived.Test.YtopcofkpggefkaaC4

namespace Go.Proofs.Ytopcofkpggefkaa
open Go
noncomputable def sp_impl_loopStep : SP := [(107, s_impl_gathered), (125, s_impl_once)]
noncomputable def impl_loopStep_c2_r (_x4 : List Item) (_x5 : List Item) (x6 : List Item) (x7 : Int) (s11 : List Item) (s12 : Int) : Oc ((List Item) × Int) (List Item) ((List Item)) Empty Empty :=
  match (cmp .lss s12 x7) with
  | true =>
    .n ((s11 ++ [(Item.mk (rd .item x6 s12).Key 0 (rd .item x6 s12).Count)]), (ar .add .i64 s12 1))
  | false =>
    .x s11
def impl_loopStep_c2_r_ob (_x4 : List Item) (_x5 : List Item) (x6 : List Item) (x7 : Int) (s11 : List Item) (s12 : Int) : Prop :=
  ((True)) ∧
  ((cmp .lss s12 x7) = true →
    ((inb s12 (lenI .item x6)) ∧ (True)) ∧
    ((lim (lenI .item s11) (lenI .item [(Item.mk (rd .item x6 s12).Key 0 (rd .item x6 s12).Count)])) ∧ (True)) ∧
    ((True)) ∧
    True) ∧ ((cmp .lss s12 x7) = false →
    True)
set_option maxRecDepth 100000 in
theorem impl_loopStep_c2_r_ok (G : Good Try.prog tt sp_impl_loopStep) {fr : Fr} (x4 : List Item) (x5 : List Item) (x6 : List Item) (x7 : Int) (s11 : List Item) (s12 : Int) (hob : impl_loopStep_c2_r_ob x4 x5 x6 x7 s11 s12) {n r : Env → Prop} {x : Nat → Env → Prop}
    (hn : ∀ (q17 : List Item) (q18 : Int), (impl_loopStep_c2_r x4 x5 x6 x7 s11 s12) = .n (q17, q18) → ∀ e, Weak e [(0, .v .sh (.lst .item x4)), (2, .v .sh (.lst .item x5)), (7, .v (.acc true) (.lst .item q17)), (15, .v .sh (.lst .item x6)), (16, .v .fr (.int .i64 x7)), (17, .v .fr (.int .i64 q18))] → n e)
    (_hr : ∀ q, (impl_loopStep_c2_r x4 x5 x6 x7 s11 s12) = .r q → ∀ e, retAv tt e [.tmp 6] (.one (.acc true) (.lst .item)) = some (RT.av (.one (.acc true) (.lst .item)) q) → r e)
    (hx : ∀ (q16 : List Item), (impl_loopStep_c2_r x4 x5 x6 x7 s11 s12) = .x q16 → ∀ e, Weak e [(0, .v .sh (.lst .item x4)), (2, .v .sh (.lst .item x5)), (7, .v (.acc true) (.lst .item q16))] → x 0 e) :
    Ht Try.prog ⟨(Try.f85).ntmps, none, []⟩ fr (nav (bodyOf (Try.f85)) [1, 1, 0, 1, 0, 0]) [(0, .v .sh (.lst .item x4)), (2, .v .sh (.lst .item x5)), (7, .v (.acc true) (.lst .item s11)), (15, .v .sh (.lst .item x6)), (16, .v .fr (.int .i64 x7)), (17, .v .fr (.int .i64 s12))] n r x := by
  unfold impl_loopStep_c2_r_ob at hob
  refine Ht.seq (c1 := (nav (bodyOf (Try.f85)) [1, 1, 0, 1, 0, 0, 0])) (c2 := (nav (bodyOf (Try.f85)) [1, 1, 0, 1, 0, 0, 1])) (by kernel_rfl) ?_
  refine Ht.reg G (keep := [0, 2, 7, 15, 16, 17, 18]) (e' := [(0, .v .sh (.lst .item x4)), (2, .v .sh (.lst .item x5)), (7, .v (.acc true) (.lst .item s11)), (15, .v .sh (.lst .item x6)), (16, .v .fr (.int .i64 x7)), (17, .v .fr (.int .i64 s12)), (18, .v .fr (.bool (cmp .lss s12 x7)))]) (obs := []) (by kernel_rfl) hob.1 ?_
  refine Ht.seq (c1 := (nav (bodyOf (Try.f85)) [1, 1, 0, 1, 0, 0, 1, 0])) (c2 := (nav (bodyOf (Try.f85)) [1, 1, 0, 1, 0, 0, 1, 1])) (by kernel_rfl) ?_
  refine Ht.cond (o := .tmp 18) (c1 := (nav (bodyOf (Try.f85)) [1, 1, 0, 1, 0, 0, 1, 0, 0])) (c2 := (nav (bodyOf (Try.f85)) [1, 1, 0, 1, 0, 0, 1, 0, 1])) (b := (cmp .lss s12 x7)) (by kernel_rfl) (by kernel_rfl) (fun h13 => ?_) (fun h13 => ?_)
  · have hb := hob.2.1 h13
    refine Ht.skip (by kernel_rfl) ?_
    refine Ht.seq (c1 := (nav (bodyOf (Try.f85)) [1, 1, 0, 1, 0, 0, 1, 1, 0])) (c2 := (nav (bodyOf (Try.f85)) [1, 1, 0, 1, 0, 0, 1, 1, 1])) (by kernel_rfl) ?_
    refine Ht.block (id := 1) (c1 := (nav (bodyOf (Try.f85)) [1, 1, 0, 1, 0, 0, 1, 1, 0, 0])) (by kernel_rfl) ?_
    refine Ht.seq (c1 := (nav (bodyOf (Try.f85)) [1, 1, 0, 1, 0, 0, 1, 1, 0, 0, 0])) (c2 := (nav (bodyOf (Try.f85)) [1, 1, 0, 1, 0, 0, 1, 1, 0, 0, 1])) (by kernel_rfl) ?_
    refine Ht.reg G (keep := [0, 2, 7, 9, 15, 16, 17]) (e' := [(0, .v .sh (.lst .item x4)), (2, .v .sh (.lst .item x5)), (7, .v (.acc true) (.lst .item s11)), (9, .box [(.fr, .int .i64 (rd .item x6 s12).Key), (.fr, .int .i64 (rd .item x6 s12).Val), (.fr, .int .i64 (rd .item x6 s12).Count)]), (15, .v .sh (.lst .item x6)), (16, .v .fr (.int .i64 x7)), (17, .v .fr (.int .i64 s12))]) (obs := [inb s12 (lenI .item x6)]) (by kernel_rfl) hb.1 ?_
    refine Ht.reg G (keep := [0, 2, 7, 15, 16, 17]) (e' := [(0, .v .sh (.lst .item x4)), (2, .v .sh (.lst .item x5)), (7, .v (.acc true) (.lst .item (s11 ++ [(Item.mk (rd .item x6 s12).Key 0 (rd .item x6 s12).Count)]))), (15, .v .sh (.lst .item x6)), (16, .v .fr (.int .i64 x7)), (17, .v .fr (.int .i64 s12))]) (obs := [lim (lenI .item s11) (lenI .item [(Item.mk (rd .item x6 s12).Key 0 (rd .item x6 s12).Count)])]) (by kernel_rfl) hb.2.1 ?_
    refine Ht.reg G (keep := [0, 2, 7, 15, 16, 17]) (e' := [(0, .v .sh (.lst .item x4)), (2, .v .sh (.lst .item x5)), (7, .v (.acc true) (.lst .item (s11 ++ [(Item.mk (rd .item x6 s12).Key 0 (rd .item x6 s12).Count)]))), (15, .v .sh (.lst .item x6)), (16, .v .fr (.int .i64 x7)), (17, .v .fr (.int .i64 (ar .add .i64 s12 1)))]) (obs := []) (by kernel_rfl) hb.2.2.1 ?_
    exact hn (s11 ++ [(Item.mk (rd .item x6 s12).Key 0 (rd .item x6 s12).Count)]) (ar .add .i64 s12 1) (by simp only [impl_loopStep_c2_r, h13]) _ (Weak.cast (pat := [(0, .sh), (2, .sh), (7, (.acc true)), (15, .sh), (16, .fr), (17, .fr)]) (by kernel_rfl) (by kernel_rfl))
  · have hb := hob.2.2 h13
    refine Ht.exit (i := 0) (by kernel_rfl) ?_
    exact hx s11 (by simp only [impl_loopStep_c2_r, h13]) _ (Weak.cast (pat := [(0, .sh), (2, .sh), (7, (.acc true))]) (by kernel_rfl) (by kernel_rfl))

noncomputable def impl_loopStep_c2 (x4 : List Item) (x5 : List Item) (x6 : List Item) (x7 : Int) : Oc Empty (List Item) ((List Item)) Empty Empty := lpV (fun s => ocLp ((fun (s : (List Item) × Int) => impl_loopStep_c2_r x4 x5 x6 x7 s.1 s.2) s)) ([], 0)
def impl_loopStep_c2_ob (x4 : List Item) (x5 : List Item) (x6 : List Item) (x7 : Int) : Prop := LpT (fun s => ocLp ((fun (s : (List Item) × Int) => impl_loopStep_c2_r x4 x5 x6 x7 s.1 s.2) s)) (fun s => impl_loopStep_c2_r_ob x4 x5 x6 x7 s.1 s.2) ([], 0)
set_option maxRecDepth 100000 in
theorem impl_loopStep_c2_ok (G : Good Try.prog tt sp_impl_loopStep) {fr : Fr} (x4 : List Item) (x5 : List Item) (x6 : List Item) (x7 : Int) (hob : impl_loopStep_c2_ob x4 x5 x6 x7) {n r : Env → Prop} {x : Nat → Env → Prop}
    (hr : ∀ q, (impl_loopStep_c2 x4 x5 x6 x7) = .r q → ∀ e, retAv tt e [.tmp 6] (.one (.acc true) (.lst .item)) = some (RT.av (.one (.acc true) (.lst .item)) q) → r e)
    (hx : ∀ (q16 : List Item), (impl_loopStep_c2 x4 x5 x6 x7) = .x q16 → ∀ e, Weak e [(0, .v .sh (.lst .item x4)), (2, .v .sh (.lst .item x5)), (7, .v (.acc true) (.lst .item q16))] → x 0 e) :
    Ht Try.prog ⟨(Try.f85).ntmps, none, []⟩ fr (nav (bodyOf (Try.f85)) [1, 1, 0, 1, 0]) [(0, .v .sh (.lst .item x4)), (2, .v .sh (.lst .item x5)), (7, .v (.acc true) (.lst .item [])), (15, .v .sh (.lst .item x6)), (16, .v .fr (.int .i64 x7)), (17, .v .fr (.int .i64 0))] n r x := by
  unfold impl_loopStep_c2_ob at hob
  refine Ht.weak (e' := (fun (s : (List Item) × Int) => [(0, .v .sh (.lst .item x4)), (2, .v .sh (.lst .item x5)), (7, .v (.acc true) (.lst .item s.1)), (15, .v .sh (.lst .item x6)), (16, .v .fr (.int .i64 x7)), (17, .v .fr (.int .i64 s.2))]) ([], 0)) (Weak.cast (pat := [(0, .sh), (2, .sh), (7, (.acc true)), (15, .sh), (16, .fr), (17, .fr)]) (by kernel_rfl) (by kernel_rfl)) ?_
  refine Ht.loopOc (c1 := (nav (bodyOf (Try.f85)) [1, 1, 0, 1, 0, 0])) (by kernel_rfl) (fun (s : (List Item) × Int) => [(0, .v .sh (.lst .item x4)), (2, .v .sh (.lst .item x5)), (7, .v (.acc true) (.lst .item s.1)), (15, .v .sh (.lst .item x6)), (16, .v .fr (.int .i64 x7)), (17, .v .fr (.int .i64 s.2))]) (fun (s : (List Item) × Int) => impl_loopStep_c2_r x4 x5 x6 x7 s.1 s.2) hob (RP := fun q e => retAv tt e [.tmp 6] (.one (.acc true) (.lst .item)) = some (RT.av (.one (.acc true) (.lst .item)) q)) (XP := (fun i q e => i = 0 ∧ Weak e [(0, .v .sh (.lst .item x4)), (2, .v .sh (.lst .item x5)), (7, .v (.acc true) (.lst .item q))])) (YP := (fun _ _ _ => False)) (ZP := (fun _ _ _ => False)) (fun s hs => ?_) ?_ ?_ ?_ ?_
  · refine impl_loopStep_c2_r_ok G x4 x5 x6 x7 s.1 s.2 hs (fun q17 q18 h e hw => ⟨(q17, q18), h, hw⟩) (fun q h e he => ⟨q, h, he⟩) (fun q16 h e hw => .inl ⟨q16, h, rfl, hw⟩)
  · exact fun q e h he => hr q h e he
  · rintro i q e h ⟨rfl, hw⟩
    exact hx q h e hw
  · exact fun _ _ _ _ h => h.elim
  · exact fun _ _ _ _ h => h.elim


noncomputable def impl_loopStep_c1 (x1 : List Item) (x2 : List Item) (x3 : List Item) : Oc ((List Item)) (List Item) Empty Empty Empty :=
  match (impl_loopStep_c2 x1 x3 x2 (lenI .item x2)) with
  | .r q19 =>
    .r q19
  | .x q21 =>
    .n q21
  | .n q => q.elim
  | .y q => q.elim
  | .z q => q.elim
def impl_loopStep_c1_ob (x1 : List Item) (x2 : List Item) (x3 : List Item) : Prop :=
  ((True)) ∧
  (impl_loopStep_c2_ob x1 x3 x2 (lenI .item x2)) ∧
  (∀ (q21 : List Item), (impl_loopStep_c2 x1 x3 x2 (lenI .item x2)) = .x q21 →
    True)
set_option maxRecDepth 100000 in
theorem impl_loopStep_c1_ok (G : Good Try.prog tt sp_impl_loopStep) {fr : Fr} (x1 : List Item) (x2 : List Item) (x3 : List Item) (hob : impl_loopStep_c1_ob x1 x2 x3) {n r : Env → Prop} {x : Nat → Env → Prop}
    (hn : ∀ (q23 : List Item), (impl_loopStep_c1 x1 x2 x3) = .n q23 → ∀ e, Weak e [(0, .v .sh (.lst .item x1)), (2, .v .sh (.lst .item x3)), (7, .v (.acc true) (.lst .item q23))] → n e)
    (hr : ∀ q, (impl_loopStep_c1 x1 x2 x3) = .r q → ∀ e, retAv tt e [.tmp 6] (.one (.acc true) (.lst .item)) = some (RT.av (.one (.acc true) (.lst .item)) q) → r e) :
    Ht Try.prog ⟨(Try.f85).ntmps, none, []⟩ fr (nav (bodyOf (Try.f85)) [1, 1, 0]) [(0, .v .sh (.lst .item x1)), (1, .v .sh (.lst .item x2)), (2, .v .sh (.lst .item x3)), (7, .v (.acc true) (.lst .item []))] n r x := by
  unfold impl_loopStep_c1_ob at hob
  refine Ht.seq (c1 := (nav (bodyOf (Try.f85)) [1, 1, 0, 0])) (c2 := (nav (bodyOf (Try.f85)) [1, 1, 0, 1])) (by kernel_rfl) ?_
  refine Ht.reg G (keep := [0, 2, 7, 15, 16, 17]) (e' := [(0, .v .sh (.lst .item x1)), (2, .v .sh (.lst .item x3)), (7, .v (.acc true) (.lst .item [])), (15, .v .sh (.lst .item x2)), (16, .v .fr (.int .i64 (lenI .item x2))), (17, .v .fr (.int .i64 0))]) (obs := []) (by kernel_rfl) hob.1 ?_
  refine Ht.block (id := 0) (c1 := (nav (bodyOf (Try.f85)) [1, 1, 0, 1, 0])) (by kernel_rfl) ?_
  refine Ht.weak (e' := [(0, .v .sh (.lst .item x1)), (2, .v .sh (.lst .item x3)), (7, .v (.acc true) (.lst .item [])), (15, .v .sh (.lst .item x2)), (16, .v .fr (.int .i64 (lenI .item x2))), (17, .v .fr (.int .i64 0))]) (Weak.cast (pat := [(0, .same), (2, .same), (7, .same), (15, .same), (16, .same), (17, .same)]) (by kernel_rfl) (by kernel_rfl)) ?_
  refine impl_loopStep_c2_ok G x1 x3 x2 (lenI .item x2) hob.2.1 (fun q h20 e he => hr q (by simp only [impl_loopStep_c1, h20]) e he) (fun q21 h22 e hw => ?_)
  · have hb := hob.2.2 q21 h22
    exact hn q21 (by simp only [impl_loopStep_c1, h22]) e (hw.trans (Weak.cast (pat := [(0, .sh), (2, .sh), (7, (.acc true))]) (by kernel_rfl) (by kernel_rfl)))

noncomputable def impl_loopStep_c7 (x125 : List Item) (x126 : List Item) (x127 : Item) (_x128 : List Item) (_x129 : Int) (_x130 : Int) (_x131 : Int) (x132 : Int) : Oc ((List Item)) (List Item) Empty Empty Empty :=
  match (cmp .eql x127.Key (rd .item x125 x132).Key) with
  | true =>
    .n (x126 ++ [(Item.mk (ar .rem .i64 x127.Val 4) 0 (ar .mul .i64 x127.Count (rd .item x125 x132).Count))])
  | false =>
    .n x126
def impl_loopStep_c7_ob (x125 : List Item) (x126 : List Item) (x127 : Item) (_x128 : List Item) (_x129 : Int) (_x130 : Int) (_x131 : Int) (x132 : Int) : Prop :=
  ((inb x132 (lenI .item x125)) ∧ (True)) ∧
  ((True)) ∧
  ((cmp .eql x127.Key (rd .item x125 x132).Key) = true →
    (((4 : Int) ≠ 0) ∧ (lim (lenI .item x126) (lenI .item [(Item.mk (ar .rem .i64 x127.Val 4) 0 (ar .mul .i64 x127.Count (rd .item x125 x132).Count))])) ∧ (True)) ∧
    True) ∧ ((cmp .eql x127.Key (rd .item x125 x132).Key) = false →
    True)
set_option maxRecDepth 100000 in
theorem impl_loopStep_c7_ok (G : Good Try.prog tt sp_impl_loopStep) {fr : Fr} (x125 : List Item) (x126 : List Item) (x127 : Item) (x128 : List Item) (x129 : Int) (x130 : Int) (x131 : Int) (x132 : Int) (hob : impl_loopStep_c7_ob x125 x126 x127 x128 x129 x130 x131 x132) {n r : Env → Prop} {x : Nat → Env → Prop}
    (hn : ∀ (q134 : List Item), (impl_loopStep_c7 x125 x126 x127 x128 x129 x130 x131 x132) = .n q134 → ∀ e, Weak e [(2, .v .sh (.lst .item x125)), (7, .v (.acc true) (.lst .item q134)), (11, .box [(.fr, .int .i64 x127.Key), (.fr, .int .i64 x127.Val), (.fr, .int .i64 x127.Count)]), (30, .v .sh (.lst .item x128)), (31, .v .fr (.int .i64 x129)), (32, .v .fr (.int .i64 x130)), (36, .v .sh (.lst .item x125)), (37, .v .fr (.int .i64 x131)), (38, .v .fr (.int .i64 x132))] → n e)
    (_hr : ∀ q, (impl_loopStep_c7 x125 x126 x127 x128 x129 x130 x131 x132) = .r q → ∀ e, retAv tt e [.tmp 6] (.one (.acc true) (.lst .item)) = some (RT.av (.one (.acc true) (.lst .item)) q) → r e) :
    Ht Try.prog ⟨(Try.f85).ntmps, none, []⟩ fr (nav (bodyOf (Try.f85)) [1, 1, 1, 0, 1, 0, 0, 1, 1, 0, 0, 1, 1, 0, 0, 1, 1, 0]) [(2, .v .sh (.lst .item x125)), (7, .v (.acc true) (.lst .item x126)), (11, .box [(.fr, .int .i64 x127.Key), (.fr, .int .i64 x127.Val), (.fr, .int .i64 x127.Count)]), (30, .v .sh (.lst .item x128)), (31, .v .fr (.int .i64 x129)), (32, .v .fr (.int .i64 x130)), (36, .v .sh (.lst .item x125)), (37, .v .fr (.int .i64 x131)), (38, .v .fr (.int .i64 x132))] n r x := by
  unfold impl_loopStep_c7_ob at hob
  refine Ht.block (id := 5) (c1 := (nav (bodyOf (Try.f85)) [1, 1, 1, 0, 1, 0, 0, 1, 1, 0, 0, 1, 1, 0, 0, 1, 1, 0, 0])) (by kernel_rfl) ?_
  refine Ht.seq (c1 := (nav (bodyOf (Try.f85)) [1, 1, 1, 0, 1, 0, 0, 1, 1, 0, 0, 1, 1, 0, 0, 1, 1, 0, 0, 0])) (c2 := (nav (bodyOf (Try.f85)) [1, 1, 1, 0, 1, 0, 0, 1, 1, 0, 0, 1, 1, 0, 0, 1, 1, 0, 0, 1])) (by kernel_rfl) ?_
  refine Ht.reg G (keep := [2, 7, 11, 13, 30, 31, 32, 36, 37, 38]) (e' := [(2, .v .sh (.lst .item x125)), (7, .v (.acc true) (.lst .item x126)), (11, .box [(.fr, .int .i64 x127.Key), (.fr, .int .i64 x127.Val), (.fr, .int .i64 x127.Count)]), (13, .box [(.fr, .int .i64 (rd .item x125 x132).Key), (.fr, .int .i64 (rd .item x125 x132).Val), (.fr, .int .i64 (rd .item x125 x132).Count)]), (30, .v .sh (.lst .item x128)), (31, .v .fr (.int .i64 x129)), (32, .v .fr (.int .i64 x130)), (36, .v .sh (.lst .item x125)), (37, .v .fr (.int .i64 x131)), (38, .v .fr (.int .i64 x132))]) (obs := [inb x132 (lenI .item x125)]) (by kernel_rfl) hob.1 ?_
  refine Ht.seq (c1 := (nav (bodyOf (Try.f85)) [1, 1, 1, 0, 1, 0, 0, 1, 1, 0, 0, 1, 1, 0, 0, 1, 1, 0, 0, 1, 0])) (c2 := (nav (bodyOf (Try.f85)) [1, 1, 1, 0, 1, 0, 0, 1, 1, 0, 0, 1, 1, 0, 0, 1, 1, 0, 0, 1, 1])) (by kernel_rfl) ?_
  refine Ht.reg G (keep := [2, 7, 11, 13, 30, 31, 32, 36, 37, 38, 46]) (e' := [(2, .v .sh (.lst .item x125)), (7, .v (.acc true) (.lst .item x126)), (11, .box [(.fr, .int .i64 x127.Key), (.fr, .int .i64 x127.Val), (.fr, .int .i64 x127.Count)]), (13, .box [(.fr, .int .i64 (rd .item x125 x132).Key), (.fr, .int .i64 (rd .item x125 x132).Val), (.fr, .int .i64 (rd .item x125 x132).Count)]), (30, .v .sh (.lst .item x128)), (31, .v .fr (.int .i64 x129)), (32, .v .fr (.int .i64 x130)), (36, .v .sh (.lst .item x125)), (37, .v .fr (.int .i64 x131)), (38, .v .fr (.int .i64 x132)), (46, .v .fr (.bool (cmp .eql x127.Key (rd .item x125 x132).Key)))]) (obs := []) (by kernel_rfl) hob.2.1 ?_
  refine Ht.cond (o := .tmp 46) (c1 := (nav (bodyOf (Try.f85)) [1, 1, 1, 0, 1, 0, 0, 1, 1, 0, 0, 1, 1, 0, 0, 1, 1, 0, 0, 1, 1, 0])) (c2 := (nav (bodyOf (Try.f85)) [1, 1, 1, 0, 1, 0, 0, 1, 1, 0, 0, 1, 1, 0, 0, 1, 1, 0, 0, 1, 1, 1])) (b := (cmp .eql x127.Key (rd .item x125 x132).Key)) (by kernel_rfl) (by kernel_rfl) (fun h133 => ?_) (fun h133 => ?_)
  · have hb := hob.2.2.1 h133
    refine Ht.reg G (keep := [2, 7, 11, 30, 31, 32, 36, 37, 38]) (e' := [(2, .v .sh (.lst .item x125)), (7, .v (.acc true) (.lst .item (x126 ++ [(Item.mk (ar .rem .i64 x127.Val 4) 0 (ar .mul .i64 x127.Count (rd .item x125 x132).Count))]))), (11, .box [(.fr, .int .i64 x127.Key), (.fr, .int .i64 x127.Val), (.fr, .int .i64 x127.Count)]), (30, .v .sh (.lst .item x128)), (31, .v .fr (.int .i64 x129)), (32, .v .fr (.int .i64 x130)), (36, .v .sh (.lst .item x125)), (37, .v .fr (.int .i64 x131)), (38, .v .fr (.int .i64 x132))]) (obs := [(4 : Int) ≠ 0, lim (lenI .item x126) (lenI .item [(Item.mk (ar .rem .i64 x127.Val 4) 0 (ar .mul .i64 x127.Count (rd .item x125 x132).Count))])]) (by kernel_rfl) hb.1 ?_
    exact hn (x126 ++ [(Item.mk (ar .rem .i64 x127.Val 4) 0 (ar .mul .i64 x127.Count (rd .item x125 x132).Count))]) (by simp only [impl_loopStep_c7, h133]) _ (Weak.cast (pat := [(2, .sh), (7, (.acc true)), (11, .same), (30, .sh), (31, .fr), (32, .fr), (36, .sh), (37, .fr), (38, .fr)]) (by kernel_rfl) (by kernel_rfl))
  · have hb := hob.2.2.2 h133
    refine Ht.skip (by kernel_rfl) ?_
    exact hn x126 (by simp only [impl_loopStep_c7, h133]) _ (Weak.cast (pat := [(2, .sh), (7, (.acc true)), (11, .same), (30, .sh), (31, .fr), (32, .fr), (36, .sh), (37, .fr), (38, .fr)]) (by kernel_rfl) (by kernel_rfl))

noncomputable def impl_loopStep_c6_r (x99 : List Item) (_x100 : List Item) (x101 : Item) (x102 : List Item) (x103 : Int) (x104 : Int) (x105 : Int) (s122 : List Item) (s123 : Int) : Oc ((List Item) × Int) (List Item) ((List Item)) Empty Empty :=
  match (cmp .lss s123 x105) with
  | true =>
    match (impl_loopStep_c7 x99 s122 x101 x102 x103 x104 x105 s123) with
    | .n q135 =>
      .n (q135, (ar .add .i64 s123 1))
    | .r q137 =>
      .r q137
    | .x q => q.elim
    | .y q => q.elim
    | .z q => q.elim
  | false =>
    .x s122
def impl_loopStep_c6_r_ob (x99 : List Item) (_x100 : List Item) (x101 : Item) (x102 : List Item) (x103 : Int) (x104 : Int) (x105 : Int) (s122 : List Item) (s123 : Int) : Prop :=
  ((True)) ∧
  ((cmp .lss s123 x105) = true →
    (impl_loopStep_c7_ob x99 s122 x101 x102 x103 x104 x105 s123) ∧
    (∀ (q135 : List Item), (impl_loopStep_c7 x99 s122 x101 x102 x103 x104 x105 s123) = .n q135 →
      ((True)) ∧
      True)) ∧ ((cmp .lss s123 x105) = false →
    True)
set_option maxRecDepth 100000 in
theorem impl_loopStep_c6_r_ok (G : Good Try.prog tt sp_impl_loopStep) {fr : Fr} (x99 : List Item) (x100 : List Item) (x101 : Item) (x102 : List Item) (x103 : Int) (x104 : Int) (x105 : Int) (s122 : List Item) (s123 : Int) (hob : impl_loopStep_c6_r_ob x99 x100 x101 x102 x103 x104 x105 s122 s123) {n r : Env → Prop} {x : Nat → Env → Prop}
    (hn : ∀ (q142 : List Item) (q143 : Int), (impl_loopStep_c6_r x99 x100 x101 x102 x103 x104 x105 s122 s123) = .n (q142, q143) → ∀ e, Weak e [(2, .v .sh (.lst .item x99)), (7, .v (.acc true) (.lst .item q142)), (11, .box [(.fr, .int .i64 x101.Key), (.fr, .int .i64 x101.Val), (.fr, .int .i64 x101.Count)]), (30, .v .sh (.lst .item x102)), (31, .v .fr (.int .i64 x103)), (32, .v .fr (.int .i64 x104)), (36, .v .sh (.lst .item x99)), (37, .v .fr (.int .i64 x105)), (38, .v .fr (.int .i64 q143))] → n e)
    (hr : ∀ q, (impl_loopStep_c6_r x99 x100 x101 x102 x103 x104 x105 s122 s123) = .r q → ∀ e, retAv tt e [.tmp 6] (.one (.acc true) (.lst .item)) = some (RT.av (.one (.acc true) (.lst .item)) q) → r e)
    (hx : ∀ (q141 : List Item), (impl_loopStep_c6_r x99 x100 x101 x102 x103 x104 x105 s122 s123) = .x q141 → ∀ e, Weak e [(2, .v .sh (.lst .item x99)), (7, .v (.acc true) (.lst .item q141)), (30, .v .sh (.lst .item x102)), (31, .v .fr (.int .i64 x103)), (32, .v .fr (.int .i64 x104))] → x 4 e) :
    Ht Try.prog ⟨(Try.f85).ntmps, none, []⟩ fr (nav (bodyOf (Try.f85)) [1, 1, 1, 0, 1, 0, 0, 1, 1, 0, 0, 1, 1, 0, 0]) [(2, .v .sh (.lst .item x99)), (7, .v (.acc true) (.lst .item s122)), (11, .box [(.fr, .int .i64 x101.Key), (.fr, .int .i64 x101.Val), (.fr, .int .i64 x101.Count)]), (30, .v .sh (.lst .item x102)), (31, .v .fr (.int .i64 x103)), (32, .v .fr (.int .i64 x104)), (36, .v .sh (.lst .item x99)), (37, .v .fr (.int .i64 x105)), (38, .v .fr (.int .i64 s123))] n r x := by
  unfold impl_loopStep_c6_r_ob at hob
  refine Ht.seq (c1 := (nav (bodyOf (Try.f85)) [1, 1, 1, 0, 1, 0, 0, 1, 1, 0, 0, 1, 1, 0, 0, 0])) (c2 := (nav (bodyOf (Try.f85)) [1, 1, 1, 0, 1, 0, 0, 1, 1, 0, 0, 1, 1, 0, 0, 1])) (by kernel_rfl) ?_
  refine Ht.reg G (keep := [2, 7, 11, 30, 31, 32, 36, 37, 38, 39]) (e' := [(2, .v .sh (.lst .item x99)), (7, .v (.acc true) (.lst .item s122)), (11, .box [(.fr, .int .i64 x101.Key), (.fr, .int .i64 x101.Val), (.fr, .int .i64 x101.Count)]), (30, .v .sh (.lst .item x102)), (31, .v .fr (.int .i64 x103)), (32, .v .fr (.int .i64 x104)), (36, .v .sh (.lst .item x99)), (37, .v .fr (.int .i64 x105)), (38, .v .fr (.int .i64 s123)), (39, .v .fr (.bool (cmp .lss s123 x105)))]) (obs := []) (by kernel_rfl) hob.1 ?_
  refine Ht.seq (c1 := (nav (bodyOf (Try.f85)) [1, 1, 1, 0, 1, 0, 0, 1, 1, 0, 0, 1, 1, 0, 0, 1, 0])) (c2 := (nav (bodyOf (Try.f85)) [1, 1, 1, 0, 1, 0, 0, 1, 1, 0, 0, 1, 1, 0, 0, 1, 1])) (by kernel_rfl) ?_
  refine Ht.cond (o := .tmp 39) (c1 := (nav (bodyOf (Try.f85)) [1, 1, 1, 0, 1, 0, 0, 1, 1, 0, 0, 1, 1, 0, 0, 1, 0, 0])) (c2 := (nav (bodyOf (Try.f85)) [1, 1, 1, 0, 1, 0, 0, 1, 1, 0, 0, 1, 1, 0, 0, 1, 0, 1])) (b := (cmp .lss s123 x105)) (by kernel_rfl) (by kernel_rfl) (fun h124 => ?_) (fun h124 => ?_)
  · have hb := hob.2.1 h124
    refine Ht.skip (by kernel_rfl) ?_
    refine Ht.seq (c1 := (nav (bodyOf (Try.f85)) [1, 1, 1, 0, 1, 0, 0, 1, 1, 0, 0, 1, 1, 0, 0, 1, 1, 0])) (c2 := (nav (bodyOf (Try.f85)) [1, 1, 1, 0, 1, 0, 0, 1, 1, 0, 0, 1, 1, 0, 0, 1, 1, 1])) (by kernel_rfl) ?_
    refine Ht.weak (e' := [(2, .v .sh (.lst .item x99)), (7, .v (.acc true) (.lst .item s122)), (11, .box [(.fr, .int .i64 x101.Key), (.fr, .int .i64 x101.Val), (.fr, .int .i64 x101.Count)]), (30, .v .sh (.lst .item x102)), (31, .v .fr (.int .i64 x103)), (32, .v .fr (.int .i64 x104)), (36, .v .sh (.lst .item x99)), (37, .v .fr (.int .i64 x105)), (38, .v .fr (.int .i64 s123))]) (Weak.cast (pat := [(2, .same), (7, .same), (11, .same), (30, .same), (31, .same), (32, .same), (36, .same), (37, .same), (38, .same)]) (by kernel_rfl) (by kernel_rfl)) ?_
    refine impl_loopStep_c7_ok G x99 s122 x101 x102 x103 x104 x105 s123 hb.1 (fun q135 h136 e hw => ?_) (fun q h138 e he => hr q (by simp only [impl_loopStep_c6_r, h124, h138]) e he)
    · have hb := hb.2 q135 h136
      refine Ht.weak hw ?_
      refine Ht.reg G (keep := [2, 7, 11, 30, 31, 32, 36, 37, 38]) (e' := [(2, .v .sh (.lst .item x99)), (7, .v (.acc true) (.lst .item q135)), (11, .box [(.fr, .int .i64 x101.Key), (.fr, .int .i64 x101.Val), (.fr, .int .i64 x101.Count)]), (30, .v .sh (.lst .item x102)), (31, .v .fr (.int .i64 x103)), (32, .v .fr (.int .i64 x104)), (36, .v .sh (.lst .item x99)), (37, .v .fr (.int .i64 x105)), (38, .v .fr (.int .i64 (ar .add .i64 s123 1)))]) (obs := []) (by kernel_rfl) hb.1 ?_
      exact hn q135 (ar .add .i64 s123 1) (by simp only [impl_loopStep_c6_r, h124, h136]) _ (Weak.cast (pat := [(2, .sh), (7, (.acc true)), (11, .same), (30, .sh), (31, .fr), (32, .fr), (36, .sh), (37, .fr), (38, .fr)]) (by kernel_rfl) (by kernel_rfl))
  · have hb := hob.2.2 h124
    refine Ht.exit (i := 4) (by kernel_rfl) ?_
    exact hx s122 (by simp only [impl_loopStep_c6_r, h124]) _ (Weak.cast (pat := [(2, .sh), (7, (.acc true)), (30, .sh), (31, .fr), (32, .fr)]) (by kernel_rfl) (by kernel_rfl))

noncomputable def impl_loopStep_c6 (x99 : List Item) (x100 : List Item) (x101 : Item) (x102 : List Item) (x103 : Int) (x104 : Int) (x105 : Int) : Oc Empty (List Item) ((List Item)) Empty Empty := lpV (fun s => ocLp ((fun (s : (List Item) × Int) => impl_loopStep_c6_r x99 x100 x101 x102 x103 x104 x105 s.1 s.2) s)) (x100, 0)
def impl_loopStep_c6_ob (x99 : List Item) (x100 : List Item) (x101 : Item) (x102 : List Item) (x103 : Int) (x104 : Int) (x105 : Int) : Prop := LpT (fun s => ocLp ((fun (s : (List Item) × Int) => impl_loopStep_c6_r x99 x100 x101 x102 x103 x104 x105 s.1 s.2) s)) (fun s => impl_loopStep_c6_r_ob x99 x100 x101 x102 x103 x104 x105 s.1 s.2) (x100, 0)
set_option maxRecDepth 100000 in
theorem impl_loopStep_c6_ok (G : Good Try.prog tt sp_impl_loopStep) {fr : Fr} (x99 : List Item) (x100 : List Item) (x101 : Item) (x102 : List Item) (x103 : Int) (x104 : Int) (x105 : Int) (hob : impl_loopStep_c6_ob x99 x100 x101 x102 x103 x104 x105) {n r : Env → Prop} {x : Nat → Env → Prop}
    (hr : ∀ q, (impl_loopStep_c6 x99 x100 x101 x102 x103 x104 x105) = .r q → ∀ e, retAv tt e [.tmp 6] (.one (.acc true) (.lst .item)) = some (RT.av (.one (.acc true) (.lst .item)) q) → r e)
    (hx : ∀ (q141 : List Item), (impl_loopStep_c6 x99 x100 x101 x102 x103 x104 x105) = .x q141 → ∀ e, Weak e [(2, .v .sh (.lst .item x99)), (7, .v (.acc true) (.lst .item q141)), (30, .v .sh (.lst .item x102)), (31, .v .fr (.int .i64 x103)), (32, .v .fr (.int .i64 x104))] → x 4 e) :
    Ht Try.prog ⟨(Try.f85).ntmps, none, []⟩ fr (nav (bodyOf (Try.f85)) [1, 1, 1, 0, 1, 0, 0, 1, 1, 0, 0, 1, 1, 0]) [(2, .v .sh (.lst .item x99)), (7, .v (.acc true) (.lst .item x100)), (11, .box [(.fr, .int .i64 x101.Key), (.fr, .int .i64 x101.Val), (.fr, .int .i64 x101.Count)]), (30, .v .sh (.lst .item x102)), (31, .v .fr (.int .i64 x103)), (32, .v .fr (.int .i64 x104)), (36, .v .sh (.lst .item x99)), (37, .v .fr (.int .i64 x105)), (38, .v .fr (.int .i64 0))] n r x := by
  unfold impl_loopStep_c6_ob at hob
  refine Ht.weak (e' := (fun (s : (List Item) × Int) => [(2, .v .sh (.lst .item x99)), (7, .v (.acc true) (.lst .item s.1)), (11, .box [(.fr, .int .i64 x101.Key), (.fr, .int .i64 x101.Val), (.fr, .int .i64 x101.Count)]), (30, .v .sh (.lst .item x102)), (31, .v .fr (.int .i64 x103)), (32, .v .fr (.int .i64 x104)), (36, .v .sh (.lst .item x99)), (37, .v .fr (.int .i64 x105)), (38, .v .fr (.int .i64 s.2))]) (x100, 0)) (Weak.cast (pat := [(2, .sh), (7, (.acc true)), (11, .same), (30, .sh), (31, .fr), (32, .fr), (36, .sh), (37, .fr), (38, .fr)]) (by kernel_rfl) (by kernel_rfl)) ?_
  refine Ht.loopOc (c1 := (nav (bodyOf (Try.f85)) [1, 1, 1, 0, 1, 0, 0, 1, 1, 0, 0, 1, 1, 0, 0])) (by kernel_rfl) (fun (s : (List Item) × Int) => [(2, .v .sh (.lst .item x99)), (7, .v (.acc true) (.lst .item s.1)), (11, .box [(.fr, .int .i64 x101.Key), (.fr, .int .i64 x101.Val), (.fr, .int .i64 x101.Count)]), (30, .v .sh (.lst .item x102)), (31, .v .fr (.int .i64 x103)), (32, .v .fr (.int .i64 x104)), (36, .v .sh (.lst .item x99)), (37, .v .fr (.int .i64 x105)), (38, .v .fr (.int .i64 s.2))]) (fun (s : (List Item) × Int) => impl_loopStep_c6_r x99 x100 x101 x102 x103 x104 x105 s.1 s.2) hob (RP := fun q e => retAv tt e [.tmp 6] (.one (.acc true) (.lst .item)) = some (RT.av (.one (.acc true) (.lst .item)) q)) (XP := (fun i q e => i = 4 ∧ Weak e [(2, .v .sh (.lst .item x99)), (7, .v (.acc true) (.lst .item q)), (30, .v .sh (.lst .item x102)), (31, .v .fr (.int .i64 x103)), (32, .v .fr (.int .i64 x104))])) (YP := (fun _ _ _ => False)) (ZP := (fun _ _ _ => False)) (fun s hs => ?_) ?_ ?_ ?_ ?_
  · refine impl_loopStep_c6_r_ok G x99 x100 x101 x102 x103 x104 x105 s.1 s.2 hs (fun q142 q143 h e hw => ⟨(q142, q143), h, hw⟩) (fun q h e he => ⟨q, h, he⟩) (fun q141 h e hw => .inl ⟨q141, h, rfl, hw⟩)
  · exact fun q e h he => hr q h e he
  · rintro i q e h ⟨rfl, hw⟩
    exact hx q h e hw
  · exact fun _ _ _ _ h => h.elim
  · exact fun _ _ _ _ h => h.elim


noncomputable def impl_loopStep_c5 (x94 : List Item) (x95 : List Item) (x96 : List Item) (x97 : Int) (x98 : Int) : Oc ((List Item)) (List Item) Empty Empty Empty :=
  match (impl_loopStep_c6 x94 x95 (rd .item x96 x98) x96 x97 x98 (lenI .item x94)) with
  | .r q144 =>
    .r q144
  | .x q146 =>
    .n q146
  | .n q => q.elim
  | .y q => q.elim
  | .z q => q.elim
def impl_loopStep_c5_ob (x94 : List Item) (x95 : List Item) (x96 : List Item) (x97 : Int) (x98 : Int) : Prop :=
  ((inb x98 (lenI .item x96)) ∧ (True)) ∧
  ((True)) ∧
  (impl_loopStep_c6_ob x94 x95 (rd .item x96 x98) x96 x97 x98 (lenI .item x94)) ∧
  (∀ (q146 : List Item), (impl_loopStep_c6 x94 x95 (rd .item x96 x98) x96 x97 x98 (lenI .item x94)) = .x q146 →
    True)
set_option maxRecDepth 100000 in
theorem impl_loopStep_c5_ok (G : Good Try.prog tt sp_impl_loopStep) {fr : Fr} (x94 : List Item) (x95 : List Item) (x96 : List Item) (x97 : Int) (x98 : Int) (hob : impl_loopStep_c5_ob x94 x95 x96 x97 x98) {n r : Env → Prop} {x : Nat → Env → Prop}
    (hn : ∀ (q148 : List Item), (impl_loopStep_c5 x94 x95 x96 x97 x98) = .n q148 → ∀ e, Weak e [(2, .v .sh (.lst .item x94)), (7, .v (.acc true) (.lst .item q148)), (30, .v .sh (.lst .item x96)), (31, .v .fr (.int .i64 x97)), (32, .v .fr (.int .i64 x98))] → n e)
    (hr : ∀ q, (impl_loopStep_c5 x94 x95 x96 x97 x98) = .r q → ∀ e, retAv tt e [.tmp 6] (.one (.acc true) (.lst .item)) = some (RT.av (.one (.acc true) (.lst .item)) q) → r e) :
    Ht Try.prog ⟨(Try.f85).ntmps, none, []⟩ fr (nav (bodyOf (Try.f85)) [1, 1, 1, 0, 1, 0, 0, 1, 1, 0]) [(2, .v .sh (.lst .item x94)), (7, .v (.acc true) (.lst .item x95)), (30, .v .sh (.lst .item x96)), (31, .v .fr (.int .i64 x97)), (32, .v .fr (.int .i64 x98))] n r x := by
  unfold impl_loopStep_c5_ob at hob
  refine Ht.block (id := 3) (c1 := (nav (bodyOf (Try.f85)) [1, 1, 1, 0, 1, 0, 0, 1, 1, 0, 0])) (by kernel_rfl) ?_
  refine Ht.seq (c1 := (nav (bodyOf (Try.f85)) [1, 1, 1, 0, 1, 0, 0, 1, 1, 0, 0, 0])) (c2 := (nav (bodyOf (Try.f85)) [1, 1, 1, 0, 1, 0, 0, 1, 1, 0, 0, 1])) (by kernel_rfl) ?_
  refine Ht.reg G (keep := [2, 7, 11, 30, 31, 32]) (e' := [(2, .v .sh (.lst .item x94)), (7, .v (.acc true) (.lst .item x95)), (11, .box [(.fr, .int .i64 (rd .item x96 x98).Key), (.fr, .int .i64 (rd .item x96 x98).Val), (.fr, .int .i64 (rd .item x96 x98).Count)]), (30, .v .sh (.lst .item x96)), (31, .v .fr (.int .i64 x97)), (32, .v .fr (.int .i64 x98))]) (obs := [inb x98 (lenI .item x96)]) (by kernel_rfl) hob.1 ?_
  refine Ht.seq (c1 := (nav (bodyOf (Try.f85)) [1, 1, 1, 0, 1, 0, 0, 1, 1, 0, 0, 1, 0])) (c2 := (nav (bodyOf (Try.f85)) [1, 1, 1, 0, 1, 0, 0, 1, 1, 0, 0, 1, 1])) (by kernel_rfl) ?_
  refine Ht.reg G (keep := [2, 7, 11, 30, 31, 32, 36, 37, 38]) (e' := [(2, .v .sh (.lst .item x94)), (7, .v (.acc true) (.lst .item x95)), (11, .box [(.fr, .int .i64 (rd .item x96 x98).Key), (.fr, .int .i64 (rd .item x96 x98).Val), (.fr, .int .i64 (rd .item x96 x98).Count)]), (30, .v .sh (.lst .item x96)), (31, .v .fr (.int .i64 x97)), (32, .v .fr (.int .i64 x98)), (36, .v .sh (.lst .item x94)), (37, .v .fr (.int .i64 (lenI .item x94))), (38, .v .fr (.int .i64 0))]) (obs := []) (by kernel_rfl) hob.2.1 ?_
  refine Ht.block (id := 4) (c1 := (nav (bodyOf (Try.f85)) [1, 1, 1, 0, 1, 0, 0, 1, 1, 0, 0, 1, 1, 0])) (by kernel_rfl) ?_
  refine Ht.weak (e' := [(2, .v .sh (.lst .item x94)), (7, .v (.acc true) (.lst .item x95)), (11, .box [(.fr, .int .i64 (rd .item x96 x98).Key), (.fr, .int .i64 (rd .item x96 x98).Val), (.fr, .int .i64 (rd .item x96 x98).Count)]), (30, .v .sh (.lst .item x96)), (31, .v .fr (.int .i64 x97)), (32, .v .fr (.int .i64 x98)), (36, .v .sh (.lst .item x94)), (37, .v .fr (.int .i64 (lenI .item x94))), (38, .v .fr (.int .i64 0))]) (Weak.cast (pat := [(2, .same), (7, .same), (11, .same), (30, .same), (31, .same), (32, .same), (36, .same), (37, .same), (38, .same)]) (by kernel_rfl) (by kernel_rfl)) ?_
  refine impl_loopStep_c6_ok G x94 x95 (rd .item x96 x98) x96 x97 x98 (lenI .item x94) hob.2.2.1 (fun q h145 e he => hr q (by simp only [impl_loopStep_c5, h145]) e he) (fun q146 h147 e hw => ?_)
  · have hb := hob.2.2.2 q146 h147
    exact hn q146 (by simp only [impl_loopStep_c5, h147]) e (hw.trans (Weak.cast (pat := [(2, .sh), (7, (.acc true)), (30, .sh), (31, .fr), (32, .fr)]) (by kernel_rfl) (by kernel_rfl)))

noncomputable def impl_loopStep_c4_r (x29 : List Item) (_x30 : List Item) (x31 : List Item) (x32 : Int) (s91 : List Item) (s92 : Int) : Oc ((List Item) × Int) (List Item) ((List Item)) Empty Empty :=
  match (cmp .lss s92 x32) with
  | true =>
    match (impl_loopStep_c5 x29 s91 x31 x32 s92) with
    | .n q149 =>
      .n (q149, (ar .add .i64 s92 1))
    | .r q151 =>
      .r q151
    | .x q => q.elim
    | .y q => q.elim
    | .z q => q.elim
  | false =>
    .x s91
def impl_loopStep_c4_r_ob (x29 : List Item) (_x30 : List Item) (x31 : List Item) (x32 : Int) (s91 : List Item) (s92 : Int) : Prop :=
  ((True)) ∧
  ((cmp .lss s92 x32) = true →
    (impl_loopStep_c5_ob x29 s91 x31 x32 s92) ∧
    (∀ (q149 : List Item), (impl_loopStep_c5 x29 s91 x31 x32 s92) = .n q149 →
      ((True)) ∧
      True)) ∧ ((cmp .lss s92 x32) = false →
    True)
set_option maxRecDepth 100000 in
theorem impl_loopStep_c4_r_ok (G : Good Try.prog tt sp_impl_loopStep) {fr : Fr} (x29 : List Item) (x30 : List Item) (x31 : List Item) (x32 : Int) (s91 : List Item) (s92 : Int) (hob : impl_loopStep_c4_r_ob x29 x30 x31 x32 s91 s92) {n r : Env → Prop} {x : Nat → Env → Prop}
    (hn : ∀ (q156 : List Item) (q157 : Int), (impl_loopStep_c4_r x29 x30 x31 x32 s91 s92) = .n (q156, q157) → ∀ e, Weak e [(2, .v .sh (.lst .item x29)), (7, .v (.acc true) (.lst .item q156)), (30, .v .sh (.lst .item x31)), (31, .v .fr (.int .i64 x32)), (32, .v .fr (.int .i64 q157))] → n e)
    (hr : ∀ q, (impl_loopStep_c4_r x29 x30 x31 x32 s91 s92) = .r q → ∀ e, retAv tt e [.tmp 6] (.one (.acc true) (.lst .item)) = some (RT.av (.one (.acc true) (.lst .item)) q) → r e)
    (hx : ∀ (q155 : List Item), (impl_loopStep_c4_r x29 x30 x31 x32 s91 s92) = .x q155 → ∀ e, Weak e [(7, .v (.acc true) (.lst .item q155))] → x 2 e) :
    Ht Try.prog ⟨(Try.f85).ntmps, none, []⟩ fr (nav (bodyOf (Try.f85)) [1, 1, 1, 0, 1, 0, 0]) [(2, .v .sh (.lst .item x29)), (7, .v (.acc true) (.lst .item s91)), (30, .v .sh (.lst .item x31)), (31, .v .fr (.int .i64 x32)), (32, .v .fr (.int .i64 s92))] n r x := by
  unfold impl_loopStep_c4_r_ob at hob
  refine Ht.seq (c1 := (nav (bodyOf (Try.f85)) [1, 1, 1, 0, 1, 0, 0, 0])) (c2 := (nav (bodyOf (Try.f85)) [1, 1, 1, 0, 1, 0, 0, 1])) (by kernel_rfl) ?_
  refine Ht.reg G (keep := [2, 7, 30, 31, 32, 33]) (e' := [(2, .v .sh (.lst .item x29)), (7, .v (.acc true) (.lst .item s91)), (30, .v .sh (.lst .item x31)), (31, .v .fr (.int .i64 x32)), (32, .v .fr (.int .i64 s92)), (33, .v .fr (.bool (cmp .lss s92 x32)))]) (obs := []) (by kernel_rfl) hob.1 ?_
  refine Ht.seq (c1 := (nav (bodyOf (Try.f85)) [1, 1, 1, 0, 1, 0, 0, 1, 0])) (c2 := (nav (bodyOf (Try.f85)) [1, 1, 1, 0, 1, 0, 0, 1, 1])) (by kernel_rfl) ?_
  refine Ht.cond (o := .tmp 33) (c1 := (nav (bodyOf (Try.f85)) [1, 1, 1, 0, 1, 0, 0, 1, 0, 0])) (c2 := (nav (bodyOf (Try.f85)) [1, 1, 1, 0, 1, 0, 0, 1, 0, 1])) (b := (cmp .lss s92 x32)) (by kernel_rfl) (by kernel_rfl) (fun h93 => ?_) (fun h93 => ?_)
  · have hb := hob.2.1 h93
    refine Ht.skip (by kernel_rfl) ?_
    refine Ht.seq (c1 := (nav (bodyOf (Try.f85)) [1, 1, 1, 0, 1, 0, 0, 1, 1, 0])) (c2 := (nav (bodyOf (Try.f85)) [1, 1, 1, 0, 1, 0, 0, 1, 1, 1])) (by kernel_rfl) ?_
    refine Ht.weak (e' := [(2, .v .sh (.lst .item x29)), (7, .v (.acc true) (.lst .item s91)), (30, .v .sh (.lst .item x31)), (31, .v .fr (.int .i64 x32)), (32, .v .fr (.int .i64 s92))]) (Weak.cast (pat := [(2, .same), (7, .same), (30, .same), (31, .same), (32, .same)]) (by kernel_rfl) (by kernel_rfl)) ?_
    refine impl_loopStep_c5_ok G x29 s91 x31 x32 s92 hb.1 (fun q149 h150 e hw => ?_) (fun q h152 e he => hr q (by simp only [impl_loopStep_c4_r, h93, h152]) e he)
    · have hb := hb.2 q149 h150
      refine Ht.weak hw ?_
      refine Ht.reg G (keep := [2, 7, 30, 31, 32]) (e' := [(2, .v .sh (.lst .item x29)), (7, .v (.acc true) (.lst .item q149)), (30, .v .sh (.lst .item x31)), (31, .v .fr (.int .i64 x32)), (32, .v .fr (.int .i64 (ar .add .i64 s92 1)))]) (obs := []) (by kernel_rfl) hb.1 ?_
      exact hn q149 (ar .add .i64 s92 1) (by simp only [impl_loopStep_c4_r, h93, h150]) _ (Weak.cast (pat := [(2, .sh), (7, (.acc true)), (30, .sh), (31, .fr), (32, .fr)]) (by kernel_rfl) (by kernel_rfl))
  · have hb := hob.2.2 h93
    refine Ht.exit (i := 2) (by kernel_rfl) ?_
    exact hx s91 (by simp only [impl_loopStep_c4_r, h93]) _ (Weak.cast (pat := [(7, (.acc true))]) (by kernel_rfl) (by kernel_rfl))

noncomputable def impl_loopStep_c4 (x29 : List Item) (x30 : List Item) (x31 : List Item) (x32 : Int) : Oc Empty (List Item) ((List Item)) Empty Empty := lpV (fun s => ocLp ((fun (s : (List Item) × Int) => impl_loopStep_c4_r x29 x30 x31 x32 s.1 s.2) s)) (x30, 0)
def impl_loopStep_c4_ob (x29 : List Item) (x30 : List Item) (x31 : List Item) (x32 : Int) : Prop := LpT (fun s => ocLp ((fun (s : (List Item) × Int) => impl_loopStep_c4_r x29 x30 x31 x32 s.1 s.2) s)) (fun s => impl_loopStep_c4_r_ob x29 x30 x31 x32 s.1 s.2) (x30, 0)
set_option maxRecDepth 100000 in
theorem impl_loopStep_c4_ok (G : Good Try.prog tt sp_impl_loopStep) {fr : Fr} (x29 : List Item) (x30 : List Item) (x31 : List Item) (x32 : Int) (hob : impl_loopStep_c4_ob x29 x30 x31 x32) {n r : Env → Prop} {x : Nat → Env → Prop}
    (hr : ∀ q, (impl_loopStep_c4 x29 x30 x31 x32) = .r q → ∀ e, retAv tt e [.tmp 6] (.one (.acc true) (.lst .item)) = some (RT.av (.one (.acc true) (.lst .item)) q) → r e)
    (hx : ∀ (q155 : List Item), (impl_loopStep_c4 x29 x30 x31 x32) = .x q155 → ∀ e, Weak e [(7, .v (.acc true) (.lst .item q155))] → x 2 e) :
    Ht Try.prog ⟨(Try.f85).ntmps, none, []⟩ fr (nav (bodyOf (Try.f85)) [1, 1, 1, 0, 1, 0]) [(2, .v .sh (.lst .item x29)), (7, .v (.acc true) (.lst .item x30)), (30, .v .sh (.lst .item x31)), (31, .v .fr (.int .i64 x32)), (32, .v .fr (.int .i64 0))] n r x := by
  unfold impl_loopStep_c4_ob at hob
  refine Ht.weak (e' := (fun (s : (List Item) × Int) => [(2, .v .sh (.lst .item x29)), (7, .v (.acc true) (.lst .item s.1)), (30, .v .sh (.lst .item x31)), (31, .v .fr (.int .i64 x32)), (32, .v .fr (.int .i64 s.2))]) (x30, 0)) (Weak.cast (pat := [(2, .sh), (7, (.acc true)), (30, .sh), (31, .fr), (32, .fr)]) (by kernel_rfl) (by kernel_rfl)) ?_
  refine Ht.loopOc (c1 := (nav (bodyOf (Try.f85)) [1, 1, 1, 0, 1, 0, 0])) (by kernel_rfl) (fun (s : (List Item) × Int) => [(2, .v .sh (.lst .item x29)), (7, .v (.acc true) (.lst .item s.1)), (30, .v .sh (.lst .item x31)), (31, .v .fr (.int .i64 x32)), (32, .v .fr (.int .i64 s.2))]) (fun (s : (List Item) × Int) => impl_loopStep_c4_r x29 x30 x31 x32 s.1 s.2) hob (RP := fun q e => retAv tt e [.tmp 6] (.one (.acc true) (.lst .item)) = some (RT.av (.one (.acc true) (.lst .item)) q)) (XP := (fun i q e => i = 2 ∧ Weak e [(7, .v (.acc true) (.lst .item q))])) (YP := (fun _ _ _ => False)) (ZP := (fun _ _ _ => False)) (fun s hs => ?_) ?_ ?_ ?_ ?_
  · refine impl_loopStep_c4_r_ok G x29 x30 x31 x32 s.1 s.2 hs (fun q156 q157 h e hw => ⟨(q156, q157), h, hw⟩) (fun q h e he => ⟨q, h, he⟩) (fun q155 h e hw => .inl ⟨q155, h, rfl, hw⟩)
  · exact fun q e h he => hr q h e he
  · rintro i q e h ⟨rfl, hw⟩
    exact hx q h e hw
  · exact fun _ _ _ _ h => h.elim
  · exact fun _ _ _ _ h => h.elim


noncomputable def impl_loopStep_c3 (x26 : List Item) (x27 : List Item) (x28 : List Item) : Oc ((List Item)) (List Item) Empty Empty Empty :=
  match (impl_loopStep_c4 x27 x28 x26 (lenI .item x26)) with
  | .r q158 =>
    .r q158
  | .x q160 =>
    .n q160
  | .n q => q.elim
  | .y q => q.elim
  | .z q => q.elim
def impl_loopStep_c3_ob (x26 : List Item) (x27 : List Item) (x28 : List Item) : Prop :=
  ((True)) ∧
  (impl_loopStep_c4_ob x27 x28 x26 (lenI .item x26)) ∧
  (∀ (q160 : List Item), (impl_loopStep_c4 x27 x28 x26 (lenI .item x26)) = .x q160 →
    True)
set_option maxRecDepth 100000 in
theorem impl_loopStep_c3_ok (G : Good Try.prog tt sp_impl_loopStep) {fr : Fr} (x26 : List Item) (x27 : List Item) (x28 : List Item) (hob : impl_loopStep_c3_ob x26 x27 x28) {n r : Env → Prop} {x : Nat → Env → Prop}
    (hn : ∀ (q162 : List Item), (impl_loopStep_c3 x26 x27 x28) = .n q162 → ∀ e, Weak e [(7, .v (.acc true) (.lst .item q162))] → n e)
    (hr : ∀ q, (impl_loopStep_c3 x26 x27 x28) = .r q → ∀ e, retAv tt e [.tmp 6] (.one (.acc true) (.lst .item)) = some (RT.av (.one (.acc true) (.lst .item)) q) → r e) :
    Ht Try.prog ⟨(Try.f85).ntmps, none, []⟩ fr (nav (bodyOf (Try.f85)) [1, 1, 1, 0]) [(0, .v .sh (.lst .item x26)), (2, .v .sh (.lst .item x27)), (7, .v (.acc true) (.lst .item x28))] n r x := by
  unfold impl_loopStep_c3_ob at hob
  refine Ht.seq (c1 := (nav (bodyOf (Try.f85)) [1, 1, 1, 0, 0])) (c2 := (nav (bodyOf (Try.f85)) [1, 1, 1, 0, 1])) (by kernel_rfl) ?_
  refine Ht.reg G (keep := [2, 7, 30, 31, 32]) (e' := [(2, .v .sh (.lst .item x27)), (7, .v (.acc true) (.lst .item x28)), (30, .v .sh (.lst .item x26)), (31, .v .fr (.int .i64 (lenI .item x26))), (32, .v .fr (.int .i64 0))]) (obs := []) (by kernel_rfl) hob.1 ?_
  refine Ht.block (id := 2) (c1 := (nav (bodyOf (Try.f85)) [1, 1, 1, 0, 1, 0])) (by kernel_rfl) ?_
  refine Ht.weak (e' := [(2, .v .sh (.lst .item x27)), (7, .v (.acc true) (.lst .item x28)), (30, .v .sh (.lst .item x26)), (31, .v .fr (.int .i64 (lenI .item x26))), (32, .v .fr (.int .i64 0))]) (Weak.cast (pat := [(2, .same), (7, .same), (30, .same), (31, .same), (32, .same)]) (by kernel_rfl) (by kernel_rfl)) ?_
  refine impl_loopStep_c4_ok G x27 x28 x26 (lenI .item x26) hob.2.1 (fun q h159 e he => hr q (by simp only [impl_loopStep_c3, h159]) e he) (fun q160 h161 e hw => ?_)
  · have hb := hob.2.2 q160 h161
    exact hn q160 (by simp only [impl_loopStep_c3, h161]) e (hw.trans (Weak.cast (pat := [(7, (.acc true))]) (by kernel_rfl) (by kernel_rfl)))

noncomputable def impl_loopStep_b (a0 : List Item) (a1 : List Item) (a2 : List Item) : Oc Empty (List Item) Empty Empty Empty :=
  match (impl_loopStep_c1 a0 a1 a2) with
  | .n q24 =>
    match (impl_loopStep_c3 a0 a2 q24) with
    | .n q163 =>
      .r (v_impl_once (v_impl_gathered q163))
    | .r q165 =>
      .r q165
    | .x q => q.elim
    | .y q => q.elim
    | .z q => q.elim
  | .r q167 =>
    .r q167
  | .x q => q.elim
  | .y q => q.elim
  | .z q => q.elim
def impl_loopStep_b_ob (a0 : List Item) (a1 : List Item) (a2 : List Item) : Prop :=
  ((True)) ∧
  ((True)) ∧
  (impl_loopStep_c1_ob a0 a1 a2) ∧
  (∀ (q24 : List Item), (impl_loopStep_c1 a0 a1 a2) = .n q24 →
    (impl_loopStep_c3_ob a0 a2 q24) ∧
    (∀ (q163 : List Item), (impl_loopStep_c3 a0 a2 q24) = .n q163 →
      (((p_impl_gathered q163)) ∧ ((p_impl_once (v_impl_gathered q163))) ∧ (True)) ∧
      True))
set_option maxRecDepth 100000 in
theorem impl_loopStep_b_ok (G : Good Try.prog tt sp_impl_loopStep) {fr : Fr} (a0 : List Item) (a1 : List Item) (a2 : List Item) (hob : impl_loopStep_b_ob a0 a1 a2) {n r : Env → Prop} {x : Nat → Env → Prop}
    (hr : ∀ q, (impl_loopStep_b a0 a1 a2) = .r q → ∀ e, retAv tt e [.tmp 6] (.one (.acc true) (.lst .item)) = some (RT.av (.one (.acc true) (.lst .item)) q) → r e) :
    Ht Try.prog ⟨(Try.f85).ntmps, none, []⟩ fr (nav (bodyOf (Try.f85)) []) [(0, .v .sh (.lst .item a0)), (1, .v .sh (.lst .item a1)), (2, .v .sh (.lst .item a2))] n r x := by
  unfold impl_loopStep_b_ob at hob
  refine Ht.seq (c1 := (nav (bodyOf (Try.f85)) [0])) (c2 := (nav (bodyOf (Try.f85)) [1])) (by kernel_rfl) ?_
  refine Ht.reg G (keep := [0, 1, 2]) (e' := [(0, .v .sh (.lst .item a0)), (1, .v .sh (.lst .item a1)), (2, .v .sh (.lst .item a2))]) (obs := []) (by kernel_rfl) hob.1 ?_
  refine Ht.seq (c1 := (nav (bodyOf (Try.f85)) [1, 0])) (c2 := (nav (bodyOf (Try.f85)) [1, 1])) (by kernel_rfl) ?_
  refine Ht.reg G (keep := [0, 1, 2, 7]) (e' := [(0, .v .sh (.lst .item a0)), (1, .v .sh (.lst .item a1)), (2, .v .sh (.lst .item a2)), (7, .v (.acc true) (.lst .item []))]) (obs := []) (by kernel_rfl) hob.2.1 ?_
  refine Ht.seq (c1 := (nav (bodyOf (Try.f85)) [1, 1, 0])) (c2 := (nav (bodyOf (Try.f85)) [1, 1, 1])) (by kernel_rfl) ?_
  refine Ht.weak (e' := [(0, .v .sh (.lst .item a0)), (1, .v .sh (.lst .item a1)), (2, .v .sh (.lst .item a2)), (7, .v (.acc true) (.lst .item []))]) (Weak.cast (pat := [(0, .same), (1, .same), (2, .same), (7, .same)]) (by kernel_rfl) (by kernel_rfl)) ?_
  refine impl_loopStep_c1_ok G a0 a1 a2 hob.2.2.1 (fun q24 h25 e hw => ?_) (fun q h168 e he => hr q (by simp only [impl_loopStep_b, h168]) e he)
  · have hb := hob.2.2.2 q24 h25
    refine Ht.weak hw ?_
    refine Ht.seq (c1 := (nav (bodyOf (Try.f85)) [1, 1, 1, 0])) (c2 := (nav (bodyOf (Try.f85)) [1, 1, 1, 1])) (by kernel_rfl) ?_
    refine Ht.weak (e' := [(0, .v .sh (.lst .item a0)), (2, .v .sh (.lst .item a2)), (7, .v (.acc true) (.lst .item q24))]) (Weak.cast (pat := [(0, .same), (2, .same), (7, .same)]) (by kernel_rfl) (by kernel_rfl)) ?_
    refine impl_loopStep_c3_ok G a0 a2 q24 hb.1 (fun q163 h164 e hw => ?_) (fun q h166 e he => hr q (by simp only [impl_loopStep_b, h25, h166]) e he)
    · have hb := hb.2 q163 h164
      refine Ht.weak hw ?_
      refine Ht.seq (c1 := (nav (bodyOf (Try.f85)) [1, 1, 1, 1, 0])) (c2 := (nav (bodyOf (Try.f85)) [1, 1, 1, 1, 1])) (by kernel_rfl) ?_
      refine Ht.reg G (keep := [6]) (e' := [(6, .v (.acc true) (.lst .item (v_impl_once (v_impl_gathered q163))))]) (obs := [(p_impl_gathered q163), (p_impl_once (v_impl_gathered q163))]) (by kernel_rfl) hb.1 ?_
      refine Ht.ret (by kernel_rfl) ?_
      exact hr (v_impl_once (v_impl_gathered q163)) (by simp only [impl_loopStep_b, h25, h164]) _ (by kernel_rfl)

noncomputable def v_impl_loopStep (a0 : List Item) (a1 : List Item) (a2 : List Item) : List Item := ocR (impl_loopStep_b a0 a1 a2)
def p_impl_loopStep (a0 : List Item) (a1 : List Item) (a2 : List Item) : Prop := impl_loopStep_b_ob a0 a1 a2
noncomputable def s_impl_loopStep : Spec := ⟨[(.lst .item), (.lst .item), (.lst .item)], .one (.acc true) (.lst .item), false, fun x => (v_impl_loopStep x.1 x.2.1 x.2.2.1, 0), fun x => p_impl_loopStep x.1 x.2.1 x.2.2.1⟩
theorem con_impl_loopStep (G : Good Try.prog tt sp_impl_loopStep) : Con Try.prog 85 s_impl_loopStep :=
  con_of G.htt (fn := Try.f85) (c := bodyOf Try.f85) (by kernel_rfl) (by kernel_rfl) (by kernel_rfl) (rs := [.tmp 6]) (by kernel_rfl) (by kernel_rfl) (fun _ => rfl) fun x hp fr _ _ _ =>
    impl_loopStep_b_ok G (fr := fr) x.1 x.2.1 x.2.2.1 hp
      (fun q h e he => ⟨by rw [show (s_impl_loopStep.val x).1 = q from congrArg ocR h]; exact he, trivial⟩)

noncomputable def sp_impl_LoopStep : SP := [(47, s_impl_SetOk), (85, s_impl_loopStep)]
noncomputable def impl_LoopStep_b (a0 : List Item) (a1 : List Item) (a2 : List Item) : Oc Empty (List Item) Empty Empty Empty :=
  match (cond (cond (!(v_impl_SetOk a0)) true (!(v_impl_SetOk a1))) true (!(v_impl_SetOk a2))) with
  | true =>
    .r []
  | false =>
    .r (v_impl_loopStep a0 a1 a2)
def impl_LoopStep_b_ob (a0 : List Item) (a1 : List Item) (a2 : List Item) : Prop :=
  ((True)) ∧
  (((p_impl_SetOk a0)) ∧ ((((!(!(v_impl_SetOk a0))) && true) = true → (p_impl_SetOk a1))) ∧ ((((!(cond (!(v_impl_SetOk a0)) true (!(v_impl_SetOk a1)))) && true) = true → (p_impl_SetOk a2))) ∧ (True)) ∧
  ((cond (cond (!(v_impl_SetOk a0)) true (!(v_impl_SetOk a1))) true (!(v_impl_SetOk a2))) = true →
    ((True)) ∧
    True) ∧ ((cond (cond (!(v_impl_SetOk a0)) true (!(v_impl_SetOk a1))) true (!(v_impl_SetOk a2))) = false →
    (((p_impl_loopStep a0 a1 a2)) ∧ (True)) ∧
    True)
set_option maxRecDepth 100000 in
theorem impl_LoopStep_b_ok (G : Good Try.prog tt sp_impl_LoopStep) {fr : Fr} (a0 : List Item) (a1 : List Item) (a2 : List Item) (hob : impl_LoopStep_b_ob a0 a1 a2) {n r : Env → Prop} {x : Nat → Env → Prop}
    (hr : ∀ q, (impl_LoopStep_b a0 a1 a2) = .r q → ∀ e, retAv tt e [.tmp 6] (.one (.acc true) (.lst .item)) = some (RT.av (.one (.acc true) (.lst .item)) q) → r e) :
    Ht Try.prog ⟨(Try.f31).ntmps, none, []⟩ fr (nav (bodyOf (Try.f31)) []) [(0, .v .sh (.lst .item a0)), (1, .v .sh (.lst .item a1)), (2, .v .sh (.lst .item a2))] n r x := by
  unfold impl_LoopStep_b_ob at hob
  refine Ht.seq (c1 := (nav (bodyOf (Try.f31)) [0])) (c2 := (nav (bodyOf (Try.f31)) [1])) (by kernel_rfl) ?_
  refine Ht.reg G (keep := [0, 1, 2]) (e' := [(0, .v .sh (.lst .item a0)), (1, .v .sh (.lst .item a1)), (2, .v .sh (.lst .item a2))]) (obs := []) (by kernel_rfl) hob.1 ?_
  refine Ht.seq (c1 := (nav (bodyOf (Try.f31)) [1, 0])) (c2 := (nav (bodyOf (Try.f31)) [1, 1])) (by kernel_rfl) ?_
  refine Ht.seq (c1 := (nav (bodyOf (Try.f31)) [1, 0, 0])) (c2 := (nav (bodyOf (Try.f31)) [1, 0, 1])) (by kernel_rfl) ?_
  refine Ht.reg G (keep := [0, 1, 2, 19]) (e' := [(0, .v .sh (.lst .item a0)), (1, .v .sh (.lst .item a1)), (2, .v .sh (.lst .item a2)), (19, .v .fr (.bool (cond (cond (!(v_impl_SetOk a0)) true (!(v_impl_SetOk a1))) true (!(v_impl_SetOk a2)))))]) (obs := [(p_impl_SetOk a0), (((!(!(v_impl_SetOk a0))) && true) = true → (p_impl_SetOk a1)), (((!(cond (!(v_impl_SetOk a0)) true (!(v_impl_SetOk a1)))) && true) = true → (p_impl_SetOk a2))]) (by kernel_rfl) hob.2.1 ?_
  refine Ht.cond (o := .tmp 19) (c1 := (nav (bodyOf (Try.f31)) [1, 0, 1, 0])) (c2 := (nav (bodyOf (Try.f31)) [1, 0, 1, 1])) (b := (cond (cond (!(v_impl_SetOk a0)) true (!(v_impl_SetOk a1))) true (!(v_impl_SetOk a2)))) (by kernel_rfl) (by kernel_rfl) (fun h1 => ?_) (fun h1 => ?_)
  · have hb := hob.2.2.1 h1
    refine Ht.seq (c1 := (nav (bodyOf (Try.f31)) [1, 0, 1, 0, 0])) (c2 := (nav (bodyOf (Try.f31)) [1, 0, 1, 0, 1])) (by kernel_rfl) ?_
    refine Ht.reg G (keep := [6]) (e' := [(6, .v .fr (.nl .item))]) (obs := []) (by kernel_rfl) hb.1 ?_
    refine Ht.ret (by kernel_rfl) ?_
    exact hr [] (by simp only [impl_LoopStep_b, h1]) _ (by kernel_rfl)
  · have hb := hob.2.2.2 h1
    refine Ht.skip (by kernel_rfl) ?_
    refine Ht.seq (c1 := (nav (bodyOf (Try.f31)) [1, 1, 0])) (c2 := (nav (bodyOf (Try.f31)) [1, 1, 1])) (by kernel_rfl) ?_
    refine Ht.reg G (keep := [6]) (e' := [(6, .v (.acc true) (.lst .item (v_impl_loopStep a0 a1 a2)))]) (obs := [(p_impl_loopStep a0 a1 a2)]) (by kernel_rfl) hb.1 ?_
    refine Ht.ret (by kernel_rfl) ?_
    exact hr (v_impl_loopStep a0 a1 a2) (by simp only [impl_LoopStep_b, h1]) _ (by kernel_rfl)

noncomputable def v_impl_LoopStep (a0 : List Item) (a1 : List Item) (a2 : List Item) : List Item := ocR (impl_LoopStep_b a0 a1 a2)
def p_impl_LoopStep (a0 : List Item) (a1 : List Item) (a2 : List Item) : Prop := impl_LoopStep_b_ob a0 a1 a2
noncomputable def s_impl_LoopStep : Spec := ⟨[(.lst .item), (.lst .item), (.lst .item)], .one (.acc true) (.lst .item), false, fun x => (v_impl_LoopStep x.1 x.2.1 x.2.2.1, 0), fun x => p_impl_LoopStep x.1 x.2.1 x.2.2.1⟩
theorem con_impl_LoopStep (G : Good Try.prog tt sp_impl_LoopStep) : Con Try.prog 31 s_impl_LoopStep :=
  con_of G.htt (fn := Try.f31) (c := bodyOf Try.f31) (by kernel_rfl) (by kernel_rfl) (by kernel_rfl) (rs := [.tmp 6]) (by kernel_rfl) (by kernel_rfl) (fun _ => rfl) fun x hp fr _ _ _ =>
    impl_LoopStep_b_ok G (fr := fr) x.1 x.2.1 x.2.2.1 hp
      (fun q h e he => ⟨by rw [show (s_impl_LoopStep.val x).1 = q from congrArg ocR h]; exact he, trivial⟩)

noncomputable def sp_spec_l3Item : SP := [(93, s_spec_l6In)]
noncomputable def spec_l3Item_b (a0 : Item) : Oc Empty Bool Empty Empty Empty :=
  .r (cond (cond (v_spec_l6In a0.Key 0 3) (v_spec_l6In a0.Val 0 99) false) (cmp .neq a0.Count 0) false)
def spec_l3Item_b_ob (a0 : Item) : Prop :=
  ((True)) ∧
  (((p_spec_l6In a0.Key 0 3)) ∧ ((((v_spec_l6In a0.Key 0 3) && true) = true → (p_spec_l6In a0.Val 0 99))) ∧ (True)) ∧
  True
set_option maxRecDepth 100000 in
theorem spec_l3Item_b_ok (G : Good Try.prog tt sp_spec_l3Item) {fr : Fr} (a0 : Item) (hob : spec_l3Item_b_ob a0) {n r : Env → Prop} {x : Nat → Env → Prop}
    (hr : ∀ q, (spec_l3Item_b a0) = .r q → ∀ e, retAv tt e [.tmp 2] (.one .fr .bool) = some (RT.av (.one .fr .bool) q) → r e) :
    Ht Try.prog ⟨(Try.f96).ntmps, none, []⟩ fr (nav (bodyOf (Try.f96)) []) [(0, .agg true [.int .i64 a0.Key, .int .i64 a0.Val, .int .i64 a0.Count])] n r x := by
  unfold spec_l3Item_b_ob at hob
  refine Ht.seq (c1 := (nav (bodyOf (Try.f96)) [0])) (c2 := (nav (bodyOf (Try.f96)) [1])) (by kernel_rfl) ?_
  refine Ht.reg G (keep := [1]) (e' := [(1, .box [(.fr, .int .i64 a0.Key), (.fr, .int .i64 a0.Val), (.fr, .int .i64 a0.Count)])]) (obs := []) (by kernel_rfl) hob.1 ?_
  refine Ht.seq (c1 := (nav (bodyOf (Try.f96)) [1, 0])) (c2 := (nav (bodyOf (Try.f96)) [1, 1])) (by kernel_rfl) ?_
  refine Ht.reg G (keep := [2]) (e' := [(2, .v .fr (.bool (cond (cond (v_spec_l6In a0.Key 0 3) (v_spec_l6In a0.Val 0 99) false) (cmp .neq a0.Count 0) false)))]) (obs := [(p_spec_l6In a0.Key 0 3), (((v_spec_l6In a0.Key 0 3) && true) = true → (p_spec_l6In a0.Val 0 99))]) (by kernel_rfl) hob.2.1 ?_
  refine Ht.ret (by kernel_rfl) ?_
  exact hr (cond (cond (v_spec_l6In a0.Key 0 3) (v_spec_l6In a0.Val 0 99) false) (cmp .neq a0.Count 0) false) (by simp only [spec_l3Item_b]) _ (by kernel_rfl)

noncomputable def v_spec_l3Item (a0 : Item) : Bool := ocR (spec_l3Item_b a0)
def p_spec_l3Item (a0 : Item) : Prop := spec_l3Item_b_ob a0
noncomputable def s_spec_l3Item : Spec := ⟨[(.st .item)], .one .fr .bool, false, fun x => (v_spec_l3Item x.1, 0), fun x => p_spec_l3Item x.1⟩
theorem con_spec_l3Item (G : Good Try.prog tt sp_spec_l3Item) : Con Try.prog 96 s_spec_l3Item :=
  con_of G.htt (fn := Try.f96) (c := bodyOf Try.f96) (by kernel_rfl) (by kernel_rfl) (by kernel_rfl) (rs := [.tmp 2]) (by kernel_rfl) (by kernel_rfl) (fun _ => rfl) fun x hp fr _ _ _ =>
    spec_l3Item_b_ok G (fr := fr) x.1 hp
      (fun q h e he => ⟨by rw [show (s_spec_l3Item.val x).1 = q from congrArg ocR h]; exact he, trivial⟩)

noncomputable def sp_spec_l3Big : SP := []
noncomputable def spec_l3Big_b : Oc Empty Int Empty Empty Empty :=
  .r 1099511627776
def spec_l3Big_b_ob : Prop :=
  ((True)) ∧
  ((True)) ∧
  True
set_option maxRecDepth 100000 in
theorem spec_l3Big_b_ok (G : Good Try.prog tt sp_spec_l3Big) {fr : Fr} (hob : spec_l3Big_b_ob) {n r : Env → Prop} {x : Nat → Env → Prop}
    (hr : ∀ q, spec_l3Big_b = .r q → ∀ e, retAv tt e [.tmp 0] (.one .fr (.int .i64)) = some (RT.av (.one .fr (.int .i64)) q) → r e) :
    Ht Try.prog ⟨(Try.f97).ntmps, none, []⟩ fr (nav (bodyOf (Try.f97)) []) [] n r x := by
  unfold spec_l3Big_b_ob at hob
  refine Ht.seq (c1 := (nav (bodyOf (Try.f97)) [0])) (c2 := (nav (bodyOf (Try.f97)) [1])) (by kernel_rfl) ?_
  refine Ht.reg G (keep := []) (e' := []) (obs := []) (by kernel_rfl) hob.1 ?_
  refine Ht.seq (c1 := (nav (bodyOf (Try.f97)) [1, 0])) (c2 := (nav (bodyOf (Try.f97)) [1, 1])) (by kernel_rfl) ?_
  refine Ht.reg G (keep := [0]) (e' := [(0, .v .fr (.int .i64 1099511627776))]) (obs := []) (by kernel_rfl) hob.2.1 ?_
  refine Ht.ret (by kernel_rfl) ?_
  exact hr 1099511627776 (by simp only [spec_l3Big_b]) _ (by kernel_rfl)

noncomputable def v_spec_l3Big  : Int := ocR (spec_l3Big_b)
def p_spec_l3Big  : Prop := spec_l3Big_b_ob
noncomputable def s_spec_l3Big : Spec := ⟨[], .one .fr (.int .i64), false, fun _ => (v_spec_l3Big, 0), fun _ => p_spec_l3Big⟩
theorem con_spec_l3Big (G : Good Try.prog tt sp_spec_l3Big) : Con Try.prog 97 s_spec_l3Big :=
  con_of G.htt (fn := Try.f97) (c := bodyOf Try.f97) (by kernel_rfl) (by kernel_rfl) (by kernel_rfl) (rs := [.tmp 0]) (by kernel_rfl) (by kernel_rfl) (fun _ => rfl) fun x hp fr _ _ _ =>
    spec_l3Big_b_ok G (fr := fr) hp
      (fun q h e he => ⟨by rw [show (s_spec_l3Big.val x).1 = q from congrArg ocR h]; exact he, trivial⟩)

noncomputable def sp_spec_SetOk : SP := [(96, s_spec_l3Item), (97, s_spec_l3Big), (93, s_spec_l6In)]
noncomputable def spec_SetOk_c2_r (x3 : List Item) (s7 : Int) : Oc (Int) Bool Unit Empty Empty :=
  match (cmp .lss s7 (lenI .item x3)) with
  | true =>
    match (cond (cond (!(v_spec_l3Item (rd .item x3 s7))) true (!(v_spec_l6In (rd .item x3 s7).Count (IntKind.wrap .i64 (0 - v_spec_l3Big)) v_spec_l3Big))) true (cond (cmp .gtr s7 0) (cond (cmp .gtr (rd .item x3 (ar .sub .i64 s7 1)).Key (rd .item x3 s7).Key) true (cond (cmp .eql (rd .item x3 (ar .sub .i64 s7 1)).Key (rd .item x3 s7).Key) (cmp .geq (rd .item x3 (ar .sub .i64 s7 1)).Val (rd .item x3 s7).Val) false)) false)) with
    | true =>
      .r false
    | false =>
      .n (ar .add .i64 s7 1)
  | false =>
    .x ()
def spec_SetOk_c2_r_ob (x3 : List Item) (s7 : Int) : Prop :=
  ((True)) ∧
  ((cmp .lss s7 (lenI .item x3)) = true →
    ((inb s7 (lenI .item x3)) ∧ ((p_spec_l3Item (rd .item x3 s7))) ∧ ((((!(!(v_spec_l3Item (rd .item x3 s7)))) && true) = true → inb s7 (lenI .item x3))) ∧ ((((!(!(v_spec_l3Item (rd .item x3 s7)))) && true) = true → p_spec_l3Big)) ∧ ((((!(!(v_spec_l3Item (rd .item x3 s7)))) && true) = true → p_spec_l3Big)) ∧ ((((!(!(v_spec_l3Item (rd .item x3 s7)))) && true) = true → (p_spec_l6In (rd .item x3 s7).Count (IntKind.wrap .i64 (0 - v_spec_l3Big)) v_spec_l3Big))) ∧ ((((cmp .gtr s7 0) && ((!(cond (!(v_spec_l3Item (rd .item x3 s7))) true (!(v_spec_l6In (rd .item x3 s7).Count (IntKind.wrap .i64 (0 - v_spec_l3Big)) v_spec_l3Big)))) && true)) = true → inb (ar .sub .i64 s7 1) (lenI .item x3))) ∧ ((((cmp .gtr s7 0) && ((!(cond (!(v_spec_l3Item (rd .item x3 s7))) true (!(v_spec_l6In (rd .item x3 s7).Count (IntKind.wrap .i64 (0 - v_spec_l3Big)) v_spec_l3Big)))) && true)) = true → inb s7 (lenI .item x3))) ∧ ((((!(cmp .gtr (rd .item x3 (ar .sub .i64 s7 1)).Key (rd .item x3 s7).Key)) && ((cmp .gtr s7 0) && ((!(cond (!(v_spec_l3Item (rd .item x3 s7))) true (!(v_spec_l6In (rd .item x3 s7).Count (IntKind.wrap .i64 (0 - v_spec_l3Big)) v_spec_l3Big)))) && true))) = true → inb (ar .sub .i64 s7 1) (lenI .item x3))) ∧ ((((!(cmp .gtr (rd .item x3 (ar .sub .i64 s7 1)).Key (rd .item x3 s7).Key)) && ((cmp .gtr s7 0) && ((!(cond (!(v_spec_l3Item (rd .item x3 s7))) true (!(v_spec_l6In (rd .item x3 s7).Count (IntKind.wrap .i64 (0 - v_spec_l3Big)) v_spec_l3Big)))) && true))) = true → inb s7 (lenI .item x3))) ∧ ((((cmp .eql (rd .item x3 (ar .sub .i64 s7 1)).Key (rd .item x3 s7).Key) && ((!(cmp .gtr (rd .item x3 (ar .sub .i64 s7 1)).Key (rd .item x3 s7).Key)) && ((cmp .gtr s7 0) && ((!(cond (!(v_spec_l3Item (rd .item x3 s7))) true (!(v_spec_l6In (rd .item x3 s7).Count (IntKind.wrap .i64 (0 - v_spec_l3Big)) v_spec_l3Big)))) && true)))) = true → inb (ar .sub .i64 s7 1) (lenI .item x3))) ∧ ((((cmp .eql (rd .item x3 (ar .sub .i64 s7 1)).Key (rd .item x3 s7).Key) && ((!(cmp .gtr (rd .item x3 (ar .sub .i64 s7 1)).Key (rd .item x3 s7).Key)) && ((cmp .gtr s7 0) && ((!(cond (!(v_spec_l3Item (rd .item x3 s7))) true (!(v_spec_l6In (rd .item x3 s7).Count (IntKind.wrap .i64 (0 - v_spec_l3Big)) v_spec_l3Big)))) && true)))) = true → inb s7 (lenI .item x3))) ∧ (True)) ∧
    ((cond (cond (!(v_spec_l3Item (rd .item x3 s7))) true (!(v_spec_l6In (rd .item x3 s7).Count (IntKind.wrap .i64 (0 - v_spec_l3Big)) v_spec_l3Big))) true (cond (cmp .gtr s7 0) (cond (cmp .gtr (rd .item x3 (ar .sub .i64 s7 1)).Key (rd .item x3 s7).Key) true (cond (cmp .eql (rd .item x3 (ar .sub .i64 s7 1)).Key (rd .item x3 s7).Key) (cmp .geq (rd .item x3 (ar .sub .i64 s7 1)).Val (rd .item x3 s7).Val) false)) false)) = true →
      ((True)) ∧
      True) ∧ ((cond (cond (!(v_spec_l3Item (rd .item x3 s7))) true (!(v_spec_l6In (rd .item x3 s7).Count (IntKind.wrap .i64 (0 - v_spec_l3Big)) v_spec_l3Big))) true (cond (cmp .gtr s7 0) (cond (cmp .gtr (rd .item x3 (ar .sub .i64 s7 1)).Key (rd .item x3 s7).Key) true (cond (cmp .eql (rd .item x3 (ar .sub .i64 s7 1)).Key (rd .item x3 s7).Key) (cmp .geq (rd .item x3 (ar .sub .i64 s7 1)).Val (rd .item x3 s7).Val) false)) false)) = false →
      ((True)) ∧
      True)) ∧ ((cmp .lss s7 (lenI .item x3)) = false →
    True)
set_option maxRecDepth 100000 in
theorem spec_SetOk_c2_r_ok (G : Good Try.prog tt sp_spec_SetOk) {fr : Fr} (x3 : List Item) (s7 : Int) (hob : spec_SetOk_c2_r_ob x3 s7) {n r : Env → Prop} {x : Nat → Env → Prop}
    (hn : ∀ (q11 : Int), (spec_SetOk_c2_r x3 s7) = .n q11 → ∀ e, Weak e [(0, .v .sh (.lst .item x3)), (3, .v .fr (.int .i64 q11))] → n e)
    (hr : ∀ q, (spec_SetOk_c2_r x3 s7) = .r q → ∀ e, retAv tt e [.tmp 2] (.one .fr .bool) = some (RT.av (.one .fr .bool) q) → r e)
    (hx : (spec_SetOk_c2_r x3 s7) = .x () → ∀ e, Weak e [] → x 0 e) :
    Ht Try.prog ⟨(Try.f46).ntmps, none, []⟩ fr (nav (bodyOf (Try.f46)) [1, 1, 0, 1, 0, 0]) [(0, .v .sh (.lst .item x3)), (3, .v .fr (.int .i64 s7))] n r x := by
  unfold spec_SetOk_c2_r_ob at hob
  refine Ht.seq (c1 := (nav (bodyOf (Try.f46)) [1, 1, 0, 1, 0, 0, 0])) (c2 := (nav (bodyOf (Try.f46)) [1, 1, 0, 1, 0, 0, 1])) (by kernel_rfl) ?_
  refine Ht.seq (c1 := (nav (bodyOf (Try.f46)) [1, 1, 0, 1, 0, 0, 0, 0])) (c2 := (nav (bodyOf (Try.f46)) [1, 1, 0, 1, 0, 0, 0, 1])) (by kernel_rfl) ?_
  refine Ht.reg G (keep := [0, 3, 10]) (e' := [(0, .v .sh (.lst .item x3)), (3, .v .fr (.int .i64 s7)), (10, .v .fr (.bool (cmp .lss s7 (lenI .item x3))))]) (obs := []) (by kernel_rfl) hob.1 ?_
  refine Ht.cond (o := .tmp 10) (c1 := (nav (bodyOf (Try.f46)) [1, 1, 0, 1, 0, 0, 0, 1, 0])) (c2 := (nav (bodyOf (Try.f46)) [1, 1, 0, 1, 0, 0, 0, 1, 1])) (b := (cmp .lss s7 (lenI .item x3))) (by kernel_rfl) (by kernel_rfl) (fun h8 => ?_) (fun h8 => ?_)
  · have hb := hob.2.1 h8
    refine Ht.skip (by kernel_rfl) ?_
    refine Ht.seq (c1 := (nav (bodyOf (Try.f46)) [1, 1, 0, 1, 0, 0, 1, 0])) (c2 := (nav (bodyOf (Try.f46)) [1, 1, 0, 1, 0, 0, 1, 1])) (by kernel_rfl) ?_
    refine Ht.block (id := 1) (c1 := (nav (bodyOf (Try.f46)) [1, 1, 0, 1, 0, 0, 1, 0, 0])) (by kernel_rfl) ?_
    refine Ht.seq (c1 := (nav (bodyOf (Try.f46)) [1, 1, 0, 1, 0, 0, 1, 0, 0, 0])) (c2 := (nav (bodyOf (Try.f46)) [1, 1, 0, 1, 0, 0, 1, 0, 0, 1])) (by kernel_rfl) ?_
    refine Ht.reg G (keep := [0, 3, 76]) (e' := [(0, .v .sh (.lst .item x3)), (3, .v .fr (.int .i64 s7)), (76, .v .fr (.bool (cond (cond (!(v_spec_l3Item (rd .item x3 s7))) true (!(v_spec_l6In (rd .item x3 s7).Count (IntKind.wrap .i64 (0 - v_spec_l3Big)) v_spec_l3Big))) true (cond (cmp .gtr s7 0) (cond (cmp .gtr (rd .item x3 (ar .sub .i64 s7 1)).Key (rd .item x3 s7).Key) true (cond (cmp .eql (rd .item x3 (ar .sub .i64 s7 1)).Key (rd .item x3 s7).Key) (cmp .geq (rd .item x3 (ar .sub .i64 s7 1)).Val (rd .item x3 s7).Val) false)) false))))]) (obs := [inb s7 (lenI .item x3), (p_spec_l3Item (rd .item x3 s7)), (((!(!(v_spec_l3Item (rd .item x3 s7)))) && true) = true → inb s7 (lenI .item x3)), (((!(!(v_spec_l3Item (rd .item x3 s7)))) && true) = true → p_spec_l3Big), (((!(!(v_spec_l3Item (rd .item x3 s7)))) && true) = true → p_spec_l3Big), (((!(!(v_spec_l3Item (rd .item x3 s7)))) && true) = true → (p_spec_l6In (rd .item x3 s7).Count (IntKind.wrap .i64 (0 - v_spec_l3Big)) v_spec_l3Big)), (((cmp .gtr s7 0) && ((!(cond (!(v_spec_l3Item (rd .item x3 s7))) true (!(v_spec_l6In (rd .item x3 s7).Count (IntKind.wrap .i64 (0 - v_spec_l3Big)) v_spec_l3Big)))) && true)) = true → inb (ar .sub .i64 s7 1) (lenI .item x3)), (((cmp .gtr s7 0) && ((!(cond (!(v_spec_l3Item (rd .item x3 s7))) true (!(v_spec_l6In (rd .item x3 s7).Count (IntKind.wrap .i64 (0 - v_spec_l3Big)) v_spec_l3Big)))) && true)) = true → inb s7 (lenI .item x3)), (((!(cmp .gtr (rd .item x3 (ar .sub .i64 s7 1)).Key (rd .item x3 s7).Key)) && ((cmp .gtr s7 0) && ((!(cond (!(v_spec_l3Item (rd .item x3 s7))) true (!(v_spec_l6In (rd .item x3 s7).Count (IntKind.wrap .i64 (0 - v_spec_l3Big)) v_spec_l3Big)))) && true))) = true → inb (ar .sub .i64 s7 1) (lenI .item x3)), (((!(cmp .gtr (rd .item x3 (ar .sub .i64 s7 1)).Key (rd .item x3 s7).Key)) && ((cmp .gtr s7 0) && ((!(cond (!(v_spec_l3Item (rd .item x3 s7))) true (!(v_spec_l6In (rd .item x3 s7).Count (IntKind.wrap .i64 (0 - v_spec_l3Big)) v_spec_l3Big)))) && true))) = true → inb s7 (lenI .item x3)), (((cmp .eql (rd .item x3 (ar .sub .i64 s7 1)).Key (rd .item x3 s7).Key) && ((!(cmp .gtr (rd .item x3 (ar .sub .i64 s7 1)).Key (rd .item x3 s7).Key)) && ((cmp .gtr s7 0) && ((!(cond (!(v_spec_l3Item (rd .item x3 s7))) true (!(v_spec_l6In (rd .item x3 s7).Count (IntKind.wrap .i64 (0 - v_spec_l3Big)) v_spec_l3Big)))) && true)))) = true → inb (ar .sub .i64 s7 1) (lenI .item x3)), (((cmp .eql (rd .item x3 (ar .sub .i64 s7 1)).Key (rd .item x3 s7).Key) && ((!(cmp .gtr (rd .item x3 (ar .sub .i64 s7 1)).Key (rd .item x3 s7).Key)) && ((cmp .gtr s7 0) && ((!(cond (!(v_spec_l3Item (rd .item x3 s7))) true (!(v_spec_l6In (rd .item x3 s7).Count (IntKind.wrap .i64 (0 - v_spec_l3Big)) v_spec_l3Big)))) && true)))) = true → inb s7 (lenI .item x3))]) (by kernel_rfl) hb.1 ?_
    refine Ht.cond (o := .tmp 76) (c1 := (nav (bodyOf (Try.f46)) [1, 1, 0, 1, 0, 0, 1, 0, 0, 1, 0])) (c2 := (nav (bodyOf (Try.f46)) [1, 1, 0, 1, 0, 0, 1, 0, 0, 1, 1])) (b := (cond (cond (!(v_spec_l3Item (rd .item x3 s7))) true (!(v_spec_l6In (rd .item x3 s7).Count (IntKind.wrap .i64 (0 - v_spec_l3Big)) v_spec_l3Big))) true (cond (cmp .gtr s7 0) (cond (cmp .gtr (rd .item x3 (ar .sub .i64 s7 1)).Key (rd .item x3 s7).Key) true (cond (cmp .eql (rd .item x3 (ar .sub .i64 s7 1)).Key (rd .item x3 s7).Key) (cmp .geq (rd .item x3 (ar .sub .i64 s7 1)).Val (rd .item x3 s7).Val) false)) false))) (by kernel_rfl) (by kernel_rfl) (fun h9 => ?_) (fun h9 => ?_)
    · have hb := hb.2.1 h9
      refine Ht.seq (c1 := (nav (bodyOf (Try.f46)) [1, 1, 0, 1, 0, 0, 1, 0, 0, 1, 0, 0])) (c2 := (nav (bodyOf (Try.f46)) [1, 1, 0, 1, 0, 0, 1, 0, 0, 1, 0, 1])) (by kernel_rfl) ?_
      refine Ht.reg G (keep := [2]) (e' := [(2, .v .fr (.bool false))]) (obs := []) (by kernel_rfl) hb.1 ?_
      refine Ht.ret (by kernel_rfl) ?_
      exact hr false (by simp only [spec_SetOk_c2_r, h8, h9]) _ (by kernel_rfl)
    · have hb := hb.2.2 h9
      refine Ht.skip (by kernel_rfl) ?_
      refine Ht.reg G (keep := [0, 3]) (e' := [(0, .v .sh (.lst .item x3)), (3, .v .fr (.int .i64 (ar .add .i64 s7 1)))]) (obs := []) (by kernel_rfl) hb.1 ?_
      exact hn (ar .add .i64 s7 1) (by simp only [spec_SetOk_c2_r, h8, h9]) _ (Weak.cast (pat := [(0, .sh), (3, .fr)]) (by kernel_rfl) (by kernel_rfl))
  · have hb := hob.2.2 h8
    refine Ht.exit (i := 0) (by kernel_rfl) ?_
    exact hx (by simp only [spec_SetOk_c2_r, h8]) _ (Weak.cast (pat := []) (by kernel_rfl) (by kernel_rfl))

noncomputable def spec_SetOk_c2 (x3 : List Item) : Oc Empty Bool Unit Empty Empty := lpV (fun s => ocLp ((fun (s : Int) => spec_SetOk_c2_r x3 s) s)) 0
def spec_SetOk_c2_ob (x3 : List Item) : Prop := LpT (fun s => ocLp ((fun (s : Int) => spec_SetOk_c2_r x3 s) s)) (fun s => spec_SetOk_c2_r_ob x3 s) 0
set_option maxRecDepth 100000 in
theorem spec_SetOk_c2_ok (G : Good Try.prog tt sp_spec_SetOk) {fr : Fr} (x3 : List Item) (hob : spec_SetOk_c2_ob x3) {n r : Env → Prop} {x : Nat → Env → Prop}
    (hr : ∀ q, (spec_SetOk_c2 x3) = .r q → ∀ e, retAv tt e [.tmp 2] (.one .fr .bool) = some (RT.av (.one .fr .bool) q) → r e)
    (hx : (spec_SetOk_c2 x3) = .x () → ∀ e, Weak e [] → x 0 e) :
    Ht Try.prog ⟨(Try.f46).ntmps, none, []⟩ fr (nav (bodyOf (Try.f46)) [1, 1, 0, 1, 0]) [(0, .v .sh (.lst .item x3)), (3, .v .fr (.int .i64 0))] n r x := by
  unfold spec_SetOk_c2_ob at hob
  refine Ht.weak (e' := (fun (s : Int) => [(0, .v .sh (.lst .item x3)), (3, .v .fr (.int .i64 s))]) 0) (Weak.cast (pat := [(0, .sh), (3, .fr)]) (by kernel_rfl) (by kernel_rfl)) ?_
  refine Ht.loopOc (c1 := (nav (bodyOf (Try.f46)) [1, 1, 0, 1, 0, 0])) (by kernel_rfl) (fun (s : Int) => [(0, .v .sh (.lst .item x3)), (3, .v .fr (.int .i64 s))]) (fun (s : Int) => spec_SetOk_c2_r x3 s) hob (RP := fun q e => retAv tt e [.tmp 2] (.one .fr .bool) = some (RT.av (.one .fr .bool) q)) (XP := (fun i _ e => i = 0 ∧ Weak e [])) (YP := (fun _ _ _ => False)) (ZP := (fun _ _ _ => False)) (fun s hs => ?_) ?_ ?_ ?_ ?_
  · refine spec_SetOk_c2_r_ok G x3 s hs (fun q11 h e hw => ⟨q11, h, hw⟩) (fun q h e he => ⟨q, h, he⟩) (fun h e hw => .inl ⟨(), h, rfl, hw⟩)
  · exact fun q e h he => hr q h e he
  · rintro i q e h ⟨rfl, hw⟩
    exact hx h e hw
  · exact fun _ _ _ _ h => h.elim
  · exact fun _ _ _ _ h => h.elim


noncomputable def spec_SetOk_c1 (x2 : List Item) : Oc Unit Bool Empty Empty Empty :=
  match (spec_SetOk_c2 x2) with
  | .r q12 =>
    .r q12
  | .x () =>
    .n ()
  | .n q => q.elim
  | .y q => q.elim
  | .z q => q.elim
def spec_SetOk_c1_ob (x2 : List Item) : Prop :=
  ((True)) ∧
  (spec_SetOk_c2_ob x2) ∧
  ((spec_SetOk_c2 x2) = .x () →
    True)
set_option maxRecDepth 100000 in
theorem spec_SetOk_c1_ok (G : Good Try.prog tt sp_spec_SetOk) {fr : Fr} (x2 : List Item) (hob : spec_SetOk_c1_ob x2) {n r : Env → Prop} {x : Nat → Env → Prop}
    (hn : (spec_SetOk_c1 x2) = .n () → ∀ e, Weak e [] → n e)
    (hr : ∀ q, (spec_SetOk_c1 x2) = .r q → ∀ e, retAv tt e [.tmp 2] (.one .fr .bool) = some (RT.av (.one .fr .bool) q) → r e) :
    Ht Try.prog ⟨(Try.f46).ntmps, none, []⟩ fr (nav (bodyOf (Try.f46)) [1, 1, 0]) [(0, .v .sh (.lst .item x2))] n r x := by
  unfold spec_SetOk_c1_ob at hob
  refine Ht.seq (c1 := (nav (bodyOf (Try.f46)) [1, 1, 0, 0])) (c2 := (nav (bodyOf (Try.f46)) [1, 1, 0, 1])) (by kernel_rfl) ?_
  refine Ht.reg G (keep := [0, 3]) (e' := [(0, .v .sh (.lst .item x2)), (3, .v .fr (.int .i64 0))]) (obs := []) (by kernel_rfl) hob.1 ?_
  refine Ht.block (id := 0) (c1 := (nav (bodyOf (Try.f46)) [1, 1, 0, 1, 0])) (by kernel_rfl) ?_
  refine Ht.weak (e' := [(0, .v .sh (.lst .item x2)), (3, .v .fr (.int .i64 0))]) (Weak.cast (pat := [(0, .same), (3, .same)]) (by kernel_rfl) (by kernel_rfl)) ?_
  refine spec_SetOk_c2_ok G x2 hob.2.1 (fun q h13 e he => hr q (by simp only [spec_SetOk_c1, h13]) e he) (fun h14 e hw => ?_)
  · have hb := hob.2.2 h14
    exact hn (by simp only [spec_SetOk_c1, h14]) e (hw.trans (Weak.cast (pat := []) (by kernel_rfl) (by kernel_rfl)))

noncomputable def spec_SetOk_b (a0 : List Item) : Oc Empty Bool Empty Empty Empty :=
  match (cmp .gtr (lenI .item a0) 400) with
  | true =>
    .r false
  | false =>
    match (spec_SetOk_c1 a0) with
    | .n () =>
      .r true
    | .r q16 =>
      .r q16
    | .x q => q.elim
    | .y q => q.elim
    | .z q => q.elim
def spec_SetOk_b_ob (a0 : List Item) : Prop :=
  ((True)) ∧
  ((True)) ∧
  ((cmp .gtr (lenI .item a0) 400) = true →
    ((True)) ∧
    True) ∧ ((cmp .gtr (lenI .item a0) 400) = false →
    (spec_SetOk_c1_ob a0) ∧
    ((spec_SetOk_c1 a0) = .n () →
      ((True)) ∧
      True))
set_option maxRecDepth 100000 in
theorem spec_SetOk_b_ok (G : Good Try.prog tt sp_spec_SetOk) {fr : Fr} (a0 : List Item) (hob : spec_SetOk_b_ob a0) {n r : Env → Prop} {x : Nat → Env → Prop}
    (hr : ∀ q, (spec_SetOk_b a0) = .r q → ∀ e, retAv tt e [.tmp 2] (.one .fr .bool) = some (RT.av (.one .fr .bool) q) → r e) :
    Ht Try.prog ⟨(Try.f46).ntmps, none, []⟩ fr (nav (bodyOf (Try.f46)) []) [(0, .v .sh (.lst .item a0))] n r x := by
  unfold spec_SetOk_b_ob at hob
  refine Ht.seq (c1 := (nav (bodyOf (Try.f46)) [0])) (c2 := (nav (bodyOf (Try.f46)) [1])) (by kernel_rfl) ?_
  refine Ht.reg G (keep := [0]) (e' := [(0, .v .sh (.lst .item a0))]) (obs := []) (by kernel_rfl) hob.1 ?_
  refine Ht.seq (c1 := (nav (bodyOf (Try.f46)) [1, 0])) (c2 := (nav (bodyOf (Try.f46)) [1, 1])) (by kernel_rfl) ?_
  refine Ht.seq (c1 := (nav (bodyOf (Try.f46)) [1, 0, 0])) (c2 := (nav (bodyOf (Try.f46)) [1, 0, 1])) (by kernel_rfl) ?_
  refine Ht.reg G (keep := [0, 6]) (e' := [(0, .v .sh (.lst .item a0)), (6, .v .fr (.bool (cmp .gtr (lenI .item a0) 400)))]) (obs := []) (by kernel_rfl) hob.2.1 ?_
  refine Ht.cond (o := .tmp 6) (c1 := (nav (bodyOf (Try.f46)) [1, 0, 1, 0])) (c2 := (nav (bodyOf (Try.f46)) [1, 0, 1, 1])) (b := (cmp .gtr (lenI .item a0) 400)) (by kernel_rfl) (by kernel_rfl) (fun h1 => ?_) (fun h1 => ?_)
  · have hb := hob.2.2.1 h1
    refine Ht.seq (c1 := (nav (bodyOf (Try.f46)) [1, 0, 1, 0, 0])) (c2 := (nav (bodyOf (Try.f46)) [1, 0, 1, 0, 1])) (by kernel_rfl) ?_
    refine Ht.reg G (keep := [2]) (e' := [(2, .v .fr (.bool false))]) (obs := []) (by kernel_rfl) hb.1 ?_
    refine Ht.ret (by kernel_rfl) ?_
    exact hr false (by simp only [spec_SetOk_b, h1]) _ (by kernel_rfl)
  · have hb := hob.2.2.2 h1
    refine Ht.skip (by kernel_rfl) ?_
    refine Ht.seq (c1 := (nav (bodyOf (Try.f46)) [1, 1, 0])) (c2 := (nav (bodyOf (Try.f46)) [1, 1, 1])) (by kernel_rfl) ?_
    refine Ht.weak (e' := [(0, .v .sh (.lst .item a0))]) (Weak.cast (pat := [(0, .same)]) (by kernel_rfl) (by kernel_rfl)) ?_
    refine spec_SetOk_c1_ok G a0 hb.1 (fun h15 e hw => ?_) (fun q h17 e he => hr q (by simp only [spec_SetOk_b, h1, h17]) e he)
    · have hb := hb.2 h15
      refine Ht.weak hw ?_
      refine Ht.seq (c1 := (nav (bodyOf (Try.f46)) [1, 1, 1, 0])) (c2 := (nav (bodyOf (Try.f46)) [1, 1, 1, 1])) (by kernel_rfl) ?_
      refine Ht.reg G (keep := [2]) (e' := [(2, .v .fr (.bool true))]) (obs := []) (by kernel_rfl) hb.1 ?_
      refine Ht.ret (by kernel_rfl) ?_
      exact hr true (by simp only [spec_SetOk_b, h1, h15]) _ (by kernel_rfl)

noncomputable def v_spec_SetOk (a0 : List Item) : Bool := ocR (spec_SetOk_b a0)
def p_spec_SetOk (a0 : List Item) : Prop := spec_SetOk_b_ob a0
noncomputable def s_spec_SetOk : Spec := ⟨[(.lst .item)], .one .fr .bool, false, fun x => (v_spec_SetOk x.1, 0), fun x => p_spec_SetOk x.1⟩
theorem con_spec_SetOk (G : Good Try.prog tt sp_spec_SetOk) : Con Try.prog 46 s_spec_SetOk :=
  con_of G.htt (fn := Try.f46) (c := bodyOf Try.f46) (by kernel_rfl) (by kernel_rfl) (by kernel_rfl) (rs := [.tmp 2]) (by kernel_rfl) (by kernel_rfl) (fun _ => rfl) fun x hp fr _ _ _ =>
    spec_SetOk_b_ok G (fr := fr) x.1 hp
      (fun q h e he => ⟨by rw [show (s_spec_SetOk.val x).1 = q from congrArg ocR h]; exact he, trivial⟩)

noncomputable def sp_spec_l22Keys : SP := []
noncomputable def spec_l22Keys_c2_r (x2 : List Item) (s6 : List Item) (s7 : Int) : Oc ((List Item) × Int) (List Item) ((List Item)) Empty Empty :=
  match (cmp .lss s7 (lenI .item x2)) with
  | true =>
    .n ((s6 ++ [(Item.mk (rd .item x2 s7).Key 0 (rd .item x2 s7).Count)]), (ar .add .i64 s7 1))
  | false =>
    .x s6
def spec_l22Keys_c2_r_ob (x2 : List Item) (s6 : List Item) (s7 : Int) : Prop :=
  ((True)) ∧
  ((cmp .lss s7 (lenI .item x2)) = true →
    ((inb s7 (lenI .item x2)) ∧ (inb s7 (lenI .item x2)) ∧ (lim (lenI .item s6) (lenI .item [(Item.mk (rd .item x2 s7).Key 0 (rd .item x2 s7).Count)])) ∧ (True)) ∧
    ((True)) ∧
    True) ∧ ((cmp .lss s7 (lenI .item x2)) = false →
    True)
set_option maxRecDepth 100000 in
theorem spec_l22Keys_c2_r_ok (G : Good Try.prog tt sp_spec_l22Keys) {fr : Fr} (x2 : List Item) (s6 : List Item) (s7 : Int) (hob : spec_l22Keys_c2_r_ob x2 s6 s7) {n r : Env → Prop} {x : Nat → Env → Prop}
    (hn : ∀ (q12 : List Item) (q13 : Int), (spec_l22Keys_c2_r x2 s6 s7) = .n (q12, q13) → ∀ e, Weak e [(0, .v .sh (.lst .item x2)), (3, .v (.acc true) (.lst .item q12)), (4, .v .fr (.int .i64 q13))] → n e)
    (_hr : ∀ q, (spec_l22Keys_c2_r x2 s6 s7) = .r q → ∀ e, retAv tt e [.tmp 2] (.one (.acc true) (.lst .item)) = some (RT.av (.one (.acc true) (.lst .item)) q) → r e)
    (hx : ∀ (q11 : List Item), (spec_l22Keys_c2_r x2 s6 s7) = .x q11 → ∀ e, Weak e [(3, .v (.acc true) (.lst .item q11))] → x 0 e) :
    Ht Try.prog ⟨(Try.f82).ntmps, none, []⟩ fr (nav (bodyOf (Try.f82)) [1, 1, 0, 1, 0, 0]) [(0, .v .sh (.lst .item x2)), (3, .v (.acc true) (.lst .item s6)), (4, .v .fr (.int .i64 s7))] n r x := by
  unfold spec_l22Keys_c2_r_ob at hob
  refine Ht.seq (c1 := (nav (bodyOf (Try.f82)) [1, 1, 0, 1, 0, 0, 0])) (c2 := (nav (bodyOf (Try.f82)) [1, 1, 0, 1, 0, 0, 1])) (by kernel_rfl) ?_
  refine Ht.seq (c1 := (nav (bodyOf (Try.f82)) [1, 1, 0, 1, 0, 0, 0, 0])) (c2 := (nav (bodyOf (Try.f82)) [1, 1, 0, 1, 0, 0, 0, 1])) (by kernel_rfl) ?_
  refine Ht.reg G (keep := [0, 3, 4, 9]) (e' := [(0, .v .sh (.lst .item x2)), (3, .v (.acc true) (.lst .item s6)), (4, .v .fr (.int .i64 s7)), (9, .v .fr (.bool (cmp .lss s7 (lenI .item x2))))]) (obs := []) (by kernel_rfl) hob.1 ?_
  refine Ht.cond (o := .tmp 9) (c1 := (nav (bodyOf (Try.f82)) [1, 1, 0, 1, 0, 0, 0, 1, 0])) (c2 := (nav (bodyOf (Try.f82)) [1, 1, 0, 1, 0, 0, 0, 1, 1])) (b := (cmp .lss s7 (lenI .item x2))) (by kernel_rfl) (by kernel_rfl) (fun h8 => ?_) (fun h8 => ?_)
  · have hb := hob.2.1 h8
    refine Ht.skip (by kernel_rfl) ?_
    refine Ht.seq (c1 := (nav (bodyOf (Try.f82)) [1, 1, 0, 1, 0, 0, 1, 0])) (c2 := (nav (bodyOf (Try.f82)) [1, 1, 0, 1, 0, 0, 1, 1])) (by kernel_rfl) ?_
    refine Ht.block (id := 1) (c1 := (nav (bodyOf (Try.f82)) [1, 1, 0, 1, 0, 0, 1, 0, 0])) (by kernel_rfl) ?_
    refine Ht.reg G (keep := [0, 3, 4]) (e' := [(0, .v .sh (.lst .item x2)), (3, .v (.acc true) (.lst .item (s6 ++ [(Item.mk (rd .item x2 s7).Key 0 (rd .item x2 s7).Count)]))), (4, .v .fr (.int .i64 s7))]) (obs := [inb s7 (lenI .item x2), inb s7 (lenI .item x2), lim (lenI .item s6) (lenI .item [(Item.mk (rd .item x2 s7).Key 0 (rd .item x2 s7).Count)])]) (by kernel_rfl) hb.1 ?_
    refine Ht.reg G (keep := [0, 3, 4]) (e' := [(0, .v .sh (.lst .item x2)), (3, .v (.acc true) (.lst .item (s6 ++ [(Item.mk (rd .item x2 s7).Key 0 (rd .item x2 s7).Count)]))), (4, .v .fr (.int .i64 (ar .add .i64 s7 1)))]) (obs := []) (by kernel_rfl) hb.2.1 ?_
    exact hn (s6 ++ [(Item.mk (rd .item x2 s7).Key 0 (rd .item x2 s7).Count)]) (ar .add .i64 s7 1) (by simp only [spec_l22Keys_c2_r, h8]) _ (Weak.cast (pat := [(0, .sh), (3, (.acc true)), (4, .fr)]) (by kernel_rfl) (by kernel_rfl))
  · have hb := hob.2.2 h8
    refine Ht.exit (i := 0) (by kernel_rfl) ?_
    exact hx s6 (by simp only [spec_l22Keys_c2_r, h8]) _ (Weak.cast (pat := [(3, (.acc true))]) (by kernel_rfl) (by kernel_rfl))

noncomputable def spec_l22Keys_c2 (x2 : List Item) : Oc Empty (List Item) ((List Item)) Empty Empty := lpV (fun s => ocLp ((fun (s : (List Item) × Int) => spec_l22Keys_c2_r x2 s.1 s.2) s)) ([], 0)
def spec_l22Keys_c2_ob (x2 : List Item) : Prop := LpT (fun s => ocLp ((fun (s : (List Item) × Int) => spec_l22Keys_c2_r x2 s.1 s.2) s)) (fun s => spec_l22Keys_c2_r_ob x2 s.1 s.2) ([], 0)
set_option maxRecDepth 100000 in
theorem spec_l22Keys_c2_ok (G : Good Try.prog tt sp_spec_l22Keys) {fr : Fr} (x2 : List Item) (hob : spec_l22Keys_c2_ob x2) {n r : Env → Prop} {x : Nat → Env → Prop}
    (hr : ∀ q, (spec_l22Keys_c2 x2) = .r q → ∀ e, retAv tt e [.tmp 2] (.one (.acc true) (.lst .item)) = some (RT.av (.one (.acc true) (.lst .item)) q) → r e)
    (hx : ∀ (q11 : List Item), (spec_l22Keys_c2 x2) = .x q11 → ∀ e, Weak e [(3, .v (.acc true) (.lst .item q11))] → x 0 e) :
    Ht Try.prog ⟨(Try.f82).ntmps, none, []⟩ fr (nav (bodyOf (Try.f82)) [1, 1, 0, 1, 0]) [(0, .v .sh (.lst .item x2)), (3, .v (.acc true) (.lst .item [])), (4, .v .fr (.int .i64 0))] n r x := by
  unfold spec_l22Keys_c2_ob at hob
  refine Ht.weak (e' := (fun (s : (List Item) × Int) => [(0, .v .sh (.lst .item x2)), (3, .v (.acc true) (.lst .item s.1)), (4, .v .fr (.int .i64 s.2))]) ([], 0)) (Weak.cast (pat := [(0, .sh), (3, (.acc true)), (4, .fr)]) (by kernel_rfl) (by kernel_rfl)) ?_
  refine Ht.loopOc (c1 := (nav (bodyOf (Try.f82)) [1, 1, 0, 1, 0, 0])) (by kernel_rfl) (fun (s : (List Item) × Int) => [(0, .v .sh (.lst .item x2)), (3, .v (.acc true) (.lst .item s.1)), (4, .v .fr (.int .i64 s.2))]) (fun (s : (List Item) × Int) => spec_l22Keys_c2_r x2 s.1 s.2) hob (RP := fun q e => retAv tt e [.tmp 2] (.one (.acc true) (.lst .item)) = some (RT.av (.one (.acc true) (.lst .item)) q)) (XP := (fun i q e => i = 0 ∧ Weak e [(3, .v (.acc true) (.lst .item q))])) (YP := (fun _ _ _ => False)) (ZP := (fun _ _ _ => False)) (fun s hs => ?_) ?_ ?_ ?_ ?_
  · refine spec_l22Keys_c2_r_ok G x2 s.1 s.2 hs (fun q12 q13 h e hw => ⟨(q12, q13), h, hw⟩) (fun q h e he => ⟨q, h, he⟩) (fun q11 h e hw => .inl ⟨q11, h, rfl, hw⟩)
  · exact fun q e h he => hr q h e he
  · rintro i q e h ⟨rfl, hw⟩
    exact hx q h e hw
  · exact fun _ _ _ _ h => h.elim
  · exact fun _ _ _ _ h => h.elim


noncomputable def spec_l22Keys_c1 (x1 : List Item) : Oc ((List Item)) (List Item) Empty Empty Empty :=
  match (spec_l22Keys_c2 x1) with
  | .r q14 =>
    .r q14
  | .x q16 =>
    .n q16
  | .n q => q.elim
  | .y q => q.elim
  | .z q => q.elim
def spec_l22Keys_c1_ob (x1 : List Item) : Prop :=
  ((True)) ∧
  (spec_l22Keys_c2_ob x1) ∧
  (∀ (q16 : List Item), (spec_l22Keys_c2 x1) = .x q16 →
    True)
set_option maxRecDepth 100000 in
theorem spec_l22Keys_c1_ok (G : Good Try.prog tt sp_spec_l22Keys) {fr : Fr} (x1 : List Item) (hob : spec_l22Keys_c1_ob x1) {n r : Env → Prop} {x : Nat → Env → Prop}
    (hn : ∀ (q18 : List Item), (spec_l22Keys_c1 x1) = .n q18 → ∀ e, Weak e [(3, .v (.acc true) (.lst .item q18))] → n e)
    (hr : ∀ q, (spec_l22Keys_c1 x1) = .r q → ∀ e, retAv tt e [.tmp 2] (.one (.acc true) (.lst .item)) = some (RT.av (.one (.acc true) (.lst .item)) q) → r e) :
    Ht Try.prog ⟨(Try.f82).ntmps, none, []⟩ fr (nav (bodyOf (Try.f82)) [1, 1, 0]) [(0, .v .sh (.lst .item x1)), (3, .v (.acc true) (.lst .item []))] n r x := by
  unfold spec_l22Keys_c1_ob at hob
  refine Ht.seq (c1 := (nav (bodyOf (Try.f82)) [1, 1, 0, 0])) (c2 := (nav (bodyOf (Try.f82)) [1, 1, 0, 1])) (by kernel_rfl) ?_
  refine Ht.reg G (keep := [0, 3, 4]) (e' := [(0, .v .sh (.lst .item x1)), (3, .v (.acc true) (.lst .item [])), (4, .v .fr (.int .i64 0))]) (obs := []) (by kernel_rfl) hob.1 ?_
  refine Ht.block (id := 0) (c1 := (nav (bodyOf (Try.f82)) [1, 1, 0, 1, 0])) (by kernel_rfl) ?_
  refine Ht.weak (e' := [(0, .v .sh (.lst .item x1)), (3, .v (.acc true) (.lst .item [])), (4, .v .fr (.int .i64 0))]) (Weak.cast (pat := [(0, .same), (3, .same), (4, .same)]) (by kernel_rfl) (by kernel_rfl)) ?_
  refine spec_l22Keys_c2_ok G x1 hob.2.1 (fun q h15 e he => hr q (by simp only [spec_l22Keys_c1, h15]) e he) (fun q16 h17 e hw => ?_)
  · have hb := hob.2.2 q16 h17
    exact hn q16 (by simp only [spec_l22Keys_c1, h17]) e (hw.trans (Weak.cast (pat := [(3, (.acc true))]) (by kernel_rfl) (by kernel_rfl)))

noncomputable def spec_l22Keys_b (a0 : List Item) : Oc Empty (List Item) Empty Empty Empty :=
  match (spec_l22Keys_c1 a0) with
  | .n q19 =>
    .r q19
  | .r q21 =>
    .r q21
  | .x q => q.elim
  | .y q => q.elim
  | .z q => q.elim
def spec_l22Keys_b_ob (a0 : List Item) : Prop :=
  ((True)) ∧
  ((True)) ∧
  (spec_l22Keys_c1_ob a0) ∧
  (∀ (q19 : List Item), (spec_l22Keys_c1 a0) = .n q19 →
    ((True)) ∧
    True)
set_option maxRecDepth 100000 in
theorem spec_l22Keys_b_ok (G : Good Try.prog tt sp_spec_l22Keys) {fr : Fr} (a0 : List Item) (hob : spec_l22Keys_b_ob a0) {n r : Env → Prop} {x : Nat → Env → Prop}
    (hr : ∀ q, (spec_l22Keys_b a0) = .r q → ∀ e, retAv tt e [.tmp 2] (.one (.acc true) (.lst .item)) = some (RT.av (.one (.acc true) (.lst .item)) q) → r e) :
    Ht Try.prog ⟨(Try.f82).ntmps, none, []⟩ fr (nav (bodyOf (Try.f82)) []) [(0, .v .sh (.lst .item a0))] n r x := by
  unfold spec_l22Keys_b_ob at hob
  refine Ht.seq (c1 := (nav (bodyOf (Try.f82)) [0])) (c2 := (nav (bodyOf (Try.f82)) [1])) (by kernel_rfl) ?_
  refine Ht.reg G (keep := [0]) (e' := [(0, .v .sh (.lst .item a0))]) (obs := []) (by kernel_rfl) hob.1 ?_
  refine Ht.seq (c1 := (nav (bodyOf (Try.f82)) [1, 0])) (c2 := (nav (bodyOf (Try.f82)) [1, 1])) (by kernel_rfl) ?_
  refine Ht.reg G (keep := [0, 3]) (e' := [(0, .v .sh (.lst .item a0)), (3, .v (.acc true) (.lst .item []))]) (obs := []) (by kernel_rfl) hob.2.1 ?_
  refine Ht.seq (c1 := (nav (bodyOf (Try.f82)) [1, 1, 0])) (c2 := (nav (bodyOf (Try.f82)) [1, 1, 1])) (by kernel_rfl) ?_
  refine Ht.weak (e' := [(0, .v .sh (.lst .item a0)), (3, .v (.acc true) (.lst .item []))]) (Weak.cast (pat := [(0, .same), (3, .same)]) (by kernel_rfl) (by kernel_rfl)) ?_
  refine spec_l22Keys_c1_ok G a0 hob.2.2.1 (fun q19 h20 e hw => ?_) (fun q h22 e he => hr q (by simp only [spec_l22Keys_b, h22]) e he)
  · have hb := hob.2.2.2 q19 h20
    refine Ht.weak hw ?_
    refine Ht.seq (c1 := (nav (bodyOf (Try.f82)) [1, 1, 1, 0])) (c2 := (nav (bodyOf (Try.f82)) [1, 1, 1, 1])) (by kernel_rfl) ?_
    refine Ht.reg G (keep := [2]) (e' := [(2, .v (.acc true) (.lst .item q19))]) (obs := []) (by kernel_rfl) hb.1 ?_
    refine Ht.ret (by kernel_rfl) ?_
    exact hr q19 (by simp only [spec_l22Keys_b, h20]) _ (by kernel_rfl)

noncomputable def v_spec_l22Keys (a0 : List Item) : List Item := ocR (spec_l22Keys_b a0)
def p_spec_l22Keys (a0 : List Item) : Prop := spec_l22Keys_b_ob a0
noncomputable def s_spec_l22Keys : Spec := ⟨[(.lst .item)], .one (.acc true) (.lst .item), false, fun x => (v_spec_l22Keys x.1, 0), fun x => p_spec_l22Keys x.1⟩
theorem con_spec_l22Keys (G : Good Try.prog tt sp_spec_l22Keys) : Con Try.prog 82 s_spec_l22Keys :=
  con_of G.htt (fn := Try.f82) (c := bodyOf Try.f82) (by kernel_rfl) (by kernel_rfl) (by kernel_rfl) (rs := [.tmp 2]) (by kernel_rfl) (by kernel_rfl) (fun _ => rfl) fun x hp fr _ _ _ =>
    spec_l22Keys_b_ok G (fr := fr) x.1 hp
      (fun q h e he => ⟨by rw [show (s_spec_l22Keys.val x).1 = q from congrArg ocR h]; exact he, trivial⟩)

noncomputable def sp_spec_l22Lead : SP := []
noncomputable def spec_l22Lead_c5 (x77 : List Item) (x78 : List Item) (x79 : List Item) (x80 : Int) (x81 : Int) : Oc ((List Item)) (List Item) Empty Empty Empty :=
  match (cmp .eql (rd .item x77 x80).Key (rd .item x78 x81).Key) with
  | true =>
    .n (x79 ++ [(Item.mk (ar .rem .i64 (rd .item x77 x80).Val 4) 0 (ar .mul .i64 (rd .item x77 x80).Count (rd .item x78 x81).Count))])
  | false =>
    .n x79
def spec_l22Lead_c5_ob (x77 : List Item) (x78 : List Item) (x79 : List Item) (x80 : Int) (x81 : Int) : Prop :=
  ((inb x80 (lenI .item x77)) ∧ (inb x81 (lenI .item x78)) ∧ (True)) ∧
  ((cmp .eql (rd .item x77 x80).Key (rd .item x78 x81).Key) = true →
    ((inb x80 (lenI .item x77)) ∧ ((4 : Int) ≠ 0) ∧ (inb x80 (lenI .item x77)) ∧ (inb x81 (lenI .item x78)) ∧ (lim (lenI .item x79) (lenI .item [(Item.mk (ar .rem .i64 (rd .item x77 x80).Val 4) 0 (ar .mul .i64 (rd .item x77 x80).Count (rd .item x78 x81).Count))])) ∧ (True)) ∧
    True) ∧ ((cmp .eql (rd .item x77 x80).Key (rd .item x78 x81).Key) = false →
    True)
set_option maxRecDepth 100000 in
theorem spec_l22Lead_c5_ok (G : Good Try.prog tt sp_spec_l22Lead) {fr : Fr} (x77 : List Item) (x78 : List Item) (x79 : List Item) (x80 : Int) (x81 : Int) (hob : spec_l22Lead_c5_ob x77 x78 x79 x80 x81) {n r : Env → Prop} {x : Nat → Env → Prop}
    (hn : ∀ (q83 : List Item), (spec_l22Lead_c5 x77 x78 x79 x80 x81) = .n q83 → ∀ e, Weak e [(0, .v .sh (.lst .item x77)), (1, .v .sh (.lst .item x78)), (5, .v (.acc true) (.lst .item q83)), (6, .v .fr (.int .i64 x80)), (7, .v .fr (.int .i64 x81))] → n e)
    (_hr : ∀ q, (spec_l22Lead_c5 x77 x78 x79 x80 x81) = .r q → ∀ e, retAv tt e [.tmp 4] (.one (.acc true) (.lst .item)) = some (RT.av (.one (.acc true) (.lst .item)) q) → r e) :
    Ht Try.prog ⟨(Try.f83).ntmps, none, []⟩ fr (nav (bodyOf (Try.f83)) [1, 1, 0, 1, 0, 0, 1, 0, 0, 1, 0, 0, 1, 0]) [(0, .v .sh (.lst .item x77)), (1, .v .sh (.lst .item x78)), (5, .v (.acc true) (.lst .item x79)), (6, .v .fr (.int .i64 x80)), (7, .v .fr (.int .i64 x81))] n r x := by
  unfold spec_l22Lead_c5_ob at hob
  refine Ht.block (id := 3) (c1 := (nav (bodyOf (Try.f83)) [1, 1, 0, 1, 0, 0, 1, 0, 0, 1, 0, 0, 1, 0, 0])) (by kernel_rfl) ?_
  refine Ht.seq (c1 := (nav (bodyOf (Try.f83)) [1, 1, 0, 1, 0, 0, 1, 0, 0, 1, 0, 0, 1, 0, 0, 0])) (c2 := (nav (bodyOf (Try.f83)) [1, 1, 0, 1, 0, 0, 1, 0, 0, 1, 0, 0, 1, 0, 0, 1])) (by kernel_rfl) ?_
  refine Ht.reg G (keep := [0, 1, 5, 6, 7, 31]) (e' := [(0, .v .sh (.lst .item x77)), (1, .v .sh (.lst .item x78)), (5, .v (.acc true) (.lst .item x79)), (6, .v .fr (.int .i64 x80)), (7, .v .fr (.int .i64 x81)), (31, .v .fr (.bool (cmp .eql (rd .item x77 x80).Key (rd .item x78 x81).Key)))]) (obs := [inb x80 (lenI .item x77), inb x81 (lenI .item x78)]) (by kernel_rfl) hob.1 ?_
  refine Ht.cond (o := .tmp 31) (c1 := (nav (bodyOf (Try.f83)) [1, 1, 0, 1, 0, 0, 1, 0, 0, 1, 0, 0, 1, 0, 0, 1, 0])) (c2 := (nav (bodyOf (Try.f83)) [1, 1, 0, 1, 0, 0, 1, 0, 0, 1, 0, 0, 1, 0, 0, 1, 1])) (b := (cmp .eql (rd .item x77 x80).Key (rd .item x78 x81).Key)) (by kernel_rfl) (by kernel_rfl) (fun h82 => ?_) (fun h82 => ?_)
  · have hb := hob.2.1 h82
    refine Ht.reg G (keep := [0, 1, 5, 6, 7]) (e' := [(0, .v .sh (.lst .item x77)), (1, .v .sh (.lst .item x78)), (5, .v (.acc true) (.lst .item (x79 ++ [(Item.mk (ar .rem .i64 (rd .item x77 x80).Val 4) 0 (ar .mul .i64 (rd .item x77 x80).Count (rd .item x78 x81).Count))]))), (6, .v .fr (.int .i64 x80)), (7, .v .fr (.int .i64 x81))]) (obs := [inb x80 (lenI .item x77), (4 : Int) ≠ 0, inb x80 (lenI .item x77), inb x81 (lenI .item x78), lim (lenI .item x79) (lenI .item [(Item.mk (ar .rem .i64 (rd .item x77 x80).Val 4) 0 (ar .mul .i64 (rd .item x77 x80).Count (rd .item x78 x81).Count))])]) (by kernel_rfl) hb.1 ?_
    exact hn (x79 ++ [(Item.mk (ar .rem .i64 (rd .item x77 x80).Val 4) 0 (ar .mul .i64 (rd .item x77 x80).Count (rd .item x78 x81).Count))]) (by simp only [spec_l22Lead_c5, h82]) _ (Weak.cast (pat := [(0, .sh), (1, .sh), (5, (.acc true)), (6, .fr), (7, .fr)]) (by kernel_rfl) (by kernel_rfl))
  · have hb := hob.2.2 h82
    refine Ht.skip (by kernel_rfl) ?_
    exact hn x79 (by simp only [spec_l22Lead_c5, h82]) _ (Weak.cast (pat := [(0, .sh), (1, .sh), (5, (.acc true)), (6, .fr), (7, .fr)]) (by kernel_rfl) (by kernel_rfl))

noncomputable def spec_l22Lead_c4_r (x57 : List Item) (x58 : List Item) (_x59 : List Item) (x60 : Int) (s74 : List Item) (s75 : Int) : Oc ((List Item) × Int) (List Item) ((List Item)) Empty Empty :=
  match (cmp .lss s75 (lenI .item x58)) with
  | true =>
    match (spec_l22Lead_c5 x57 x58 s74 x60 s75) with
    | .n q84 =>
      .n (q84, (ar .add .i64 s75 1))
    | .r q86 =>
      .r q86
    | .x q => q.elim
    | .y q => q.elim
    | .z q => q.elim
  | false =>
    .x s74
def spec_l22Lead_c4_r_ob (x57 : List Item) (x58 : List Item) (_x59 : List Item) (x60 : Int) (s74 : List Item) (s75 : Int) : Prop :=
  ((True)) ∧
  ((cmp .lss s75 (lenI .item x58)) = true →
    (spec_l22Lead_c5_ob x57 x58 s74 x60 s75) ∧
    (∀ (q84 : List Item), (spec_l22Lead_c5 x57 x58 s74 x60 s75) = .n q84 →
      ((True)) ∧
      True)) ∧ ((cmp .lss s75 (lenI .item x58)) = false →
    True)
set_option maxRecDepth 100000 in
theorem spec_l22Lead_c4_r_ok (G : Good Try.prog tt sp_spec_l22Lead) {fr : Fr} (x57 : List Item) (x58 : List Item) (x59 : List Item) (x60 : Int) (s74 : List Item) (s75 : Int) (hob : spec_l22Lead_c4_r_ob x57 x58 x59 x60 s74 s75) {n r : Env → Prop} {x : Nat → Env → Prop}
    (hn : ∀ (q91 : List Item) (q92 : Int), (spec_l22Lead_c4_r x57 x58 x59 x60 s74 s75) = .n (q91, q92) → ∀ e, Weak e [(0, .v .sh (.lst .item x57)), (1, .v .sh (.lst .item x58)), (5, .v (.acc true) (.lst .item q91)), (6, .v .fr (.int .i64 x60)), (7, .v .fr (.int .i64 q92))] → n e)
    (hr : ∀ q, (spec_l22Lead_c4_r x57 x58 x59 x60 s74 s75) = .r q → ∀ e, retAv tt e [.tmp 4] (.one (.acc true) (.lst .item)) = some (RT.av (.one (.acc true) (.lst .item)) q) → r e)
    (hx : ∀ (q90 : List Item), (spec_l22Lead_c4_r x57 x58 x59 x60 s74 s75) = .x q90 → ∀ e, Weak e [(0, .v .sh (.lst .item x57)), (1, .v .sh (.lst .item x58)), (5, .v (.acc true) (.lst .item q90)), (6, .v .fr (.int .i64 x60))] → x 2 e) :
    Ht Try.prog ⟨(Try.f83).ntmps, none, []⟩ fr (nav (bodyOf (Try.f83)) [1, 1, 0, 1, 0, 0, 1, 0, 0, 1, 0, 0]) [(0, .v .sh (.lst .item x57)), (1, .v .sh (.lst .item x58)), (5, .v (.acc true) (.lst .item s74)), (6, .v .fr (.int .i64 x60)), (7, .v .fr (.int .i64 s75))] n r x := by
  unfold spec_l22Lead_c4_r_ob at hob
  refine Ht.seq (c1 := (nav (bodyOf (Try.f83)) [1, 1, 0, 1, 0, 0, 1, 0, 0, 1, 0, 0, 0])) (c2 := (nav (bodyOf (Try.f83)) [1, 1, 0, 1, 0, 0, 1, 0, 0, 1, 0, 0, 1])) (by kernel_rfl) ?_
  refine Ht.seq (c1 := (nav (bodyOf (Try.f83)) [1, 1, 0, 1, 0, 0, 1, 0, 0, 1, 0, 0, 0, 0])) (c2 := (nav (bodyOf (Try.f83)) [1, 1, 0, 1, 0, 0, 1, 0, 0, 1, 0, 0, 0, 1])) (by kernel_rfl) ?_
  refine Ht.reg G (keep := [0, 1, 5, 6, 7, 18]) (e' := [(0, .v .sh (.lst .item x57)), (1, .v .sh (.lst .item x58)), (5, .v (.acc true) (.lst .item s74)), (6, .v .fr (.int .i64 x60)), (7, .v .fr (.int .i64 s75)), (18, .v .fr (.bool (cmp .lss s75 (lenI .item x58))))]) (obs := []) (by kernel_rfl) hob.1 ?_
  refine Ht.cond (o := .tmp 18) (c1 := (nav (bodyOf (Try.f83)) [1, 1, 0, 1, 0, 0, 1, 0, 0, 1, 0, 0, 0, 1, 0])) (c2 := (nav (bodyOf (Try.f83)) [1, 1, 0, 1, 0, 0, 1, 0, 0, 1, 0, 0, 0, 1, 1])) (b := (cmp .lss s75 (lenI .item x58))) (by kernel_rfl) (by kernel_rfl) (fun h76 => ?_) (fun h76 => ?_)
  · have hb := hob.2.1 h76
    refine Ht.skip (by kernel_rfl) ?_
    refine Ht.seq (c1 := (nav (bodyOf (Try.f83)) [1, 1, 0, 1, 0, 0, 1, 0, 0, 1, 0, 0, 1, 0])) (c2 := (nav (bodyOf (Try.f83)) [1, 1, 0, 1, 0, 0, 1, 0, 0, 1, 0, 0, 1, 1])) (by kernel_rfl) ?_
    refine Ht.weak (e' := [(0, .v .sh (.lst .item x57)), (1, .v .sh (.lst .item x58)), (5, .v (.acc true) (.lst .item s74)), (6, .v .fr (.int .i64 x60)), (7, .v .fr (.int .i64 s75))]) (Weak.cast (pat := [(0, .same), (1, .same), (5, .same), (6, .same), (7, .same)]) (by kernel_rfl) (by kernel_rfl)) ?_
    refine spec_l22Lead_c5_ok G x57 x58 s74 x60 s75 hb.1 (fun q84 h85 e hw => ?_) (fun q h87 e he => hr q (by simp only [spec_l22Lead_c4_r, h76, h87]) e he)
    · have hb := hb.2 q84 h85
      refine Ht.weak hw ?_
      refine Ht.reg G (keep := [0, 1, 5, 6, 7]) (e' := [(0, .v .sh (.lst .item x57)), (1, .v .sh (.lst .item x58)), (5, .v (.acc true) (.lst .item q84)), (6, .v .fr (.int .i64 x60)), (7, .v .fr (.int .i64 (ar .add .i64 s75 1)))]) (obs := []) (by kernel_rfl) hb.1 ?_
      exact hn q84 (ar .add .i64 s75 1) (by simp only [spec_l22Lead_c4_r, h76, h85]) _ (Weak.cast (pat := [(0, .sh), (1, .sh), (5, (.acc true)), (6, .fr), (7, .fr)]) (by kernel_rfl) (by kernel_rfl))
  · have hb := hob.2.2 h76
    refine Ht.exit (i := 2) (by kernel_rfl) ?_
    exact hx s74 (by simp only [spec_l22Lead_c4_r, h76]) _ (Weak.cast (pat := [(0, .sh), (1, .sh), (5, (.acc true)), (6, .fr)]) (by kernel_rfl) (by kernel_rfl))

noncomputable def spec_l22Lead_c4 (x57 : List Item) (x58 : List Item) (x59 : List Item) (x60 : Int) : Oc Empty (List Item) ((List Item)) Empty Empty := lpV (fun s => ocLp ((fun (s : (List Item) × Int) => spec_l22Lead_c4_r x57 x58 x59 x60 s.1 s.2) s)) (x59, 0)
def spec_l22Lead_c4_ob (x57 : List Item) (x58 : List Item) (x59 : List Item) (x60 : Int) : Prop := LpT (fun s => ocLp ((fun (s : (List Item) × Int) => spec_l22Lead_c4_r x57 x58 x59 x60 s.1 s.2) s)) (fun s => spec_l22Lead_c4_r_ob x57 x58 x59 x60 s.1 s.2) (x59, 0)
set_option maxRecDepth 100000 in
theorem spec_l22Lead_c4_ok (G : Good Try.prog tt sp_spec_l22Lead) {fr : Fr} (x57 : List Item) (x58 : List Item) (x59 : List Item) (x60 : Int) (hob : spec_l22Lead_c4_ob x57 x58 x59 x60) {n r : Env → Prop} {x : Nat → Env → Prop}
    (hr : ∀ q, (spec_l22Lead_c4 x57 x58 x59 x60) = .r q → ∀ e, retAv tt e [.tmp 4] (.one (.acc true) (.lst .item)) = some (RT.av (.one (.acc true) (.lst .item)) q) → r e)
    (hx : ∀ (q90 : List Item), (spec_l22Lead_c4 x57 x58 x59 x60) = .x q90 → ∀ e, Weak e [(0, .v .sh (.lst .item x57)), (1, .v .sh (.lst .item x58)), (5, .v (.acc true) (.lst .item q90)), (6, .v .fr (.int .i64 x60))] → x 2 e) :
    Ht Try.prog ⟨(Try.f83).ntmps, none, []⟩ fr (nav (bodyOf (Try.f83)) [1, 1, 0, 1, 0, 0, 1, 0, 0, 1, 0]) [(0, .v .sh (.lst .item x57)), (1, .v .sh (.lst .item x58)), (5, .v (.acc true) (.lst .item x59)), (6, .v .fr (.int .i64 x60)), (7, .v .fr (.int .i64 0))] n r x := by
  unfold spec_l22Lead_c4_ob at hob
  refine Ht.weak (e' := (fun (s : (List Item) × Int) => [(0, .v .sh (.lst .item x57)), (1, .v .sh (.lst .item x58)), (5, .v (.acc true) (.lst .item s.1)), (6, .v .fr (.int .i64 x60)), (7, .v .fr (.int .i64 s.2))]) (x59, 0)) (Weak.cast (pat := [(0, .sh), (1, .sh), (5, (.acc true)), (6, .fr), (7, .fr)]) (by kernel_rfl) (by kernel_rfl)) ?_
  refine Ht.loopOc (c1 := (nav (bodyOf (Try.f83)) [1, 1, 0, 1, 0, 0, 1, 0, 0, 1, 0, 0])) (by kernel_rfl) (fun (s : (List Item) × Int) => [(0, .v .sh (.lst .item x57)), (1, .v .sh (.lst .item x58)), (5, .v (.acc true) (.lst .item s.1)), (6, .v .fr (.int .i64 x60)), (7, .v .fr (.int .i64 s.2))]) (fun (s : (List Item) × Int) => spec_l22Lead_c4_r x57 x58 x59 x60 s.1 s.2) hob (RP := fun q e => retAv tt e [.tmp 4] (.one (.acc true) (.lst .item)) = some (RT.av (.one (.acc true) (.lst .item)) q)) (XP := (fun i q e => i = 2 ∧ Weak e [(0, .v .sh (.lst .item x57)), (1, .v .sh (.lst .item x58)), (5, .v (.acc true) (.lst .item q)), (6, .v .fr (.int .i64 x60))])) (YP := (fun _ _ _ => False)) (ZP := (fun _ _ _ => False)) (fun s hs => ?_) ?_ ?_ ?_ ?_
  · refine spec_l22Lead_c4_r_ok G x57 x58 x59 x60 s.1 s.2 hs (fun q91 q92 h e hw => ⟨(q91, q92), h, hw⟩) (fun q h e he => ⟨q, h, he⟩) (fun q90 h e hw => .inl ⟨q90, h, rfl, hw⟩)
  · exact fun q e h he => hr q h e he
  · rintro i q e h ⟨rfl, hw⟩
    exact hx q h e hw
  · exact fun _ _ _ _ h => h.elim
  · exact fun _ _ _ _ h => h.elim


noncomputable def spec_l22Lead_c3 (x53 : List Item) (x54 : List Item) (x55 : List Item) (x56 : Int) : Oc ((List Item)) (List Item) Empty Empty Empty :=
  match (spec_l22Lead_c4 x53 x54 x55 x56) with
  | .r q93 =>
    .r q93
  | .x q95 =>
    .n q95
  | .n q => q.elim
  | .y q => q.elim
  | .z q => q.elim
def spec_l22Lead_c3_ob (x53 : List Item) (x54 : List Item) (x55 : List Item) (x56 : Int) : Prop :=
  ((True)) ∧
  (spec_l22Lead_c4_ob x53 x54 x55 x56) ∧
  (∀ (q95 : List Item), (spec_l22Lead_c4 x53 x54 x55 x56) = .x q95 →
    True)
set_option maxRecDepth 100000 in
theorem spec_l22Lead_c3_ok (G : Good Try.prog tt sp_spec_l22Lead) {fr : Fr} (x53 : List Item) (x54 : List Item) (x55 : List Item) (x56 : Int) (hob : spec_l22Lead_c3_ob x53 x54 x55 x56) {n r : Env → Prop} {x : Nat → Env → Prop}
    (hn : ∀ (q97 : List Item), (spec_l22Lead_c3 x53 x54 x55 x56) = .n q97 → ∀ e, Weak e [(0, .v .sh (.lst .item x53)), (1, .v .sh (.lst .item x54)), (5, .v (.acc true) (.lst .item q97)), (6, .v .fr (.int .i64 x56))] → n e)
    (hr : ∀ q, (spec_l22Lead_c3 x53 x54 x55 x56) = .r q → ∀ e, retAv tt e [.tmp 4] (.one (.acc true) (.lst .item)) = some (RT.av (.one (.acc true) (.lst .item)) q) → r e) :
    Ht Try.prog ⟨(Try.f83).ntmps, none, []⟩ fr (nav (bodyOf (Try.f83)) [1, 1, 0, 1, 0, 0, 1, 0]) [(0, .v .sh (.lst .item x53)), (1, .v .sh (.lst .item x54)), (5, .v (.acc true) (.lst .item x55)), (6, .v .fr (.int .i64 x56))] n r x := by
  unfold spec_l22Lead_c3_ob at hob
  refine Ht.block (id := 1) (c1 := (nav (bodyOf (Try.f83)) [1, 1, 0, 1, 0, 0, 1, 0, 0])) (by kernel_rfl) ?_
  refine Ht.seq (c1 := (nav (bodyOf (Try.f83)) [1, 1, 0, 1, 0, 0, 1, 0, 0, 0])) (c2 := (nav (bodyOf (Try.f83)) [1, 1, 0, 1, 0, 0, 1, 0, 0, 1])) (by kernel_rfl) ?_
  refine Ht.reg G (keep := [0, 1, 5, 6, 7]) (e' := [(0, .v .sh (.lst .item x53)), (1, .v .sh (.lst .item x54)), (5, .v (.acc true) (.lst .item x55)), (6, .v .fr (.int .i64 x56)), (7, .v .fr (.int .i64 0))]) (obs := []) (by kernel_rfl) hob.1 ?_
  refine Ht.block (id := 2) (c1 := (nav (bodyOf (Try.f83)) [1, 1, 0, 1, 0, 0, 1, 0, 0, 1, 0])) (by kernel_rfl) ?_
  refine Ht.weak (e' := [(0, .v .sh (.lst .item x53)), (1, .v .sh (.lst .item x54)), (5, .v (.acc true) (.lst .item x55)), (6, .v .fr (.int .i64 x56)), (7, .v .fr (.int .i64 0))]) (Weak.cast (pat := [(0, .same), (1, .same), (5, .same), (6, .same), (7, .same)]) (by kernel_rfl) (by kernel_rfl)) ?_
  refine spec_l22Lead_c4_ok G x53 x54 x55 x56 hob.2.1 (fun q h94 e he => hr q (by simp only [spec_l22Lead_c3, h94]) e he) (fun q95 h96 e hw => ?_)
  · have hb := hob.2.2 q95 h96
    exact hn q95 (by simp only [spec_l22Lead_c3, h96]) e (hw.trans (Weak.cast (pat := [(0, .sh), (1, .sh), (5, (.acc true)), (6, .fr)]) (by kernel_rfl) (by kernel_rfl)))

noncomputable def spec_l22Lead_c2_r (x3 : List Item) (x4 : List Item) (s50 : List Item) (s51 : Int) : Oc ((List Item) × Int) (List Item) ((List Item)) Empty Empty :=
  match (cmp .lss s51 (lenI .item x3)) with
  | true =>
    match (spec_l22Lead_c3 x3 x4 s50 s51) with
    | .n q98 =>
      .n (q98, (ar .add .i64 s51 1))
    | .r q100 =>
      .r q100
    | .x q => q.elim
    | .y q => q.elim
    | .z q => q.elim
  | false =>
    .x s50
def spec_l22Lead_c2_r_ob (x3 : List Item) (x4 : List Item) (s50 : List Item) (s51 : Int) : Prop :=
  ((True)) ∧
  ((cmp .lss s51 (lenI .item x3)) = true →
    (spec_l22Lead_c3_ob x3 x4 s50 s51) ∧
    (∀ (q98 : List Item), (spec_l22Lead_c3 x3 x4 s50 s51) = .n q98 →
      ((True)) ∧
      True)) ∧ ((cmp .lss s51 (lenI .item x3)) = false →
    True)
set_option maxRecDepth 100000 in
theorem spec_l22Lead_c2_r_ok (G : Good Try.prog tt sp_spec_l22Lead) {fr : Fr} (x3 : List Item) (x4 : List Item) (s50 : List Item) (s51 : Int) (hob : spec_l22Lead_c2_r_ob x3 x4 s50 s51) {n r : Env → Prop} {x : Nat → Env → Prop}
    (hn : ∀ (q105 : List Item) (q106 : Int), (spec_l22Lead_c2_r x3 x4 s50 s51) = .n (q105, q106) → ∀ e, Weak e [(0, .v .sh (.lst .item x3)), (1, .v .sh (.lst .item x4)), (5, .v (.acc true) (.lst .item q105)), (6, .v .fr (.int .i64 q106))] → n e)
    (hr : ∀ q, (spec_l22Lead_c2_r x3 x4 s50 s51) = .r q → ∀ e, retAv tt e [.tmp 4] (.one (.acc true) (.lst .item)) = some (RT.av (.one (.acc true) (.lst .item)) q) → r e)
    (hx : ∀ (q104 : List Item), (spec_l22Lead_c2_r x3 x4 s50 s51) = .x q104 → ∀ e, Weak e [(5, .v (.acc true) (.lst .item q104))] → x 0 e) :
    Ht Try.prog ⟨(Try.f83).ntmps, none, []⟩ fr (nav (bodyOf (Try.f83)) [1, 1, 0, 1, 0, 0]) [(0, .v .sh (.lst .item x3)), (1, .v .sh (.lst .item x4)), (5, .v (.acc true) (.lst .item s50)), (6, .v .fr (.int .i64 s51))] n r x := by
  unfold spec_l22Lead_c2_r_ob at hob
  refine Ht.seq (c1 := (nav (bodyOf (Try.f83)) [1, 1, 0, 1, 0, 0, 0])) (c2 := (nav (bodyOf (Try.f83)) [1, 1, 0, 1, 0, 0, 1])) (by kernel_rfl) ?_
  refine Ht.seq (c1 := (nav (bodyOf (Try.f83)) [1, 1, 0, 1, 0, 0, 0, 0])) (c2 := (nav (bodyOf (Try.f83)) [1, 1, 0, 1, 0, 0, 0, 1])) (by kernel_rfl) ?_
  refine Ht.reg G (keep := [0, 1, 5, 6, 12]) (e' := [(0, .v .sh (.lst .item x3)), (1, .v .sh (.lst .item x4)), (5, .v (.acc true) (.lst .item s50)), (6, .v .fr (.int .i64 s51)), (12, .v .fr (.bool (cmp .lss s51 (lenI .item x3))))]) (obs := []) (by kernel_rfl) hob.1 ?_
  refine Ht.cond (o := .tmp 12) (c1 := (nav (bodyOf (Try.f83)) [1, 1, 0, 1, 0, 0, 0, 1, 0])) (c2 := (nav (bodyOf (Try.f83)) [1, 1, 0, 1, 0, 0, 0, 1, 1])) (b := (cmp .lss s51 (lenI .item x3))) (by kernel_rfl) (by kernel_rfl) (fun h52 => ?_) (fun h52 => ?_)
  · have hb := hob.2.1 h52
    refine Ht.skip (by kernel_rfl) ?_
    refine Ht.seq (c1 := (nav (bodyOf (Try.f83)) [1, 1, 0, 1, 0, 0, 1, 0])) (c2 := (nav (bodyOf (Try.f83)) [1, 1, 0, 1, 0, 0, 1, 1])) (by kernel_rfl) ?_
    refine Ht.weak (e' := [(0, .v .sh (.lst .item x3)), (1, .v .sh (.lst .item x4)), (5, .v (.acc true) (.lst .item s50)), (6, .v .fr (.int .i64 s51))]) (Weak.cast (pat := [(0, .same), (1, .same), (5, .same), (6, .same)]) (by kernel_rfl) (by kernel_rfl)) ?_
    refine spec_l22Lead_c3_ok G x3 x4 s50 s51 hb.1 (fun q98 h99 e hw => ?_) (fun q h101 e he => hr q (by simp only [spec_l22Lead_c2_r, h52, h101]) e he)
    · have hb := hb.2 q98 h99
      refine Ht.weak hw ?_
      refine Ht.reg G (keep := [0, 1, 5, 6]) (e' := [(0, .v .sh (.lst .item x3)), (1, .v .sh (.lst .item x4)), (5, .v (.acc true) (.lst .item q98)), (6, .v .fr (.int .i64 (ar .add .i64 s51 1)))]) (obs := []) (by kernel_rfl) hb.1 ?_
      exact hn q98 (ar .add .i64 s51 1) (by simp only [spec_l22Lead_c2_r, h52, h99]) _ (Weak.cast (pat := [(0, .sh), (1, .sh), (5, (.acc true)), (6, .fr)]) (by kernel_rfl) (by kernel_rfl))
  · have hb := hob.2.2 h52
    refine Ht.exit (i := 0) (by kernel_rfl) ?_
    exact hx s50 (by simp only [spec_l22Lead_c2_r, h52]) _ (Weak.cast (pat := [(5, (.acc true))]) (by kernel_rfl) (by kernel_rfl))

noncomputable def spec_l22Lead_c2 (x3 : List Item) (x4 : List Item) : Oc Empty (List Item) ((List Item)) Empty Empty := lpV (fun s => ocLp ((fun (s : (List Item) × Int) => spec_l22Lead_c2_r x3 x4 s.1 s.2) s)) ([], 0)
def spec_l22Lead_c2_ob (x3 : List Item) (x4 : List Item) : Prop := LpT (fun s => ocLp ((fun (s : (List Item) × Int) => spec_l22Lead_c2_r x3 x4 s.1 s.2) s)) (fun s => spec_l22Lead_c2_r_ob x3 x4 s.1 s.2) ([], 0)
set_option maxRecDepth 100000 in
theorem spec_l22Lead_c2_ok (G : Good Try.prog tt sp_spec_l22Lead) {fr : Fr} (x3 : List Item) (x4 : List Item) (hob : spec_l22Lead_c2_ob x3 x4) {n r : Env → Prop} {x : Nat → Env → Prop}
    (hr : ∀ q, (spec_l22Lead_c2 x3 x4) = .r q → ∀ e, retAv tt e [.tmp 4] (.one (.acc true) (.lst .item)) = some (RT.av (.one (.acc true) (.lst .item)) q) → r e)
    (hx : ∀ (q104 : List Item), (spec_l22Lead_c2 x3 x4) = .x q104 → ∀ e, Weak e [(5, .v (.acc true) (.lst .item q104))] → x 0 e) :
    Ht Try.prog ⟨(Try.f83).ntmps, none, []⟩ fr (nav (bodyOf (Try.f83)) [1, 1, 0, 1, 0]) [(0, .v .sh (.lst .item x3)), (1, .v .sh (.lst .item x4)), (5, .v (.acc true) (.lst .item [])), (6, .v .fr (.int .i64 0))] n r x := by
  unfold spec_l22Lead_c2_ob at hob
  refine Ht.weak (e' := (fun (s : (List Item) × Int) => [(0, .v .sh (.lst .item x3)), (1, .v .sh (.lst .item x4)), (5, .v (.acc true) (.lst .item s.1)), (6, .v .fr (.int .i64 s.2))]) ([], 0)) (Weak.cast (pat := [(0, .sh), (1, .sh), (5, (.acc true)), (6, .fr)]) (by kernel_rfl) (by kernel_rfl)) ?_
  refine Ht.loopOc (c1 := (nav (bodyOf (Try.f83)) [1, 1, 0, 1, 0, 0])) (by kernel_rfl) (fun (s : (List Item) × Int) => [(0, .v .sh (.lst .item x3)), (1, .v .sh (.lst .item x4)), (5, .v (.acc true) (.lst .item s.1)), (6, .v .fr (.int .i64 s.2))]) (fun (s : (List Item) × Int) => spec_l22Lead_c2_r x3 x4 s.1 s.2) hob (RP := fun q e => retAv tt e [.tmp 4] (.one (.acc true) (.lst .item)) = some (RT.av (.one (.acc true) (.lst .item)) q)) (XP := (fun i q e => i = 0 ∧ Weak e [(5, .v (.acc true) (.lst .item q))])) (YP := (fun _ _ _ => False)) (ZP := (fun _ _ _ => False)) (fun s hs => ?_) ?_ ?_ ?_ ?_
  · refine spec_l22Lead_c2_r_ok G x3 x4 s.1 s.2 hs (fun q105 q106 h e hw => ⟨(q105, q106), h, hw⟩) (fun q h e he => ⟨q, h, he⟩) (fun q104 h e hw => .inl ⟨q104, h, rfl, hw⟩)
  · exact fun q e h he => hr q h e he
  · rintro i q e h ⟨rfl, hw⟩
    exact hx q h e hw
  · exact fun _ _ _ _ h => h.elim
  · exact fun _ _ _ _ h => h.elim


noncomputable def spec_l22Lead_c1 (x1 : List Item) (x2 : List Item) : Oc ((List Item)) (List Item) Empty Empty Empty :=
  match (spec_l22Lead_c2 x1 x2) with
  | .r q107 =>
    .r q107
  | .x q109 =>
    .n q109
  | .n q => q.elim
  | .y q => q.elim
  | .z q => q.elim
def spec_l22Lead_c1_ob (x1 : List Item) (x2 : List Item) : Prop :=
  ((True)) ∧
  (spec_l22Lead_c2_ob x1 x2) ∧
  (∀ (q109 : List Item), (spec_l22Lead_c2 x1 x2) = .x q109 →
    True)
set_option maxRecDepth 100000 in
theorem spec_l22Lead_c1_ok (G : Good Try.prog tt sp_spec_l22Lead) {fr : Fr} (x1 : List Item) (x2 : List Item) (hob : spec_l22Lead_c1_ob x1 x2) {n r : Env → Prop} {x : Nat → Env → Prop}
    (hn : ∀ (q111 : List Item), (spec_l22Lead_c1 x1 x2) = .n q111 → ∀ e, Weak e [(5, .v (.acc true) (.lst .item q111))] → n e)
    (hr : ∀ q, (spec_l22Lead_c1 x1 x2) = .r q → ∀ e, retAv tt e [.tmp 4] (.one (.acc true) (.lst .item)) = some (RT.av (.one (.acc true) (.lst .item)) q) → r e) :
    Ht Try.prog ⟨(Try.f83).ntmps, none, []⟩ fr (nav (bodyOf (Try.f83)) [1, 1, 0]) [(0, .v .sh (.lst .item x1)), (1, .v .sh (.lst .item x2)), (5, .v (.acc true) (.lst .item []))] n r x := by
  unfold spec_l22Lead_c1_ob at hob
  refine Ht.seq (c1 := (nav (bodyOf (Try.f83)) [1, 1, 0, 0])) (c2 := (nav (bodyOf (Try.f83)) [1, 1, 0, 1])) (by kernel_rfl) ?_
  refine Ht.reg G (keep := [0, 1, 5, 6]) (e' := [(0, .v .sh (.lst .item x1)), (1, .v .sh (.lst .item x2)), (5, .v (.acc true) (.lst .item [])), (6, .v .fr (.int .i64 0))]) (obs := []) (by kernel_rfl) hob.1 ?_
  refine Ht.block (id := 0) (c1 := (nav (bodyOf (Try.f83)) [1, 1, 0, 1, 0])) (by kernel_rfl) ?_
  refine Ht.weak (e' := [(0, .v .sh (.lst .item x1)), (1, .v .sh (.lst .item x2)), (5, .v (.acc true) (.lst .item [])), (6, .v .fr (.int .i64 0))]) (Weak.cast (pat := [(0, .same), (1, .same), (5, .same), (6, .same)]) (by kernel_rfl) (by kernel_rfl)) ?_
  refine spec_l22Lead_c2_ok G x1 x2 hob.2.1 (fun q h108 e he => hr q (by simp only [spec_l22Lead_c1, h108]) e he) (fun q109 h110 e hw => ?_)
  · have hb := hob.2.2 q109 h110
    exact hn q109 (by simp only [spec_l22Lead_c1, h110]) e (hw.trans (Weak.cast (pat := [(5, (.acc true))]) (by kernel_rfl) (by kernel_rfl)))

noncomputable def spec_l22Lead_b (a0 : List Item) (a1 : List Item) : Oc Empty (List Item) Empty Empty Empty :=
  match (spec_l22Lead_c1 a0 a1) with
  | .n q112 =>
    .r q112
  | .r q114 =>
    .r q114
  | .x q => q.elim
  | .y q => q.elim
  | .z q => q.elim
def spec_l22Lead_b_ob (a0 : List Item) (a1 : List Item) : Prop :=
  ((True)) ∧
  ((True)) ∧
  (spec_l22Lead_c1_ob a0 a1) ∧
  (∀ (q112 : List Item), (spec_l22Lead_c1 a0 a1) = .n q112 →
    ((True)) ∧
    True)
set_option maxRecDepth 100000 in
theorem spec_l22Lead_b_ok (G : Good Try.prog tt sp_spec_l22Lead) {fr : Fr} (a0 : List Item) (a1 : List Item) (hob : spec_l22Lead_b_ob a0 a1) {n r : Env → Prop} {x : Nat → Env → Prop}
    (hr : ∀ q, (spec_l22Lead_b a0 a1) = .r q → ∀ e, retAv tt e [.tmp 4] (.one (.acc true) (.lst .item)) = some (RT.av (.one (.acc true) (.lst .item)) q) → r e) :
    Ht Try.prog ⟨(Try.f83).ntmps, none, []⟩ fr (nav (bodyOf (Try.f83)) []) [(0, .v .sh (.lst .item a0)), (1, .v .sh (.lst .item a1))] n r x := by
  unfold spec_l22Lead_b_ob at hob
  refine Ht.seq (c1 := (nav (bodyOf (Try.f83)) [0])) (c2 := (nav (bodyOf (Try.f83)) [1])) (by kernel_rfl) ?_
  refine Ht.reg G (keep := [0, 1]) (e' := [(0, .v .sh (.lst .item a0)), (1, .v .sh (.lst .item a1))]) (obs := []) (by kernel_rfl) hob.1 ?_
  refine Ht.seq (c1 := (nav (bodyOf (Try.f83)) [1, 0])) (c2 := (nav (bodyOf (Try.f83)) [1, 1])) (by kernel_rfl) ?_
  refine Ht.reg G (keep := [0, 1, 5]) (e' := [(0, .v .sh (.lst .item a0)), (1, .v .sh (.lst .item a1)), (5, .v (.acc true) (.lst .item []))]) (obs := []) (by kernel_rfl) hob.2.1 ?_
  refine Ht.seq (c1 := (nav (bodyOf (Try.f83)) [1, 1, 0])) (c2 := (nav (bodyOf (Try.f83)) [1, 1, 1])) (by kernel_rfl) ?_
  refine Ht.weak (e' := [(0, .v .sh (.lst .item a0)), (1, .v .sh (.lst .item a1)), (5, .v (.acc true) (.lst .item []))]) (Weak.cast (pat := [(0, .same), (1, .same), (5, .same)]) (by kernel_rfl) (by kernel_rfl)) ?_
  refine spec_l22Lead_c1_ok G a0 a1 hob.2.2.1 (fun q112 h113 e hw => ?_) (fun q h115 e he => hr q (by simp only [spec_l22Lead_b, h115]) e he)
  · have hb := hob.2.2.2 q112 h113
    refine Ht.weak hw ?_
    refine Ht.seq (c1 := (nav (bodyOf (Try.f83)) [1, 1, 1, 0])) (c2 := (nav (bodyOf (Try.f83)) [1, 1, 1, 1])) (by kernel_rfl) ?_
    refine Ht.reg G (keep := [4]) (e' := [(4, .v (.acc true) (.lst .item q112))]) (obs := []) (by kernel_rfl) hb.1 ?_
    refine Ht.ret (by kernel_rfl) ?_
    exact hr q112 (by simp only [spec_l22Lead_b, h113]) _ (by kernel_rfl)

noncomputable def v_spec_l22Lead (a0 : List Item) (a1 : List Item) : List Item := ocR (spec_l22Lead_b a0 a1)
def p_spec_l22Lead (a0 : List Item) (a1 : List Item) : Prop := spec_l22Lead_b_ob a0 a1
noncomputable def s_spec_l22Lead : Spec := ⟨[(.lst .item), (.lst .item)], .one (.acc true) (.lst .item), false, fun x => (v_spec_l22Lead x.1 x.2.1, 0), fun x => p_spec_l22Lead x.1 x.2.1⟩
theorem con_spec_l22Lead (G : Good Try.prog tt sp_spec_l22Lead) : Con Try.prog 83 s_spec_l22Lead :=
  con_of G.htt (fn := Try.f83) (c := bodyOf Try.f83) (by kernel_rfl) (by kernel_rfl) (by kernel_rfl) (rs := [.tmp 4]) (by kernel_rfl) (by kernel_rfl) (fun _ => rfl) fun x hp fr _ _ _ =>
    spec_l22Lead_b_ok G (fr := fr) x.1 x.2.1 hp
      (fun q h e he => ⟨by rw [show (s_spec_l22Lead.val x).1 = q from congrArg ocR h]; exact he, trivial⟩)

noncomputable def sp_spec_l3Count : SP := []
noncomputable def spec_l3Count_b (a0 : Int) : Oc Empty Int Empty Empty Empty :=
  .r (ar .rem .i64 (ar .add .i64 (ar .rem .i64 a0 100) 100) 100)
def spec_l3Count_b_ob (_a0 : Int) : Prop :=
  ((True)) ∧
  (((100 : Int) ≠ 0) ∧ ((100 : Int) ≠ 0) ∧ (True)) ∧
  True
set_option maxRecDepth 100000 in
theorem spec_l3Count_b_ok (G : Good Try.prog tt sp_spec_l3Count) {fr : Fr} (a0 : Int) (hob : spec_l3Count_b_ob a0) {n r : Env → Prop} {x : Nat → Env → Prop}
    (hr : ∀ q, (spec_l3Count_b a0) = .r q → ∀ e, retAv tt e [.tmp 2] (.one .fr (.int .i64)) = some (RT.av (.one .fr (.int .i64)) q) → r e) :
    Ht Try.prog ⟨(Try.f156).ntmps, none, []⟩ fr (nav (bodyOf (Try.f156)) []) [(0, .v .fr (.int .i64 a0))] n r x := by
  unfold spec_l3Count_b_ob at hob
  refine Ht.seq (c1 := (nav (bodyOf (Try.f156)) [0])) (c2 := (nav (bodyOf (Try.f156)) [1])) (by kernel_rfl) ?_
  refine Ht.reg G (keep := [0]) (e' := [(0, .v .fr (.int .i64 a0))]) (obs := []) (by kernel_rfl) hob.1 ?_
  refine Ht.seq (c1 := (nav (bodyOf (Try.f156)) [1, 0])) (c2 := (nav (bodyOf (Try.f156)) [1, 1])) (by kernel_rfl) ?_
  refine Ht.reg G (keep := [2]) (e' := [(2, .v .fr (.int .i64 (ar .rem .i64 (ar .add .i64 (ar .rem .i64 a0 100) 100) 100)))]) (obs := [(100 : Int) ≠ 0, (100 : Int) ≠ 0]) (by kernel_rfl) hob.2.1 ?_
  refine Ht.ret (by kernel_rfl) ?_
  exact hr (ar .rem .i64 (ar .add .i64 (ar .rem .i64 a0 100) 100) 100) (by simp only [spec_l3Count_b]) _ (by kernel_rfl)

noncomputable def v_spec_l3Count (a0 : Int) : Int := ocR (spec_l3Count_b a0)
def p_spec_l3Count (a0 : Int) : Prop := spec_l3Count_b_ob a0
noncomputable def s_spec_l3Count : Spec := ⟨[(.int .i64)], .one .fr (.int .i64), false, fun x => (v_spec_l3Count x.1, 0), fun x => p_spec_l3Count x.1⟩
theorem con_spec_l3Count (G : Good Try.prog tt sp_spec_l3Count) : Con Try.prog 156 s_spec_l3Count :=
  con_of G.htt (fn := Try.f156) (c := bodyOf Try.f156) (by kernel_rfl) (by kernel_rfl) (by kernel_rfl) (rs := [.tmp 2]) (by kernel_rfl) (by kernel_rfl) (fun _ => rfl) fun x hp fr _ _ _ =>
    spec_l3Count_b_ok G (fr := fr) x.1 hp
      (fun q h e he => ⟨by rw [show (s_spec_l3Count.val x).1 = q from congrArg ocR h]; exact he, trivial⟩)

noncomputable def sp_spec_l3Key : SP := [(156, s_spec_l3Count)]
noncomputable def spec_l3Key_c3 (x27 : List Item) (x28 : Int) (x29 : Int) (x30 : List Item) (x31 : Int) (x32 : Int) : Oc ((List Item) × Int) (List Item) Empty Empty Empty :=
  match (cmp .neq (rd .item x27 x32).Key x28) with
  | true =>
    .n (x30, x31)
  | false =>
    match (cond (cmp .gtr (rd .item x27 x32).Count 0) (cond (cmp .eql x29 2) true (cond (cmp .eql x29 3) (cmp .eql (lenI .item x30) 0) false)) false) with
    | true =>
      .n ((x30 ++ [(Item.mk x28 (rd .item x27 x32).Val 1)]), (ar .add .i64 x31 (rd .item x27 x32).Count))
    | false =>
      .n (x30, (ar .add .i64 x31 (rd .item x27 x32).Count))
def spec_l3Key_c3_ob (x27 : List Item) (x28 : Int) (x29 : Int) (x30 : List Item) (_x31 : Int) (x32 : Int) : Prop :=
  ((inb x32 (lenI .item x27)) ∧ (True)) ∧
  ((cmp .neq (rd .item x27 x32).Key x28) = true →
    True) ∧ ((cmp .neq (rd .item x27 x32).Key x28) = false →
    ((inb x32 (lenI .item x27)) ∧ (True)) ∧
    ((inb x32 (lenI .item x27)) ∧ (True)) ∧
    ((cond (cmp .gtr (rd .item x27 x32).Count 0) (cond (cmp .eql x29 2) true (cond (cmp .eql x29 3) (cmp .eql (lenI .item x30) 0) false)) false) = true →
      ((inb x32 (lenI .item x27)) ∧ (lim (lenI .item x30) (lenI .item [(Item.mk x28 (rd .item x27 x32).Val 1)])) ∧ (True)) ∧
      True) ∧ ((cond (cmp .gtr (rd .item x27 x32).Count 0) (cond (cmp .eql x29 2) true (cond (cmp .eql x29 3) (cmp .eql (lenI .item x30) 0) false)) false) = false →
      True))
set_option maxRecDepth 100000 in
theorem spec_l3Key_c3_ok (G : Good Try.prog tt sp_spec_l3Key) {fr : Fr} (x27 : List Item) (x28 : Int) (x29 : Int) (x30 : List Item) (x31 : Int) (x32 : Int) (hob : spec_l3Key_c3_ob x27 x28 x29 x30 x31 x32) {n r : Env → Prop} {x : Nat → Env → Prop}
    (hn : ∀ (q35 : List Item) (q36 : Int), (spec_l3Key_c3 x27 x28 x29 x30 x31 x32) = .n (q35, q36) → ∀ e, Weak e [(0, .v .sh (.lst .item x27)), (1, .v .fr (.int .i64 x28)), (2, .v .fr (.int .i64 x29)), (7, .v (.acc true) (.lst .item q35)), (8, .v .fr (.int .i64 q36)), (9, .v .fr (.int .i64 x32))] → n e)
    (_hr : ∀ q, (spec_l3Key_c3 x27 x28 x29 x30 x31 x32) = .r q → ∀ e, retAv tt e [.tmp 6] (.one (.acc true) (.lst .item)) = some (RT.av (.one (.acc true) (.lst .item)) q) → r e) :
    Ht Try.prog ⟨(Try.f142).ntmps, none, []⟩ fr (nav (bodyOf (Try.f142)) [1, 1, 1, 0, 1, 0, 0, 1, 0]) [(0, .v .sh (.lst .item x27)), (1, .v .fr (.int .i64 x28)), (2, .v .fr (.int .i64 x29)), (7, .v (.acc true) (.lst .item x30)), (8, .v .fr (.int .i64 x31)), (9, .v .fr (.int .i64 x32))] n r x := by
  unfold spec_l3Key_c3_ob at hob
  refine Ht.block (id := 1) (c1 := (nav (bodyOf (Try.f142)) [1, 1, 1, 0, 1, 0, 0, 1, 0, 0])) (by kernel_rfl) ?_
  refine Ht.seq (c1 := (nav (bodyOf (Try.f142)) [1, 1, 1, 0, 1, 0, 0, 1, 0, 0, 0])) (c2 := (nav (bodyOf (Try.f142)) [1, 1, 1, 0, 1, 0, 0, 1, 0, 0, 1])) (by kernel_rfl) ?_
  refine Ht.seq (c1 := (nav (bodyOf (Try.f142)) [1, 1, 1, 0, 1, 0, 0, 1, 0, 0, 0, 0])) (c2 := (nav (bodyOf (Try.f142)) [1, 1, 1, 0, 1, 0, 0, 1, 0, 0, 0, 1])) (by kernel_rfl) ?_
  refine Ht.reg G (keep := [0, 1, 2, 7, 8, 9, 23]) (e' := [(0, .v .sh (.lst .item x27)), (1, .v .fr (.int .i64 x28)), (2, .v .fr (.int .i64 x29)), (7, .v (.acc true) (.lst .item x30)), (8, .v .fr (.int .i64 x31)), (9, .v .fr (.int .i64 x32)), (23, .v .fr (.bool (cmp .neq (rd .item x27 x32).Key x28)))]) (obs := [inb x32 (lenI .item x27)]) (by kernel_rfl) hob.1 ?_
  refine Ht.cond (o := .tmp 23) (c1 := (nav (bodyOf (Try.f142)) [1, 1, 1, 0, 1, 0, 0, 1, 0, 0, 0, 1, 0])) (c2 := (nav (bodyOf (Try.f142)) [1, 1, 1, 0, 1, 0, 0, 1, 0, 0, 0, 1, 1])) (b := (cmp .neq (rd .item x27 x32).Key x28)) (by kernel_rfl) (by kernel_rfl) (fun h33 => ?_) (fun h33 => ?_)
  · have hb := hob.2.1 h33
    refine Ht.exit (i := 1) (by kernel_rfl) ?_
    exact hn x30 x31 (by simp only [spec_l3Key_c3, h33]) _ (Weak.cast (pat := [(0, .sh), (1, .fr), (2, .fr), (7, (.acc true)), (8, .fr), (9, .fr)]) (by kernel_rfl) (by kernel_rfl))
  · have hb := hob.2.2 h33
    refine Ht.skip (by kernel_rfl) ?_
    refine Ht.seq (c1 := (nav (bodyOf (Try.f142)) [1, 1, 1, 0, 1, 0, 0, 1, 0, 0, 1, 0])) (c2 := (nav (bodyOf (Try.f142)) [1, 1, 1, 0, 1, 0, 0, 1, 0, 0, 1, 1])) (by kernel_rfl) ?_
    refine Ht.reg G (keep := [0, 1, 2, 7, 8, 9]) (e' := [(0, .v .sh (.lst .item x27)), (1, .v .fr (.int .i64 x28)), (2, .v .fr (.int .i64 x29)), (7, .v (.acc true) (.lst .item x30)), (8, .v .fr (.int .i64 (ar .add .i64 x31 (rd .item x27 x32).Count))), (9, .v .fr (.int .i64 x32))]) (obs := [inb x32 (lenI .item x27)]) (by kernel_rfl) hb.1 ?_
    refine Ht.seq (c1 := (nav (bodyOf (Try.f142)) [1, 1, 1, 0, 1, 0, 0, 1, 0, 0, 1, 1, 0])) (c2 := (nav (bodyOf (Try.f142)) [1, 1, 1, 0, 1, 0, 0, 1, 0, 0, 1, 1, 1])) (by kernel_rfl) ?_
    refine Ht.reg G (keep := [0, 1, 2, 7, 8, 9, 49]) (e' := [(0, .v .sh (.lst .item x27)), (1, .v .fr (.int .i64 x28)), (2, .v .fr (.int .i64 x29)), (7, .v (.acc true) (.lst .item x30)), (8, .v .fr (.int .i64 (ar .add .i64 x31 (rd .item x27 x32).Count))), (9, .v .fr (.int .i64 x32)), (49, .v .fr (.bool (cond (cmp .gtr (rd .item x27 x32).Count 0) (cond (cmp .eql x29 2) true (cond (cmp .eql x29 3) (cmp .eql (lenI .item x30) 0) false)) false)))]) (obs := [inb x32 (lenI .item x27)]) (by kernel_rfl) hb.2.1 ?_
    refine Ht.cond (o := .tmp 49) (c1 := (nav (bodyOf (Try.f142)) [1, 1, 1, 0, 1, 0, 0, 1, 0, 0, 1, 1, 1, 0])) (c2 := (nav (bodyOf (Try.f142)) [1, 1, 1, 0, 1, 0, 0, 1, 0, 0, 1, 1, 1, 1])) (b := (cond (cmp .gtr (rd .item x27 x32).Count 0) (cond (cmp .eql x29 2) true (cond (cmp .eql x29 3) (cmp .eql (lenI .item x30) 0) false)) false)) (by kernel_rfl) (by kernel_rfl) (fun h34 => ?_) (fun h34 => ?_)
    · have hb := hb.2.2.1 h34
      refine Ht.reg G (keep := [0, 1, 2, 7, 8, 9]) (e' := [(0, .v .sh (.lst .item x27)), (1, .v .fr (.int .i64 x28)), (2, .v .fr (.int .i64 x29)), (7, .v (.acc true) (.lst .item (x30 ++ [(Item.mk x28 (rd .item x27 x32).Val 1)]))), (8, .v .fr (.int .i64 (ar .add .i64 x31 (rd .item x27 x32).Count))), (9, .v .fr (.int .i64 x32))]) (obs := [inb x32 (lenI .item x27), lim (lenI .item x30) (lenI .item [(Item.mk x28 (rd .item x27 x32).Val 1)])]) (by kernel_rfl) hb.1 ?_
      exact hn (x30 ++ [(Item.mk x28 (rd .item x27 x32).Val 1)]) (ar .add .i64 x31 (rd .item x27 x32).Count) (by simp only [spec_l3Key_c3, h33, h34]) _ (Weak.cast (pat := [(0, .sh), (1, .fr), (2, .fr), (7, (.acc true)), (8, .fr), (9, .fr)]) (by kernel_rfl) (by kernel_rfl))
    · have hb := hb.2.2.2 h34
      refine Ht.skip (by kernel_rfl) ?_
      exact hn x30 (ar .add .i64 x31 (rd .item x27 x32).Count) (by simp only [spec_l3Key_c3, h33, h34]) _ (Weak.cast (pat := [(0, .sh), (1, .fr), (2, .fr), (7, (.acc true)), (8, .fr), (9, .fr)]) (by kernel_rfl) (by kernel_rfl))

noncomputable def spec_l3Key_c2_r (x4 : List Item) (x5 : Int) (x6 : Int) (s23 : List Item) (s24 : Int) (s25 : Int) : Oc ((List Item) × Int × Int) (List Item) ((List Item) × Int) Empty Empty :=
  match (cmp .lss s25 (lenI .item x4)) with
  | true =>
    match (spec_l3Key_c3 x4 x5 x6 s23 s24 s25) with
    | .n (q37, q38) =>
      .n (q37, q38, (ar .add .i64 s25 1))
    | .r q40 =>
      .r q40
    | .x q => q.elim
    | .y q => q.elim
    | .z q => q.elim
  | false =>
    .x (s23, s24)
def spec_l3Key_c2_r_ob (x4 : List Item) (x5 : Int) (x6 : Int) (s23 : List Item) (s24 : Int) (s25 : Int) : Prop :=
  ((True)) ∧
  ((cmp .lss s25 (lenI .item x4)) = true →
    (spec_l3Key_c3_ob x4 x5 x6 s23 s24 s25) ∧
    (∀ (q37 : List Item) (q38 : Int), (spec_l3Key_c3 x4 x5 x6 s23 s24 s25) = .n (q37, q38) →
      ((True)) ∧
      True)) ∧ ((cmp .lss s25 (lenI .item x4)) = false →
    True)
set_option maxRecDepth 100000 in
theorem spec_l3Key_c2_r_ok (G : Good Try.prog tt sp_spec_l3Key) {fr : Fr} (x4 : List Item) (x5 : Int) (x6 : Int) (s23 : List Item) (s24 : Int) (s25 : Int) (hob : spec_l3Key_c2_r_ob x4 x5 x6 s23 s24 s25) {n r : Env → Prop} {x : Nat → Env → Prop}
    (hn : ∀ (q47 : List Item) (q48 : Int) (q49 : Int), (spec_l3Key_c2_r x4 x5 x6 s23 s24 s25) = .n (q47, q48, q49) → ∀ e, Weak e [(0, .v .sh (.lst .item x4)), (1, .v .fr (.int .i64 x5)), (2, .v .fr (.int .i64 x6)), (7, .v (.acc true) (.lst .item q47)), (8, .v .fr (.int .i64 q48)), (9, .v .fr (.int .i64 q49))] → n e)
    (hr : ∀ q, (spec_l3Key_c2_r x4 x5 x6 s23 s24 s25) = .r q → ∀ e, retAv tt e [.tmp 6] (.one (.acc true) (.lst .item)) = some (RT.av (.one (.acc true) (.lst .item)) q) → r e)
    (hx : ∀ (q45 : List Item) (q46 : Int), (spec_l3Key_c2_r x4 x5 x6 s23 s24 s25) = .x (q45, q46) → ∀ e, Weak e [(1, .v .fr (.int .i64 x5)), (2, .v .fr (.int .i64 x6)), (7, .v (.acc true) (.lst .item q45)), (8, .v .fr (.int .i64 q46))] → x 0 e) :
    Ht Try.prog ⟨(Try.f142).ntmps, none, []⟩ fr (nav (bodyOf (Try.f142)) [1, 1, 1, 0, 1, 0, 0]) [(0, .v .sh (.lst .item x4)), (1, .v .fr (.int .i64 x5)), (2, .v .fr (.int .i64 x6)), (7, .v (.acc true) (.lst .item s23)), (8, .v .fr (.int .i64 s24)), (9, .v .fr (.int .i64 s25))] n r x := by
  unfold spec_l3Key_c2_r_ob at hob
  refine Ht.seq (c1 := (nav (bodyOf (Try.f142)) [1, 1, 1, 0, 1, 0, 0, 0])) (c2 := (nav (bodyOf (Try.f142)) [1, 1, 1, 0, 1, 0, 0, 1])) (by kernel_rfl) ?_
  refine Ht.seq (c1 := (nav (bodyOf (Try.f142)) [1, 1, 1, 0, 1, 0, 0, 0, 0])) (c2 := (nav (bodyOf (Try.f142)) [1, 1, 1, 0, 1, 0, 0, 0, 1])) (by kernel_rfl) ?_
  refine Ht.reg G (keep := [0, 1, 2, 7, 8, 9, 14]) (e' := [(0, .v .sh (.lst .item x4)), (1, .v .fr (.int .i64 x5)), (2, .v .fr (.int .i64 x6)), (7, .v (.acc true) (.lst .item s23)), (8, .v .fr (.int .i64 s24)), (9, .v .fr (.int .i64 s25)), (14, .v .fr (.bool (cmp .lss s25 (lenI .item x4))))]) (obs := []) (by kernel_rfl) hob.1 ?_
  refine Ht.cond (o := .tmp 14) (c1 := (nav (bodyOf (Try.f142)) [1, 1, 1, 0, 1, 0, 0, 0, 1, 0])) (c2 := (nav (bodyOf (Try.f142)) [1, 1, 1, 0, 1, 0, 0, 0, 1, 1])) (b := (cmp .lss s25 (lenI .item x4))) (by kernel_rfl) (by kernel_rfl) (fun h26 => ?_) (fun h26 => ?_)
  · have hb := hob.2.1 h26
    refine Ht.skip (by kernel_rfl) ?_
    refine Ht.seq (c1 := (nav (bodyOf (Try.f142)) [1, 1, 1, 0, 1, 0, 0, 1, 0])) (c2 := (nav (bodyOf (Try.f142)) [1, 1, 1, 0, 1, 0, 0, 1, 1])) (by kernel_rfl) ?_
    refine Ht.weak (e' := [(0, .v .sh (.lst .item x4)), (1, .v .fr (.int .i64 x5)), (2, .v .fr (.int .i64 x6)), (7, .v (.acc true) (.lst .item s23)), (8, .v .fr (.int .i64 s24)), (9, .v .fr (.int .i64 s25))]) (Weak.cast (pat := [(0, .same), (1, .same), (2, .same), (7, .same), (8, .same), (9, .same)]) (by kernel_rfl) (by kernel_rfl)) ?_
    refine spec_l3Key_c3_ok G x4 x5 x6 s23 s24 s25 hb.1 (fun q37 q38 h39 e hw => ?_) (fun q h41 e he => hr q (by simp only [spec_l3Key_c2_r, h26, h41]) e he)
    · have hb := hb.2 q37 q38 h39
      refine Ht.weak hw ?_
      refine Ht.reg G (keep := [0, 1, 2, 7, 8, 9]) (e' := [(0, .v .sh (.lst .item x4)), (1, .v .fr (.int .i64 x5)), (2, .v .fr (.int .i64 x6)), (7, .v (.acc true) (.lst .item q37)), (8, .v .fr (.int .i64 q38)), (9, .v .fr (.int .i64 (ar .add .i64 s25 1)))]) (obs := []) (by kernel_rfl) hb.1 ?_
      exact hn q37 q38 (ar .add .i64 s25 1) (by simp only [spec_l3Key_c2_r, h26, h39]) _ (Weak.cast (pat := [(0, .sh), (1, .fr), (2, .fr), (7, (.acc true)), (8, .fr), (9, .fr)]) (by kernel_rfl) (by kernel_rfl))
  · have hb := hob.2.2 h26
    refine Ht.exit (i := 0) (by kernel_rfl) ?_
    exact hx s23 s24 (by simp only [spec_l3Key_c2_r, h26]) _ (Weak.cast (pat := [(1, .fr), (2, .fr), (7, (.acc true)), (8, .fr)]) (by kernel_rfl) (by kernel_rfl))

noncomputable def spec_l3Key_c2 (x4 : List Item) (x5 : Int) (x6 : Int) : Oc Empty (List Item) ((List Item) × Int) Empty Empty := lpV (fun s => ocLp ((fun (s : (List Item) × Int × Int) => spec_l3Key_c2_r x4 x5 x6 s.1 s.2.1 s.2.2) s)) ([], 0, 0)
def spec_l3Key_c2_ob (x4 : List Item) (x5 : Int) (x6 : Int) : Prop := LpT (fun s => ocLp ((fun (s : (List Item) × Int × Int) => spec_l3Key_c2_r x4 x5 x6 s.1 s.2.1 s.2.2) s)) (fun s => spec_l3Key_c2_r_ob x4 x5 x6 s.1 s.2.1 s.2.2) ([], 0, 0)
set_option maxRecDepth 100000 in
theorem spec_l3Key_c2_ok (G : Good Try.prog tt sp_spec_l3Key) {fr : Fr} (x4 : List Item) (x5 : Int) (x6 : Int) (hob : spec_l3Key_c2_ob x4 x5 x6) {n r : Env → Prop} {x : Nat → Env → Prop}
    (hr : ∀ q, (spec_l3Key_c2 x4 x5 x6) = .r q → ∀ e, retAv tt e [.tmp 6] (.one (.acc true) (.lst .item)) = some (RT.av (.one (.acc true) (.lst .item)) q) → r e)
    (hx : ∀ (q45 : List Item) (q46 : Int), (spec_l3Key_c2 x4 x5 x6) = .x (q45, q46) → ∀ e, Weak e [(1, .v .fr (.int .i64 x5)), (2, .v .fr (.int .i64 x6)), (7, .v (.acc true) (.lst .item q45)), (8, .v .fr (.int .i64 q46))] → x 0 e) :
    Ht Try.prog ⟨(Try.f142).ntmps, none, []⟩ fr (nav (bodyOf (Try.f142)) [1, 1, 1, 0, 1, 0]) [(0, .v .sh (.lst .item x4)), (1, .v .fr (.int .i64 x5)), (2, .v .fr (.int .i64 x6)), (7, .v (.acc true) (.lst .item [])), (8, .v .fr (.int .i64 0)), (9, .v .fr (.int .i64 0))] n r x := by
  unfold spec_l3Key_c2_ob at hob
  refine Ht.weak (e' := (fun (s : (List Item) × Int × Int) => [(0, .v .sh (.lst .item x4)), (1, .v .fr (.int .i64 x5)), (2, .v .fr (.int .i64 x6)), (7, .v (.acc true) (.lst .item s.1)), (8, .v .fr (.int .i64 s.2.1)), (9, .v .fr (.int .i64 s.2.2))]) ([], 0, 0)) (Weak.cast (pat := [(0, .sh), (1, .fr), (2, .fr), (7, (.acc true)), (8, .fr), (9, .fr)]) (by kernel_rfl) (by kernel_rfl)) ?_
  refine Ht.loopOc (c1 := (nav (bodyOf (Try.f142)) [1, 1, 1, 0, 1, 0, 0])) (by kernel_rfl) (fun (s : (List Item) × Int × Int) => [(0, .v .sh (.lst .item x4)), (1, .v .fr (.int .i64 x5)), (2, .v .fr (.int .i64 x6)), (7, .v (.acc true) (.lst .item s.1)), (8, .v .fr (.int .i64 s.2.1)), (9, .v .fr (.int .i64 s.2.2))]) (fun (s : (List Item) × Int × Int) => spec_l3Key_c2_r x4 x5 x6 s.1 s.2.1 s.2.2) hob (RP := fun q e => retAv tt e [.tmp 6] (.one (.acc true) (.lst .item)) = some (RT.av (.one (.acc true) (.lst .item)) q)) (XP := (fun i q e => i = 0 ∧ Weak e [(1, .v .fr (.int .i64 x5)), (2, .v .fr (.int .i64 x6)), (7, .v (.acc true) (.lst .item q.1)), (8, .v .fr (.int .i64 q.2))])) (YP := (fun _ _ _ => False)) (ZP := (fun _ _ _ => False)) (fun s hs => ?_) ?_ ?_ ?_ ?_
  · refine spec_l3Key_c2_r_ok G x4 x5 x6 s.1 s.2.1 s.2.2 hs (fun q47 q48 q49 h e hw => ⟨(q47, q48, q49), h, hw⟩) (fun q h e he => ⟨q, h, he⟩) (fun q45 q46 h e hw => .inl ⟨(q45, q46), h, rfl, hw⟩)
  · exact fun q e h he => hr q h e he
  · rintro i q e h ⟨rfl, hw⟩
    exact hx q.1 q.2 h e hw
  · exact fun _ _ _ _ h => h.elim
  · exact fun _ _ _ _ h => h.elim


noncomputable def spec_l3Key_c1 (x1 : List Item) (x2 : Int) (x3 : Int) : Oc ((List Item) × Int) (List Item) Empty Empty Empty :=
  match (spec_l3Key_c2 x1 x2 x3) with
  | .r q50 =>
    .r q50
  | .x (q52, q53) =>
    .n (q52, q53)
  | .n q => q.elim
  | .y q => q.elim
  | .z q => q.elim
def spec_l3Key_c1_ob (x1 : List Item) (x2 : Int) (x3 : Int) : Prop :=
  ((True)) ∧
  (spec_l3Key_c2_ob x1 x2 x3) ∧
  (∀ (q52 : List Item) (q53 : Int), (spec_l3Key_c2 x1 x2 x3) = .x (q52, q53) →
    True)
set_option maxRecDepth 100000 in
theorem spec_l3Key_c1_ok (G : Good Try.prog tt sp_spec_l3Key) {fr : Fr} (x1 : List Item) (x2 : Int) (x3 : Int) (hob : spec_l3Key_c1_ob x1 x2 x3) {n r : Env → Prop} {x : Nat → Env → Prop}
    (hn : ∀ (q55 : List Item) (q56 : Int), (spec_l3Key_c1 x1 x2 x3) = .n (q55, q56) → ∀ e, Weak e [(1, .v .fr (.int .i64 x2)), (2, .v .fr (.int .i64 x3)), (7, .v (.acc true) (.lst .item q55)), (8, .v .fr (.int .i64 q56))] → n e)
    (hr : ∀ q, (spec_l3Key_c1 x1 x2 x3) = .r q → ∀ e, retAv tt e [.tmp 6] (.one (.acc true) (.lst .item)) = some (RT.av (.one (.acc true) (.lst .item)) q) → r e) :
    Ht Try.prog ⟨(Try.f142).ntmps, none, []⟩ fr (nav (bodyOf (Try.f142)) [1, 1, 1, 0]) [(0, .v .sh (.lst .item x1)), (1, .v .fr (.int .i64 x2)), (2, .v .fr (.int .i64 x3)), (7, .v (.acc true) (.lst .item [])), (8, .v .fr (.int .i64 0))] n r x := by
  unfold spec_l3Key_c1_ob at hob
  refine Ht.seq (c1 := (nav (bodyOf (Try.f142)) [1, 1, 1, 0, 0])) (c2 := (nav (bodyOf (Try.f142)) [1, 1, 1, 0, 1])) (by kernel_rfl) ?_
  refine Ht.reg G (keep := [0, 1, 2, 7, 8, 9]) (e' := [(0, .v .sh (.lst .item x1)), (1, .v .fr (.int .i64 x2)), (2, .v .fr (.int .i64 x3)), (7, .v (.acc true) (.lst .item [])), (8, .v .fr (.int .i64 0)), (9, .v .fr (.int .i64 0))]) (obs := []) (by kernel_rfl) hob.1 ?_
  refine Ht.block (id := 0) (c1 := (nav (bodyOf (Try.f142)) [1, 1, 1, 0, 1, 0])) (by kernel_rfl) ?_
  refine Ht.weak (e' := [(0, .v .sh (.lst .item x1)), (1, .v .fr (.int .i64 x2)), (2, .v .fr (.int .i64 x3)), (7, .v (.acc true) (.lst .item [])), (8, .v .fr (.int .i64 0)), (9, .v .fr (.int .i64 0))]) (Weak.cast (pat := [(0, .same), (1, .same), (2, .same), (7, .same), (8, .same), (9, .same)]) (by kernel_rfl) (by kernel_rfl)) ?_
  refine spec_l3Key_c2_ok G x1 x2 x3 hob.2.1 (fun q h51 e he => hr q (by simp only [spec_l3Key_c1, h51]) e he) (fun q52 q53 h54 e hw => ?_)
  · have hb := hob.2.2 q52 q53 h54
    exact hn q52 q53 (by simp only [spec_l3Key_c1, h54]) e (hw.trans (Weak.cast (pat := [(1, .fr), (2, .fr), (7, (.acc true)), (8, .fr)]) (by kernel_rfl) (by kernel_rfl)))

noncomputable def spec_l3Key_c4 (x60 : Int) (x61 : Int) (x62 : List Item) (x63 : Int) : Oc ((List Item)) (List Item) Empty Empty Empty :=
  match (cond (cmp .eql x61 1) (cmp .neq x63 0) false) with
  | true =>
    .n (x62 ++ [(Item.mk x60 (v_spec_l3Count x63) 1)])
  | false =>
    .n x62
def spec_l3Key_c4_ob (x60 : Int) (x61 : Int) (x62 : List Item) (x63 : Int) : Prop :=
  ((True)) ∧
  ((cond (cmp .eql x61 1) (cmp .neq x63 0) false) = true →
    (((p_spec_l3Count x63)) ∧ (lim (lenI .item x62) (lenI .item [(Item.mk x60 (v_spec_l3Count x63) 1)])) ∧ (True)) ∧
    True) ∧ ((cond (cmp .eql x61 1) (cmp .neq x63 0) false) = false →
    True)
set_option maxRecDepth 100000 in
theorem spec_l3Key_c4_ok (G : Good Try.prog tt sp_spec_l3Key) {fr : Fr} (x60 : Int) (x61 : Int) (x62 : List Item) (x63 : Int) (hob : spec_l3Key_c4_ob x60 x61 x62 x63) {n r : Env → Prop} {x : Nat → Env → Prop}
    (hn : ∀ (q65 : List Item), (spec_l3Key_c4 x60 x61 x62 x63) = .n q65 → ∀ e, Weak e [(7, .v (.acc true) (.lst .item q65))] → n e)
    (_hr : ∀ q, (spec_l3Key_c4 x60 x61 x62 x63) = .r q → ∀ e, retAv tt e [.tmp 6] (.one (.acc true) (.lst .item)) = some (RT.av (.one (.acc true) (.lst .item)) q) → r e) :
    Ht Try.prog ⟨(Try.f142).ntmps, none, []⟩ fr (nav (bodyOf (Try.f142)) [1, 1, 1, 1, 0]) [(1, .v .fr (.int .i64 x60)), (2, .v .fr (.int .i64 x61)), (7, .v (.acc true) (.lst .item x62)), (8, .v .fr (.int .i64 x63))] n r x := by
  unfold spec_l3Key_c4_ob at hob
  refine Ht.seq (c1 := (nav (bodyOf (Try.f142)) [1, 1, 1, 1, 0, 0])) (c2 := (nav (bodyOf (Try.f142)) [1, 1, 1, 1, 0, 1])) (by kernel_rfl) ?_
  refine Ht.reg G (keep := [1, 7, 8, 65]) (e' := [(1, .v .fr (.int .i64 x60)), (7, .v (.acc true) (.lst .item x62)), (8, .v .fr (.int .i64 x63)), (65, .v .fr (.bool (cond (cmp .eql x61 1) (cmp .neq x63 0) false)))]) (obs := []) (by kernel_rfl) hob.1 ?_
  refine Ht.cond (o := .tmp 65) (c1 := (nav (bodyOf (Try.f142)) [1, 1, 1, 1, 0, 1, 0])) (c2 := (nav (bodyOf (Try.f142)) [1, 1, 1, 1, 0, 1, 1])) (b := (cond (cmp .eql x61 1) (cmp .neq x63 0) false)) (by kernel_rfl) (by kernel_rfl) (fun h64 => ?_) (fun h64 => ?_)
  · have hb := hob.2.1 h64
    refine Ht.reg G (keep := [7]) (e' := [(7, .v (.acc true) (.lst .item (x62 ++ [(Item.mk x60 (v_spec_l3Count x63) 1)])))]) (obs := [(p_spec_l3Count x63), lim (lenI .item x62) (lenI .item [(Item.mk x60 (v_spec_l3Count x63) 1)])]) (by kernel_rfl) hb.1 ?_
    exact hn (x62 ++ [(Item.mk x60 (v_spec_l3Count x63) 1)]) (by simp only [spec_l3Key_c4, h64]) _ (Weak.cast (pat := [(7, (.acc true))]) (by kernel_rfl) (by kernel_rfl))
  · have hb := hob.2.2 h64
    refine Ht.skip (by kernel_rfl) ?_
    exact hn x62 (by simp only [spec_l3Key_c4, h64]) _ (Weak.cast (pat := [(7, (.acc true))]) (by kernel_rfl) (by kernel_rfl))

noncomputable def spec_l3Key_b (a0 : List Item) (a1 : Int) (a2 : Int) : Oc Empty (List Item) Empty Empty Empty :=
  match (spec_l3Key_c1 a0 a1 a2) with
  | .n (q57, q58) =>
    match (spec_l3Key_c4 a1 a2 q57 q58) with
    | .n q66 =>
      .r q66
    | .r q68 =>
      .r q68
    | .x q => q.elim
    | .y q => q.elim
    | .z q => q.elim
  | .r q70 =>
    .r q70
  | .x q => q.elim
  | .y q => q.elim
  | .z q => q.elim
def spec_l3Key_b_ob (a0 : List Item) (a1 : Int) (a2 : Int) : Prop :=
  ((True)) ∧
  ((True)) ∧
  ((True)) ∧
  (spec_l3Key_c1_ob a0 a1 a2) ∧
  (∀ (q57 : List Item) (q58 : Int), (spec_l3Key_c1 a0 a1 a2) = .n (q57, q58) →
    (spec_l3Key_c4_ob a1 a2 q57 q58) ∧
    (∀ (q66 : List Item), (spec_l3Key_c4 a1 a2 q57 q58) = .n q66 →
      ((True)) ∧
      True))
set_option maxRecDepth 100000 in
theorem spec_l3Key_b_ok (G : Good Try.prog tt sp_spec_l3Key) {fr : Fr} (a0 : List Item) (a1 : Int) (a2 : Int) (hob : spec_l3Key_b_ob a0 a1 a2) {n r : Env → Prop} {x : Nat → Env → Prop}
    (hr : ∀ q, (spec_l3Key_b a0 a1 a2) = .r q → ∀ e, retAv tt e [.tmp 6] (.one (.acc true) (.lst .item)) = some (RT.av (.one (.acc true) (.lst .item)) q) → r e) :
    Ht Try.prog ⟨(Try.f142).ntmps, none, []⟩ fr (nav (bodyOf (Try.f142)) []) [(0, .v .sh (.lst .item a0)), (1, .v .fr (.int .i64 a1)), (2, .v .fr (.int .i64 a2))] n r x := by
  unfold spec_l3Key_b_ob at hob
  refine Ht.seq (c1 := (nav (bodyOf (Try.f142)) [0])) (c2 := (nav (bodyOf (Try.f142)) [1])) (by kernel_rfl) ?_
  refine Ht.reg G (keep := [0, 1, 2]) (e' := [(0, .v .sh (.lst .item a0)), (1, .v .fr (.int .i64 a1)), (2, .v .fr (.int .i64 a2))]) (obs := []) (by kernel_rfl) hob.1 ?_
  refine Ht.seq (c1 := (nav (bodyOf (Try.f142)) [1, 0])) (c2 := (nav (bodyOf (Try.f142)) [1, 1])) (by kernel_rfl) ?_
  refine Ht.reg G (keep := [0, 1, 2, 7]) (e' := [(0, .v .sh (.lst .item a0)), (1, .v .fr (.int .i64 a1)), (2, .v .fr (.int .i64 a2)), (7, .v (.acc true) (.lst .item []))]) (obs := []) (by kernel_rfl) hob.2.1 ?_
  refine Ht.seq (c1 := (nav (bodyOf (Try.f142)) [1, 1, 0])) (c2 := (nav (bodyOf (Try.f142)) [1, 1, 1])) (by kernel_rfl) ?_
  refine Ht.reg G (keep := [0, 1, 2, 7, 8]) (e' := [(0, .v .sh (.lst .item a0)), (1, .v .fr (.int .i64 a1)), (2, .v .fr (.int .i64 a2)), (7, .v (.acc true) (.lst .item [])), (8, .v .fr (.int .i64 0))]) (obs := []) (by kernel_rfl) hob.2.2.1 ?_
  refine Ht.seq (c1 := (nav (bodyOf (Try.f142)) [1, 1, 1, 0])) (c2 := (nav (bodyOf (Try.f142)) [1, 1, 1, 1])) (by kernel_rfl) ?_
  refine Ht.weak (e' := [(0, .v .sh (.lst .item a0)), (1, .v .fr (.int .i64 a1)), (2, .v .fr (.int .i64 a2)), (7, .v (.acc true) (.lst .item [])), (8, .v .fr (.int .i64 0))]) (Weak.cast (pat := [(0, .same), (1, .same), (2, .same), (7, .same), (8, .same)]) (by kernel_rfl) (by kernel_rfl)) ?_
  refine spec_l3Key_c1_ok G a0 a1 a2 hob.2.2.2.1 (fun q57 q58 h59 e hw => ?_) (fun q h71 e he => hr q (by simp only [spec_l3Key_b, h71]) e he)
  · have hb := hob.2.2.2.2 q57 q58 h59
    refine Ht.weak hw ?_
    refine Ht.seq (c1 := (nav (bodyOf (Try.f142)) [1, 1, 1, 1, 0])) (c2 := (nav (bodyOf (Try.f142)) [1, 1, 1, 1, 1])) (by kernel_rfl) ?_
    refine Ht.weak (e' := [(1, .v .fr (.int .i64 a1)), (2, .v .fr (.int .i64 a2)), (7, .v (.acc true) (.lst .item q57)), (8, .v .fr (.int .i64 q58))]) (Weak.cast (pat := [(1, .same), (2, .same), (7, .same), (8, .same)]) (by kernel_rfl) (by kernel_rfl)) ?_
    refine spec_l3Key_c4_ok G a1 a2 q57 q58 hb.1 (fun q66 h67 e hw => ?_) (fun q h69 e he => hr q (by simp only [spec_l3Key_b, h59, h69]) e he)
    · have hb := hb.2 q66 h67
      refine Ht.weak hw ?_
      refine Ht.seq (c1 := (nav (bodyOf (Try.f142)) [1, 1, 1, 1, 1, 0])) (c2 := (nav (bodyOf (Try.f142)) [1, 1, 1, 1, 1, 1])) (by kernel_rfl) ?_
      refine Ht.reg G (keep := [6]) (e' := [(6, .v (.acc true) (.lst .item q66))]) (obs := []) (by kernel_rfl) hb.1 ?_
      refine Ht.ret (by kernel_rfl) ?_
      exact hr q66 (by simp only [spec_l3Key_b, h59, h67]) _ (by kernel_rfl)

noncomputable def v_spec_l3Key (a0 : List Item) (a1 : Int) (a2 : Int) : List Item := ocR (spec_l3Key_b a0 a1 a2)
def p_spec_l3Key (a0 : List Item) (a1 : Int) (a2 : Int) : Prop := spec_l3Key_b_ob a0 a1 a2
noncomputable def s_spec_l3Key : Spec := ⟨[(.lst .item), (.int .i64), (.int .i64)], .one (.acc true) (.lst .item), false, fun x => (v_spec_l3Key x.1 x.2.1 x.2.2.1, 0), fun x => p_spec_l3Key x.1 x.2.1 x.2.2.1⟩
theorem con_spec_l3Key (G : Good Try.prog tt sp_spec_l3Key) : Con Try.prog 142 s_spec_l3Key :=
  con_of G.htt (fn := Try.f142) (c := bodyOf Try.f142) (by kernel_rfl) (by kernel_rfl) (by kernel_rfl) (rs := [.tmp 6]) (by kernel_rfl) (by kernel_rfl) (fun _ => rfl) fun x hp fr _ _ _ =>
    spec_l3Key_b_ok G (fr := fr) x.1 x.2.1 x.2.2.1 hp
      (fun q h e he => ⟨by rw [show (s_spec_l3Key.val x).1 = q from congrArg ocR h]; exact he, trivial⟩)

noncomputable def sp_spec_l3Sum : SP := [(46, s_spec_SetOk), (142, s_spec_l3Key)]
noncomputable def spec_l3Sum_c2_r (x3 : List Item) (x4 : Int) (s8 : List Item) (s9 : Int) : Oc ((List Item) × Int) (List Item) ((List Item)) Empty Empty :=
  match (cond (cmp .lss s9 4) (v_spec_SetOk x3) false) with
  | true =>
    .n ((s8 ++ (v_spec_l3Key x3 s9 x4)), (ar .add .i64 s9 1))
  | false =>
    .x s8
def spec_l3Sum_c2_r_ob (x3 : List Item) (x4 : Int) (s8 : List Item) (s9 : Int) : Prop :=
  (((((cmp .lss s9 4) && true) = true → (p_spec_SetOk x3))) ∧ (True)) ∧
  ((cond (cmp .lss s9 4) (v_spec_SetOk x3) false) = true →
    (((p_spec_l3Key x3 s9 x4)) ∧ (lim (lenI .item s8) (lenI .item (v_spec_l3Key x3 s9 x4))) ∧ (True)) ∧
    ((True)) ∧
    True) ∧ ((cond (cmp .lss s9 4) (v_spec_SetOk x3) false) = false →
    True)
set_option maxRecDepth 100000 in
theorem spec_l3Sum_c2_r_ok (G : Good Try.prog tt sp_spec_l3Sum) {fr : Fr} (x3 : List Item) (x4 : Int) (s8 : List Item) (s9 : Int) (hob : spec_l3Sum_c2_r_ob x3 x4 s8 s9) {n r : Env → Prop} {x : Nat → Env → Prop}
    (hn : ∀ (q14 : List Item) (q15 : Int), (spec_l3Sum_c2_r x3 x4 s8 s9) = .n (q14, q15) → ∀ e, Weak e [(0, .v .sh (.lst .item x3)), (1, .v .fr (.int .i64 x4)), (5, .v (.acc true) (.lst .item q14)), (6, .v .fr (.int .i64 q15))] → n e)
    (_hr : ∀ q, (spec_l3Sum_c2_r x3 x4 s8 s9) = .r q → ∀ e, retAv tt e [.tmp 4] (.one (.acc true) (.lst .item)) = some (RT.av (.one (.acc true) (.lst .item)) q) → r e)
    (hx : ∀ (q13 : List Item), (spec_l3Sum_c2_r x3 x4 s8 s9) = .x q13 → ∀ e, Weak e [(5, .v (.acc true) (.lst .item q13))] → x 0 e) :
    Ht Try.prog ⟨(Try.f124).ntmps, none, []⟩ fr (nav (bodyOf (Try.f124)) [1, 1, 0, 1, 0, 0]) [(0, .v .sh (.lst .item x3)), (1, .v .fr (.int .i64 x4)), (5, .v (.acc true) (.lst .item s8)), (6, .v .fr (.int .i64 s9))] n r x := by
  unfold spec_l3Sum_c2_r_ob at hob
  refine Ht.seq (c1 := (nav (bodyOf (Try.f124)) [1, 1, 0, 1, 0, 0, 0])) (c2 := (nav (bodyOf (Try.f124)) [1, 1, 0, 1, 0, 0, 1])) (by kernel_rfl) ?_
  refine Ht.seq (c1 := (nav (bodyOf (Try.f124)) [1, 1, 0, 1, 0, 0, 0, 0])) (c2 := (nav (bodyOf (Try.f124)) [1, 1, 0, 1, 0, 0, 0, 1])) (by kernel_rfl) ?_
  refine Ht.reg G (keep := [0, 1, 5, 6, 13]) (e' := [(0, .v .sh (.lst .item x3)), (1, .v .fr (.int .i64 x4)), (5, .v (.acc true) (.lst .item s8)), (6, .v .fr (.int .i64 s9)), (13, .v .fr (.bool (cond (cmp .lss s9 4) (v_spec_SetOk x3) false)))]) (obs := [(((cmp .lss s9 4) && true) = true → (p_spec_SetOk x3))]) (by kernel_rfl) hob.1 ?_
  refine Ht.cond (o := .tmp 13) (c1 := (nav (bodyOf (Try.f124)) [1, 1, 0, 1, 0, 0, 0, 1, 0])) (c2 := (nav (bodyOf (Try.f124)) [1, 1, 0, 1, 0, 0, 0, 1, 1])) (b := (cond (cmp .lss s9 4) (v_spec_SetOk x3) false)) (by kernel_rfl) (by kernel_rfl) (fun h10 => ?_) (fun h10 => ?_)
  · have hb := hob.2.1 h10
    refine Ht.skip (by kernel_rfl) ?_
    refine Ht.seq (c1 := (nav (bodyOf (Try.f124)) [1, 1, 0, 1, 0, 0, 1, 0])) (c2 := (nav (bodyOf (Try.f124)) [1, 1, 0, 1, 0, 0, 1, 1])) (by kernel_rfl) ?_
    refine Ht.block (id := 1) (c1 := (nav (bodyOf (Try.f124)) [1, 1, 0, 1, 0, 0, 1, 0, 0])) (by kernel_rfl) ?_
    refine Ht.reg G (keep := [0, 1, 5, 6]) (e' := [(0, .v .sh (.lst .item x3)), (1, .v .fr (.int .i64 x4)), (5, .v (.acc true) (.lst .item (s8 ++ (v_spec_l3Key x3 s9 x4)))), (6, .v .fr (.int .i64 s9))]) (obs := [(p_spec_l3Key x3 s9 x4), lim (lenI .item s8) (lenI .item (v_spec_l3Key x3 s9 x4))]) (by kernel_rfl) hb.1 ?_
    refine Ht.reg G (keep := [0, 1, 5, 6]) (e' := [(0, .v .sh (.lst .item x3)), (1, .v .fr (.int .i64 x4)), (5, .v (.acc true) (.lst .item (s8 ++ (v_spec_l3Key x3 s9 x4)))), (6, .v .fr (.int .i64 (ar .add .i64 s9 1)))]) (obs := []) (by kernel_rfl) hb.2.1 ?_
    exact hn (s8 ++ (v_spec_l3Key x3 s9 x4)) (ar .add .i64 s9 1) (by simp only [spec_l3Sum_c2_r, h10]) _ (Weak.cast (pat := [(0, .sh), (1, .fr), (5, (.acc true)), (6, .fr)]) (by kernel_rfl) (by kernel_rfl))
  · have hb := hob.2.2 h10
    refine Ht.exit (i := 0) (by kernel_rfl) ?_
    exact hx s8 (by simp only [spec_l3Sum_c2_r, h10]) _ (Weak.cast (pat := [(5, (.acc true))]) (by kernel_rfl) (by kernel_rfl))

noncomputable def spec_l3Sum_c2 (x3 : List Item) (x4 : Int) : Oc Empty (List Item) ((List Item)) Empty Empty := lpV (fun s => ocLp ((fun (s : (List Item) × Int) => spec_l3Sum_c2_r x3 x4 s.1 s.2) s)) ([], 0)
def spec_l3Sum_c2_ob (x3 : List Item) (x4 : Int) : Prop := LpT (fun s => ocLp ((fun (s : (List Item) × Int) => spec_l3Sum_c2_r x3 x4 s.1 s.2) s)) (fun s => spec_l3Sum_c2_r_ob x3 x4 s.1 s.2) ([], 0)
set_option maxRecDepth 100000 in
theorem spec_l3Sum_c2_ok (G : Good Try.prog tt sp_spec_l3Sum) {fr : Fr} (x3 : List Item) (x4 : Int) (hob : spec_l3Sum_c2_ob x3 x4) {n r : Env → Prop} {x : Nat → Env → Prop}
    (hr : ∀ q, (spec_l3Sum_c2 x3 x4) = .r q → ∀ e, retAv tt e [.tmp 4] (.one (.acc true) (.lst .item)) = some (RT.av (.one (.acc true) (.lst .item)) q) → r e)
    (hx : ∀ (q13 : List Item), (spec_l3Sum_c2 x3 x4) = .x q13 → ∀ e, Weak e [(5, .v (.acc true) (.lst .item q13))] → x 0 e) :
    Ht Try.prog ⟨(Try.f124).ntmps, none, []⟩ fr (nav (bodyOf (Try.f124)) [1, 1, 0, 1, 0]) [(0, .v .sh (.lst .item x3)), (1, .v .fr (.int .i64 x4)), (5, .v (.acc true) (.lst .item [])), (6, .v .fr (.int .i64 0))] n r x := by
  unfold spec_l3Sum_c2_ob at hob
  refine Ht.weak (e' := (fun (s : (List Item) × Int) => [(0, .v .sh (.lst .item x3)), (1, .v .fr (.int .i64 x4)), (5, .v (.acc true) (.lst .item s.1)), (6, .v .fr (.int .i64 s.2))]) ([], 0)) (Weak.cast (pat := [(0, .sh), (1, .fr), (5, (.acc true)), (6, .fr)]) (by kernel_rfl) (by kernel_rfl)) ?_
  refine Ht.loopOc (c1 := (nav (bodyOf (Try.f124)) [1, 1, 0, 1, 0, 0])) (by kernel_rfl) (fun (s : (List Item) × Int) => [(0, .v .sh (.lst .item x3)), (1, .v .fr (.int .i64 x4)), (5, .v (.acc true) (.lst .item s.1)), (6, .v .fr (.int .i64 s.2))]) (fun (s : (List Item) × Int) => spec_l3Sum_c2_r x3 x4 s.1 s.2) hob (RP := fun q e => retAv tt e [.tmp 4] (.one (.acc true) (.lst .item)) = some (RT.av (.one (.acc true) (.lst .item)) q)) (XP := (fun i q e => i = 0 ∧ Weak e [(5, .v (.acc true) (.lst .item q))])) (YP := (fun _ _ _ => False)) (ZP := (fun _ _ _ => False)) (fun s hs => ?_) ?_ ?_ ?_ ?_
  · refine spec_l3Sum_c2_r_ok G x3 x4 s.1 s.2 hs (fun q14 q15 h e hw => ⟨(q14, q15), h, hw⟩) (fun q h e he => ⟨q, h, he⟩) (fun q13 h e hw => .inl ⟨q13, h, rfl, hw⟩)
  · exact fun q e h he => hr q h e he
  · rintro i q e h ⟨rfl, hw⟩
    exact hx q h e hw
  · exact fun _ _ _ _ h => h.elim
  · exact fun _ _ _ _ h => h.elim


noncomputable def spec_l3Sum_c1 (x1 : List Item) (x2 : Int) : Oc ((List Item)) (List Item) Empty Empty Empty :=
  match (spec_l3Sum_c2 x1 x2) with
  | .r q16 =>
    .r q16
  | .x q18 =>
    .n q18
  | .n q => q.elim
  | .y q => q.elim
  | .z q => q.elim
def spec_l3Sum_c1_ob (x1 : List Item) (x2 : Int) : Prop :=
  ((True)) ∧
  (spec_l3Sum_c2_ob x1 x2) ∧
  (∀ (q18 : List Item), (spec_l3Sum_c2 x1 x2) = .x q18 →
    True)
set_option maxRecDepth 100000 in
theorem spec_l3Sum_c1_ok (G : Good Try.prog tt sp_spec_l3Sum) {fr : Fr} (x1 : List Item) (x2 : Int) (hob : spec_l3Sum_c1_ob x1 x2) {n r : Env → Prop} {x : Nat → Env → Prop}
    (hn : ∀ (q20 : List Item), (spec_l3Sum_c1 x1 x2) = .n q20 → ∀ e, Weak e [(5, .v (.acc true) (.lst .item q20))] → n e)
    (hr : ∀ q, (spec_l3Sum_c1 x1 x2) = .r q → ∀ e, retAv tt e [.tmp 4] (.one (.acc true) (.lst .item)) = some (RT.av (.one (.acc true) (.lst .item)) q) → r e) :
    Ht Try.prog ⟨(Try.f124).ntmps, none, []⟩ fr (nav (bodyOf (Try.f124)) [1, 1, 0]) [(0, .v .sh (.lst .item x1)), (1, .v .fr (.int .i64 x2)), (5, .v (.acc true) (.lst .item []))] n r x := by
  unfold spec_l3Sum_c1_ob at hob
  refine Ht.seq (c1 := (nav (bodyOf (Try.f124)) [1, 1, 0, 0])) (c2 := (nav (bodyOf (Try.f124)) [1, 1, 0, 1])) (by kernel_rfl) ?_
  refine Ht.reg G (keep := [0, 1, 5, 6]) (e' := [(0, .v .sh (.lst .item x1)), (1, .v .fr (.int .i64 x2)), (5, .v (.acc true) (.lst .item [])), (6, .v .fr (.int .i64 0))]) (obs := []) (by kernel_rfl) hob.1 ?_
  refine Ht.block (id := 0) (c1 := (nav (bodyOf (Try.f124)) [1, 1, 0, 1, 0])) (by kernel_rfl) ?_
  refine Ht.weak (e' := [(0, .v .sh (.lst .item x1)), (1, .v .fr (.int .i64 x2)), (5, .v (.acc true) (.lst .item [])), (6, .v .fr (.int .i64 0))]) (Weak.cast (pat := [(0, .same), (1, .same), (5, .same), (6, .same)]) (by kernel_rfl) (by kernel_rfl)) ?_
  refine spec_l3Sum_c2_ok G x1 x2 hob.2.1 (fun q h17 e he => hr q (by simp only [spec_l3Sum_c1, h17]) e he) (fun q18 h19 e hw => ?_)
  · have hb := hob.2.2 q18 h19
    exact hn q18 (by simp only [spec_l3Sum_c1, h19]) e (hw.trans (Weak.cast (pat := [(5, (.acc true))]) (by kernel_rfl) (by kernel_rfl)))

noncomputable def spec_l3Sum_b (a0 : List Item) (a1 : Int) : Oc Empty (List Item) Empty Empty Empty :=
  match (spec_l3Sum_c1 a0 a1) with
  | .n q21 =>
    .r q21
  | .r q23 =>
    .r q23
  | .x q => q.elim
  | .y q => q.elim
  | .z q => q.elim
def spec_l3Sum_b_ob (a0 : List Item) (a1 : Int) : Prop :=
  ((True)) ∧
  ((True)) ∧
  (spec_l3Sum_c1_ob a0 a1) ∧
  (∀ (q21 : List Item), (spec_l3Sum_c1 a0 a1) = .n q21 →
    ((True)) ∧
    True)
set_option maxRecDepth 100000 in
theorem spec_l3Sum_b_ok (G : Good Try.prog tt sp_spec_l3Sum) {fr : Fr} (a0 : List Item) (a1 : Int) (hob : spec_l3Sum_b_ob a0 a1) {n r : Env → Prop} {x : Nat → Env → Prop}
    (hr : ∀ q, (spec_l3Sum_b a0 a1) = .r q → ∀ e, retAv tt e [.tmp 4] (.one (.acc true) (.lst .item)) = some (RT.av (.one (.acc true) (.lst .item)) q) → r e) :
    Ht Try.prog ⟨(Try.f124).ntmps, none, []⟩ fr (nav (bodyOf (Try.f124)) []) [(0, .v .sh (.lst .item a0)), (1, .v .fr (.int .i64 a1))] n r x := by
  unfold spec_l3Sum_b_ob at hob
  refine Ht.seq (c1 := (nav (bodyOf (Try.f124)) [0])) (c2 := (nav (bodyOf (Try.f124)) [1])) (by kernel_rfl) ?_
  refine Ht.reg G (keep := [0, 1]) (e' := [(0, .v .sh (.lst .item a0)), (1, .v .fr (.int .i64 a1))]) (obs := []) (by kernel_rfl) hob.1 ?_
  refine Ht.seq (c1 := (nav (bodyOf (Try.f124)) [1, 0])) (c2 := (nav (bodyOf (Try.f124)) [1, 1])) (by kernel_rfl) ?_
  refine Ht.reg G (keep := [0, 1, 5]) (e' := [(0, .v .sh (.lst .item a0)), (1, .v .fr (.int .i64 a1)), (5, .v (.acc true) (.lst .item []))]) (obs := []) (by kernel_rfl) hob.2.1 ?_
  refine Ht.seq (c1 := (nav (bodyOf (Try.f124)) [1, 1, 0])) (c2 := (nav (bodyOf (Try.f124)) [1, 1, 1])) (by kernel_rfl) ?_
  refine Ht.weak (e' := [(0, .v .sh (.lst .item a0)), (1, .v .fr (.int .i64 a1)), (5, .v (.acc true) (.lst .item []))]) (Weak.cast (pat := [(0, .same), (1, .same), (5, .same)]) (by kernel_rfl) (by kernel_rfl)) ?_
  refine spec_l3Sum_c1_ok G a0 a1 hob.2.2.1 (fun q21 h22 e hw => ?_) (fun q h24 e he => hr q (by simp only [spec_l3Sum_b, h24]) e he)
  · have hb := hob.2.2.2 q21 h22
    refine Ht.weak hw ?_
    refine Ht.seq (c1 := (nav (bodyOf (Try.f124)) [1, 1, 1, 0])) (c2 := (nav (bodyOf (Try.f124)) [1, 1, 1, 1])) (by kernel_rfl) ?_
    refine Ht.reg G (keep := [4]) (e' := [(4, .v (.acc true) (.lst .item q21))]) (obs := []) (by kernel_rfl) hb.1 ?_
    refine Ht.ret (by kernel_rfl) ?_
    exact hr q21 (by simp only [spec_l3Sum_b, h22]) _ (by kernel_rfl)

noncomputable def v_spec_l3Sum (a0 : List Item) (a1 : Int) : List Item := ocR (spec_l3Sum_b a0 a1)
def p_spec_l3Sum (a0 : List Item) (a1 : Int) : Prop := spec_l3Sum_b_ob a0 a1
noncomputable def s_spec_l3Sum : Spec := ⟨[(.lst .item), (.int .i64)], .one (.acc true) (.lst .item), false, fun x => (v_spec_l3Sum x.1 x.2.1, 0), fun x => p_spec_l3Sum x.1 x.2.1⟩
theorem con_spec_l3Sum (G : Good Try.prog tt sp_spec_l3Sum) : Con Try.prog 124 s_spec_l3Sum :=
  con_of G.htt (fn := Try.f124) (c := bodyOf Try.f124) (by kernel_rfl) (by kernel_rfl) (by kernel_rfl) (rs := [.tmp 4]) (by kernel_rfl) (by kernel_rfl) (fun _ => rfl) fun x hp fr _ _ _ =>
    spec_l3Sum_b_ok G (fr := fr) x.1 x.2.1 hp
      (fun q h e he => ⟨by rw [show (s_spec_l3Sum.val x).1 = q from congrArg ocR h]; exact he, trivial⟩)

noncomputable def sp_spec_SetOnce : SP := [(124, s_spec_l3Sum)]
noncomputable def spec_SetOnce_b (a0 : List Item) : Oc Empty (List Item) Empty Empty Empty :=
  .r (v_spec_l3Sum a0 2)
def spec_SetOnce_b_ob (a0 : List Item) : Prop :=
  ((True)) ∧
  (((p_spec_l3Sum a0 2)) ∧ (True)) ∧
  True
set_option maxRecDepth 100000 in
theorem spec_SetOnce_b_ok (G : Good Try.prog tt sp_spec_SetOnce) {fr : Fr} (a0 : List Item) (hob : spec_SetOnce_b_ob a0) {n r : Env → Prop} {x : Nat → Env → Prop}
    (hr : ∀ q, (spec_SetOnce_b a0) = .r q → ∀ e, retAv tt e [.tmp 2] (.one (.acc true) (.lst .item)) = some (RT.av (.one (.acc true) (.lst .item)) q) → r e) :
    Ht Try.prog ⟨(Try.f80).ntmps, none, []⟩ fr (nav (bodyOf (Try.f80)) []) [(0, .v .sh (.lst .item a0))] n r x := by
  unfold spec_SetOnce_b_ob at hob
  refine Ht.seq (c1 := (nav (bodyOf (Try.f80)) [0])) (c2 := (nav (bodyOf (Try.f80)) [1])) (by kernel_rfl) ?_
  refine Ht.reg G (keep := [0]) (e' := [(0, .v .sh (.lst .item a0))]) (obs := []) (by kernel_rfl) hob.1 ?_
  refine Ht.seq (c1 := (nav (bodyOf (Try.f80)) [1, 0])) (c2 := (nav (bodyOf (Try.f80)) [1, 1])) (by kernel_rfl) ?_
  refine Ht.reg G (keep := [2]) (e' := [(2, .v (.acc true) (.lst .item (v_spec_l3Sum a0 2)))]) (obs := [(p_spec_l3Sum a0 2)]) (by kernel_rfl) hob.2.1 ?_
  refine Ht.ret (by kernel_rfl) ?_
  exact hr (v_spec_l3Sum a0 2) (by simp only [spec_SetOnce_b]) _ (by kernel_rfl)

noncomputable def v_spec_SetOnce (a0 : List Item) : List Item := ocR (spec_SetOnce_b a0)
def p_spec_SetOnce (a0 : List Item) : Prop := spec_SetOnce_b_ob a0
noncomputable def s_spec_SetOnce : Spec := ⟨[(.lst .item)], .one (.acc true) (.lst .item), false, fun x => (v_spec_SetOnce x.1, 0), fun x => p_spec_SetOnce x.1⟩
theorem con_spec_SetOnce (G : Good Try.prog tt sp_spec_SetOnce) : Con Try.prog 80 s_spec_SetOnce :=
  con_of G.htt (fn := Try.f80) (c := bodyOf Try.f80) (by kernel_rfl) (by kernel_rfl) (by kernel_rfl) (rs := [.tmp 2]) (by kernel_rfl) (by kernel_rfl) (fun _ => rfl) fun x hp fr _ _ _ =>
    spec_SetOnce_b_ok G (fr := fr) x.1 hp
      (fun q h e he => ⟨by rw [show (s_spec_SetOnce.val x).1 = q from congrArg ocR h]; exact he, trivial⟩)

noncomputable def sp_spec_LoopStep : SP := [(46, s_spec_SetOk), (82, s_spec_l22Keys), (83, s_spec_l22Lead), (81, s_spec_l2Items), (80, s_spec_SetOnce)]
noncomputable def spec_LoopStep_b (a0 : List Item) (a1 : List Item) (a2 : List Item) : Oc Empty (List Item) Empty Empty Empty :=
  match (cond (cond (!(v_spec_SetOk a0)) true (!(v_spec_SetOk a1))) true (!(v_spec_SetOk a2))) with
  | true =>
    .r []
  | false =>
    .r (v_spec_SetOnce (v_spec_l2Items ((v_spec_l22Keys a1) ++ (v_spec_l22Lead a0 a2))))
def spec_LoopStep_b_ob (a0 : List Item) (a1 : List Item) (a2 : List Item) : Prop :=
  ((True)) ∧
  (((p_spec_SetOk a0)) ∧ ((((!(!(v_spec_SetOk a0))) && true) = true → (p_spec_SetOk a1))) ∧ ((((!(cond (!(v_spec_SetOk a0)) true (!(v_spec_SetOk a1)))) && true) = true → (p_spec_SetOk a2))) ∧ (True)) ∧
  ((cond (cond (!(v_spec_SetOk a0)) true (!(v_spec_SetOk a1))) true (!(v_spec_SetOk a2))) = true →
    ((True)) ∧
    True) ∧ ((cond (cond (!(v_spec_SetOk a0)) true (!(v_spec_SetOk a1))) true (!(v_spec_SetOk a2))) = false →
    (((p_spec_l22Keys a1)) ∧ ((p_spec_l22Lead a0 a2)) ∧ (lim (lenI .item (v_spec_l22Keys a1)) (lenI .item (v_spec_l22Lead a0 a2))) ∧ ((p_spec_l2Items ((v_spec_l22Keys a1) ++ (v_spec_l22Lead a0 a2)))) ∧ ((p_spec_SetOnce (v_spec_l2Items ((v_spec_l22Keys a1) ++ (v_spec_l22Lead a0 a2))))) ∧ (True)) ∧
    True)
set_option maxRecDepth 100000 in
theorem spec_LoopStep_b_ok (G : Good Try.prog tt sp_spec_LoopStep) {fr : Fr} (a0 : List Item) (a1 : List Item) (a2 : List Item) (hob : spec_LoopStep_b_ob a0 a1 a2) {n r : Env → Prop} {x : Nat → Env → Prop}
    (hr : ∀ q, (spec_LoopStep_b a0 a1 a2) = .r q → ∀ e, retAv tt e [.tmp 6] (.one (.acc true) (.lst .item)) = some (RT.av (.one (.acc true) (.lst .item)) q) → r e) :
    Ht Try.prog ⟨(Try.f29).ntmps, none, []⟩ fr (nav (bodyOf (Try.f29)) []) [(0, .v .sh (.lst .item a0)), (1, .v .sh (.lst .item a1)), (2, .v .sh (.lst .item a2))] n r x := by
  unfold spec_LoopStep_b_ob at hob
  refine Ht.seq (c1 := (nav (bodyOf (Try.f29)) [0])) (c2 := (nav (bodyOf (Try.f29)) [1])) (by kernel_rfl) ?_
  refine Ht.reg G (keep := [0, 1, 2]) (e' := [(0, .v .sh (.lst .item a0)), (1, .v .sh (.lst .item a1)), (2, .v .sh (.lst .item a2))]) (obs := []) (by kernel_rfl) hob.1 ?_
  refine Ht.seq (c1 := (nav (bodyOf (Try.f29)) [1, 0])) (c2 := (nav (bodyOf (Try.f29)) [1, 1])) (by kernel_rfl) ?_
  refine Ht.seq (c1 := (nav (bodyOf (Try.f29)) [1, 0, 0])) (c2 := (nav (bodyOf (Try.f29)) [1, 0, 1])) (by kernel_rfl) ?_
  refine Ht.reg G (keep := [0, 1, 2, 19]) (e' := [(0, .v .sh (.lst .item a0)), (1, .v .sh (.lst .item a1)), (2, .v .sh (.lst .item a2)), (19, .v .fr (.bool (cond (cond (!(v_spec_SetOk a0)) true (!(v_spec_SetOk a1))) true (!(v_spec_SetOk a2)))))]) (obs := [(p_spec_SetOk a0), (((!(!(v_spec_SetOk a0))) && true) = true → (p_spec_SetOk a1)), (((!(cond (!(v_spec_SetOk a0)) true (!(v_spec_SetOk a1)))) && true) = true → (p_spec_SetOk a2))]) (by kernel_rfl) hob.2.1 ?_
  refine Ht.cond (o := .tmp 19) (c1 := (nav (bodyOf (Try.f29)) [1, 0, 1, 0])) (c2 := (nav (bodyOf (Try.f29)) [1, 0, 1, 1])) (b := (cond (cond (!(v_spec_SetOk a0)) true (!(v_spec_SetOk a1))) true (!(v_spec_SetOk a2)))) (by kernel_rfl) (by kernel_rfl) (fun h1 => ?_) (fun h1 => ?_)
  · have hb := hob.2.2.1 h1
    refine Ht.seq (c1 := (nav (bodyOf (Try.f29)) [1, 0, 1, 0, 0])) (c2 := (nav (bodyOf (Try.f29)) [1, 0, 1, 0, 1])) (by kernel_rfl) ?_
    refine Ht.reg G (keep := [6]) (e' := [(6, .v (.acc true) (.lst .item []))]) (obs := []) (by kernel_rfl) hb.1 ?_
    refine Ht.ret (by kernel_rfl) ?_
    exact hr [] (by simp only [spec_LoopStep_b, h1]) _ (by kernel_rfl)
  · have hb := hob.2.2.2 h1
    refine Ht.skip (by kernel_rfl) ?_
    refine Ht.seq (c1 := (nav (bodyOf (Try.f29)) [1, 1, 0])) (c2 := (nav (bodyOf (Try.f29)) [1, 1, 1])) (by kernel_rfl) ?_
    refine Ht.reg G (keep := [6]) (e' := [(6, .v (.acc true) (.lst .item (v_spec_SetOnce (v_spec_l2Items ((v_spec_l22Keys a1) ++ (v_spec_l22Lead a0 a2))))))]) (obs := [(p_spec_l22Keys a1), (p_spec_l22Lead a0 a2), lim (lenI .item (v_spec_l22Keys a1)) (lenI .item (v_spec_l22Lead a0 a2)), (p_spec_l2Items ((v_spec_l22Keys a1) ++ (v_spec_l22Lead a0 a2))), (p_spec_SetOnce (v_spec_l2Items ((v_spec_l22Keys a1) ++ (v_spec_l22Lead a0 a2))))]) (by kernel_rfl) hb.1 ?_
    refine Ht.ret (by kernel_rfl) ?_
    exact hr (v_spec_SetOnce (v_spec_l2Items ((v_spec_l22Keys a1) ++ (v_spec_l22Lead a0 a2)))) (by simp only [spec_LoopStep_b, h1]) _ (by kernel_rfl)

noncomputable def v_spec_LoopStep (a0 : List Item) (a1 : List Item) (a2 : List Item) : List Item := ocR (spec_LoopStep_b a0 a1 a2)
def p_spec_LoopStep (a0 : List Item) (a1 : List Item) (a2 : List Item) : Prop := spec_LoopStep_b_ob a0 a1 a2
noncomputable def s_spec_LoopStep : Spec := ⟨[(.lst .item), (.lst .item), (.lst .item)], .one (.acc true) (.lst .item), false, fun x => (v_spec_LoopStep x.1 x.2.1 x.2.2.1, 0), fun x => p_spec_LoopStep x.1 x.2.1 x.2.2.1⟩
theorem con_spec_LoopStep (G : Good Try.prog tt sp_spec_LoopStep) : Con Try.prog 29 s_spec_LoopStep :=
  con_of G.htt (fn := Try.f29) (c := bodyOf Try.f29) (by kernel_rfl) (by kernel_rfl) (by kernel_rfl) (rs := [.tmp 6]) (by kernel_rfl) (by kernel_rfl) (fun _ => rfl) fun x hp fr _ _ _ =>
    spec_LoopStep_b_ok G (fr := fr) x.1 x.2.1 x.2.2.1 hp
      (fun q h e he => ⟨by rw [show (s_spec_LoopStep.val x).1 = q from congrArg ocR h]; exact he, trivial⟩)

noncomputable def sp_laws_lwItems : SP := []
noncomputable def laws_lwItems_c2_r (x4 : List Item) (x5 : List Item) (s9 : Int) : Oc (Int) Bool Unit Empty Empty :=
  match (cmp .lss s9 (lenI .item x4)) with
  | true =>
    match (!(cmp .eql (rd .item x4 s9).Key (rd .item x5 s9).Key && (cmp .eql (rd .item x4 s9).Val (rd .item x5 s9).Val && (cmp .eql (rd .item x4 s9).Count (rd .item x5 s9).Count && true)))) with
    | true =>
      .r false
    | false =>
      .n (ar .add .i64 s9 1)
  | false =>
    .x ()
def laws_lwItems_c2_r_ob (x4 : List Item) (x5 : List Item) (s9 : Int) : Prop :=
  ((True)) ∧
  ((cmp .lss s9 (lenI .item x4)) = true →
    ((inb s9 (lenI .item x4)) ∧ (inb s9 (lenI .item x5)) ∧ (True)) ∧
    ((!(cmp .eql (rd .item x4 s9).Key (rd .item x5 s9).Key && (cmp .eql (rd .item x4 s9).Val (rd .item x5 s9).Val && (cmp .eql (rd .item x4 s9).Count (rd .item x5 s9).Count && true)))) = true →
      ((True)) ∧
      True) ∧ ((!(cmp .eql (rd .item x4 s9).Key (rd .item x5 s9).Key && (cmp .eql (rd .item x4 s9).Val (rd .item x5 s9).Val && (cmp .eql (rd .item x4 s9).Count (rd .item x5 s9).Count && true)))) = false →
      ((True)) ∧
      True)) ∧ ((cmp .lss s9 (lenI .item x4)) = false →
    True)
set_option maxRecDepth 100000 in
theorem laws_lwItems_c2_r_ok (G : Good Try.prog tt sp_laws_lwItems) {fr : Fr} (x4 : List Item) (x5 : List Item) (s9 : Int) (hob : laws_lwItems_c2_r_ob x4 x5 s9) {n r : Env → Prop} {x : Nat → Env → Prop}
    (hn : ∀ (q13 : Int), (laws_lwItems_c2_r x4 x5 s9) = .n q13 → ∀ e, Weak e [(0, .v .sh (.lst .item x4)), (1, .v .sh (.lst .item x5)), (5, .v .fr (.int .i64 q13))] → n e)
    (hr : ∀ q, (laws_lwItems_c2_r x4 x5 s9) = .r q → ∀ e, retAv tt e [.tmp 4] (.one .fr .bool) = some (RT.av (.one .fr .bool) q) → r e)
    (hx : (laws_lwItems_c2_r x4 x5 s9) = .x () → ∀ e, Weak e [] → x 0 e) :
    Ht Try.prog ⟨(Try.f45).ntmps, none, []⟩ fr (nav (bodyOf (Try.f45)) [1, 1, 0, 1, 0, 0]) [(0, .v .sh (.lst .item x4)), (1, .v .sh (.lst .item x5)), (5, .v .fr (.int .i64 s9))] n r x := by
  unfold laws_lwItems_c2_r_ob at hob
  refine Ht.seq (c1 := (nav (bodyOf (Try.f45)) [1, 1, 0, 1, 0, 0, 0])) (c2 := (nav (bodyOf (Try.f45)) [1, 1, 0, 1, 0, 0, 1])) (by kernel_rfl) ?_
  refine Ht.seq (c1 := (nav (bodyOf (Try.f45)) [1, 1, 0, 1, 0, 0, 0, 0])) (c2 := (nav (bodyOf (Try.f45)) [1, 1, 0, 1, 0, 0, 0, 1])) (by kernel_rfl) ?_
  refine Ht.reg G (keep := [0, 1, 5, 14]) (e' := [(0, .v .sh (.lst .item x4)), (1, .v .sh (.lst .item x5)), (5, .v .fr (.int .i64 s9)), (14, .v .fr (.bool (cmp .lss s9 (lenI .item x4))))]) (obs := []) (by kernel_rfl) hob.1 ?_
  refine Ht.cond (o := .tmp 14) (c1 := (nav (bodyOf (Try.f45)) [1, 1, 0, 1, 0, 0, 0, 1, 0])) (c2 := (nav (bodyOf (Try.f45)) [1, 1, 0, 1, 0, 0, 0, 1, 1])) (b := (cmp .lss s9 (lenI .item x4))) (by kernel_rfl) (by kernel_rfl) (fun h10 => ?_) (fun h10 => ?_)
  · have hb := hob.2.1 h10
    refine Ht.skip (by kernel_rfl) ?_
    refine Ht.seq (c1 := (nav (bodyOf (Try.f45)) [1, 1, 0, 1, 0, 0, 1, 0])) (c2 := (nav (bodyOf (Try.f45)) [1, 1, 0, 1, 0, 0, 1, 1])) (by kernel_rfl) ?_
    refine Ht.block (id := 1) (c1 := (nav (bodyOf (Try.f45)) [1, 1, 0, 1, 0, 0, 1, 0, 0])) (by kernel_rfl) ?_
    refine Ht.seq (c1 := (nav (bodyOf (Try.f45)) [1, 1, 0, 1, 0, 0, 1, 0, 0, 0])) (c2 := (nav (bodyOf (Try.f45)) [1, 1, 0, 1, 0, 0, 1, 0, 0, 1])) (by kernel_rfl) ?_
    refine Ht.reg G (keep := [0, 1, 5, 25]) (e' := [(0, .v .sh (.lst .item x4)), (1, .v .sh (.lst .item x5)), (5, .v .fr (.int .i64 s9)), (25, .v .fr (.bool (!(cmp .eql (rd .item x4 s9).Key (rd .item x5 s9).Key && (cmp .eql (rd .item x4 s9).Val (rd .item x5 s9).Val && (cmp .eql (rd .item x4 s9).Count (rd .item x5 s9).Count && true))))))]) (obs := [inb s9 (lenI .item x4), inb s9 (lenI .item x5)]) (by kernel_rfl) hb.1 ?_
    refine Ht.cond (o := .tmp 25) (c1 := (nav (bodyOf (Try.f45)) [1, 1, 0, 1, 0, 0, 1, 0, 0, 1, 0])) (c2 := (nav (bodyOf (Try.f45)) [1, 1, 0, 1, 0, 0, 1, 0, 0, 1, 1])) (b := (!(cmp .eql (rd .item x4 s9).Key (rd .item x5 s9).Key && (cmp .eql (rd .item x4 s9).Val (rd .item x5 s9).Val && (cmp .eql (rd .item x4 s9).Count (rd .item x5 s9).Count && true))))) (by kernel_rfl) (by kernel_rfl) (fun h11 => ?_) (fun h11 => ?_)
    · have hb := hb.2.1 h11
      refine Ht.seq (c1 := (nav (bodyOf (Try.f45)) [1, 1, 0, 1, 0, 0, 1, 0, 0, 1, 0, 0])) (c2 := (nav (bodyOf (Try.f45)) [1, 1, 0, 1, 0, 0, 1, 0, 0, 1, 0, 1])) (by kernel_rfl) ?_
      refine Ht.reg G (keep := [4]) (e' := [(4, .v .fr (.bool false))]) (obs := []) (by kernel_rfl) hb.1 ?_
      refine Ht.ret (by kernel_rfl) ?_
      exact hr false (by simp only [laws_lwItems_c2_r, h10, h11]) _ (by kernel_rfl)
    · have hb := hb.2.2 h11
      refine Ht.skip (by kernel_rfl) ?_
      refine Ht.reg G (keep := [0, 1, 5]) (e' := [(0, .v .sh (.lst .item x4)), (1, .v .sh (.lst .item x5)), (5, .v .fr (.int .i64 (ar .add .i64 s9 1)))]) (obs := []) (by kernel_rfl) hb.1 ?_
      exact hn (ar .add .i64 s9 1) (by simp only [laws_lwItems_c2_r, h10, h11]) _ (Weak.cast (pat := [(0, .sh), (1, .sh), (5, .fr)]) (by kernel_rfl) (by kernel_rfl))
  · have hb := hob.2.2 h10
    refine Ht.exit (i := 0) (by kernel_rfl) ?_
    exact hx (by simp only [laws_lwItems_c2_r, h10]) _ (Weak.cast (pat := []) (by kernel_rfl) (by kernel_rfl))

noncomputable def laws_lwItems_c2 (x4 : List Item) (x5 : List Item) : Oc Empty Bool Unit Empty Empty := lpV (fun s => ocLp ((fun (s : Int) => laws_lwItems_c2_r x4 x5 s) s)) 0
def laws_lwItems_c2_ob (x4 : List Item) (x5 : List Item) : Prop := LpT (fun s => ocLp ((fun (s : Int) => laws_lwItems_c2_r x4 x5 s) s)) (fun s => laws_lwItems_c2_r_ob x4 x5 s) 0
set_option maxRecDepth 100000 in
theorem laws_lwItems_c2_ok (G : Good Try.prog tt sp_laws_lwItems) {fr : Fr} (x4 : List Item) (x5 : List Item) (hob : laws_lwItems_c2_ob x4 x5) {n r : Env → Prop} {x : Nat → Env → Prop}
    (hr : ∀ q, (laws_lwItems_c2 x4 x5) = .r q → ∀ e, retAv tt e [.tmp 4] (.one .fr .bool) = some (RT.av (.one .fr .bool) q) → r e)
    (hx : (laws_lwItems_c2 x4 x5) = .x () → ∀ e, Weak e [] → x 0 e) :
    Ht Try.prog ⟨(Try.f45).ntmps, none, []⟩ fr (nav (bodyOf (Try.f45)) [1, 1, 0, 1, 0]) [(0, .v .sh (.lst .item x4)), (1, .v .sh (.lst .item x5)), (5, .v .fr (.int .i64 0))] n r x := by
  unfold laws_lwItems_c2_ob at hob
  refine Ht.weak (e' := (fun (s : Int) => [(0, .v .sh (.lst .item x4)), (1, .v .sh (.lst .item x5)), (5, .v .fr (.int .i64 s))]) 0) (Weak.cast (pat := [(0, .sh), (1, .sh), (5, .fr)]) (by kernel_rfl) (by kernel_rfl)) ?_
  refine Ht.loopOc (c1 := (nav (bodyOf (Try.f45)) [1, 1, 0, 1, 0, 0])) (by kernel_rfl) (fun (s : Int) => [(0, .v .sh (.lst .item x4)), (1, .v .sh (.lst .item x5)), (5, .v .fr (.int .i64 s))]) (fun (s : Int) => laws_lwItems_c2_r x4 x5 s) hob (RP := fun q e => retAv tt e [.tmp 4] (.one .fr .bool) = some (RT.av (.one .fr .bool) q)) (XP := (fun i _ e => i = 0 ∧ Weak e [])) (YP := (fun _ _ _ => False)) (ZP := (fun _ _ _ => False)) (fun s hs => ?_) ?_ ?_ ?_ ?_
  · refine laws_lwItems_c2_r_ok G x4 x5 s hs (fun q13 h e hw => ⟨q13, h, hw⟩) (fun q h e he => ⟨q, h, he⟩) (fun h e hw => .inl ⟨(), h, rfl, hw⟩)
  · exact fun q e h he => hr q h e he
  · rintro i q e h ⟨rfl, hw⟩
    exact hx h e hw
  · exact fun _ _ _ _ h => h.elim
  · exact fun _ _ _ _ h => h.elim


noncomputable def laws_lwItems_c1 (x2 : List Item) (x3 : List Item) : Oc Unit Bool Empty Empty Empty :=
  match (laws_lwItems_c2 x2 x3) with
  | .r q14 =>
    .r q14
  | .x () =>
    .n ()
  | .n q => q.elim
  | .y q => q.elim
  | .z q => q.elim
def laws_lwItems_c1_ob (x2 : List Item) (x3 : List Item) : Prop :=
  ((True)) ∧
  (laws_lwItems_c2_ob x2 x3) ∧
  ((laws_lwItems_c2 x2 x3) = .x () →
    True)
set_option maxRecDepth 100000 in
theorem laws_lwItems_c1_ok (G : Good Try.prog tt sp_laws_lwItems) {fr : Fr} (x2 : List Item) (x3 : List Item) (hob : laws_lwItems_c1_ob x2 x3) {n r : Env → Prop} {x : Nat → Env → Prop}
    (hn : (laws_lwItems_c1 x2 x3) = .n () → ∀ e, Weak e [] → n e)
    (hr : ∀ q, (laws_lwItems_c1 x2 x3) = .r q → ∀ e, retAv tt e [.tmp 4] (.one .fr .bool) = some (RT.av (.one .fr .bool) q) → r e) :
    Ht Try.prog ⟨(Try.f45).ntmps, none, []⟩ fr (nav (bodyOf (Try.f45)) [1, 1, 0]) [(0, .v .sh (.lst .item x2)), (1, .v .sh (.lst .item x3))] n r x := by
  unfold laws_lwItems_c1_ob at hob
  refine Ht.seq (c1 := (nav (bodyOf (Try.f45)) [1, 1, 0, 0])) (c2 := (nav (bodyOf (Try.f45)) [1, 1, 0, 1])) (by kernel_rfl) ?_
  refine Ht.reg G (keep := [0, 1, 5]) (e' := [(0, .v .sh (.lst .item x2)), (1, .v .sh (.lst .item x3)), (5, .v .fr (.int .i64 0))]) (obs := []) (by kernel_rfl) hob.1 ?_
  refine Ht.block (id := 0) (c1 := (nav (bodyOf (Try.f45)) [1, 1, 0, 1, 0])) (by kernel_rfl) ?_
  refine Ht.weak (e' := [(0, .v .sh (.lst .item x2)), (1, .v .sh (.lst .item x3)), (5, .v .fr (.int .i64 0))]) (Weak.cast (pat := [(0, .same), (1, .same), (5, .same)]) (by kernel_rfl) (by kernel_rfl)) ?_
  refine laws_lwItems_c2_ok G x2 x3 hob.2.1 (fun q h15 e he => hr q (by simp only [laws_lwItems_c1, h15]) e he) (fun h16 e hw => ?_)
  · have hb := hob.2.2 h16
    exact hn (by simp only [laws_lwItems_c1, h16]) e (hw.trans (Weak.cast (pat := []) (by kernel_rfl) (by kernel_rfl)))

noncomputable def laws_lwItems_b (a0 : List Item) (a1 : List Item) : Oc Empty Bool Empty Empty Empty :=
  match (cmp .neq (lenI .item a0) (lenI .item a1)) with
  | true =>
    .r false
  | false =>
    match (laws_lwItems_c1 a0 a1) with
    | .n () =>
      .r true
    | .r q18 =>
      .r q18
    | .x q => q.elim
    | .y q => q.elim
    | .z q => q.elim
def laws_lwItems_b_ob (a0 : List Item) (a1 : List Item) : Prop :=
  ((True)) ∧
  ((True)) ∧
  ((cmp .neq (lenI .item a0) (lenI .item a1)) = true →
    ((True)) ∧
    True) ∧ ((cmp .neq (lenI .item a0) (lenI .item a1)) = false →
    (laws_lwItems_c1_ob a0 a1) ∧
    ((laws_lwItems_c1 a0 a1) = .n () →
      ((True)) ∧
      True))
set_option maxRecDepth 100000 in
theorem laws_lwItems_b_ok (G : Good Try.prog tt sp_laws_lwItems) {fr : Fr} (a0 : List Item) (a1 : List Item) (hob : laws_lwItems_b_ob a0 a1) {n r : Env → Prop} {x : Nat → Env → Prop}
    (hr : ∀ q, (laws_lwItems_b a0 a1) = .r q → ∀ e, retAv tt e [.tmp 4] (.one .fr .bool) = some (RT.av (.one .fr .bool) q) → r e) :
    Ht Try.prog ⟨(Try.f45).ntmps, none, []⟩ fr (nav (bodyOf (Try.f45)) []) [(0, .v .sh (.lst .item a0)), (1, .v .sh (.lst .item a1))] n r x := by
  unfold laws_lwItems_b_ob at hob
  refine Ht.seq (c1 := (nav (bodyOf (Try.f45)) [0])) (c2 := (nav (bodyOf (Try.f45)) [1])) (by kernel_rfl) ?_
  refine Ht.reg G (keep := [0, 1]) (e' := [(0, .v .sh (.lst .item a0)), (1, .v .sh (.lst .item a1))]) (obs := []) (by kernel_rfl) hob.1 ?_
  refine Ht.seq (c1 := (nav (bodyOf (Try.f45)) [1, 0])) (c2 := (nav (bodyOf (Try.f45)) [1, 1])) (by kernel_rfl) ?_
  refine Ht.seq (c1 := (nav (bodyOf (Try.f45)) [1, 0, 0])) (c2 := (nav (bodyOf (Try.f45)) [1, 0, 1])) (by kernel_rfl) ?_
  refine Ht.reg G (keep := [0, 1, 10]) (e' := [(0, .v .sh (.lst .item a0)), (1, .v .sh (.lst .item a1)), (10, .v .fr (.bool (cmp .neq (lenI .item a0) (lenI .item a1))))]) (obs := []) (by kernel_rfl) hob.2.1 ?_
  refine Ht.cond (o := .tmp 10) (c1 := (nav (bodyOf (Try.f45)) [1, 0, 1, 0])) (c2 := (nav (bodyOf (Try.f45)) [1, 0, 1, 1])) (b := (cmp .neq (lenI .item a0) (lenI .item a1))) (by kernel_rfl) (by kernel_rfl) (fun h1 => ?_) (fun h1 => ?_)
  · have hb := hob.2.2.1 h1
    refine Ht.seq (c1 := (nav (bodyOf (Try.f45)) [1, 0, 1, 0, 0])) (c2 := (nav (bodyOf (Try.f45)) [1, 0, 1, 0, 1])) (by kernel_rfl) ?_
    refine Ht.reg G (keep := [4]) (e' := [(4, .v .fr (.bool false))]) (obs := []) (by kernel_rfl) hb.1 ?_
    refine Ht.ret (by kernel_rfl) ?_
    exact hr false (by simp only [laws_lwItems_b, h1]) _ (by kernel_rfl)
  · have hb := hob.2.2.2 h1
    refine Ht.skip (by kernel_rfl) ?_
    refine Ht.seq (c1 := (nav (bodyOf (Try.f45)) [1, 1, 0])) (c2 := (nav (bodyOf (Try.f45)) [1, 1, 1])) (by kernel_rfl) ?_
    refine Ht.weak (e' := [(0, .v .sh (.lst .item a0)), (1, .v .sh (.lst .item a1))]) (Weak.cast (pat := [(0, .same), (1, .same)]) (by kernel_rfl) (by kernel_rfl)) ?_
    refine laws_lwItems_c1_ok G a0 a1 hb.1 (fun h17 e hw => ?_) (fun q h19 e he => hr q (by simp only [laws_lwItems_b, h1, h19]) e he)
    · have hb := hb.2 h17
      refine Ht.weak hw ?_
      refine Ht.seq (c1 := (nav (bodyOf (Try.f45)) [1, 1, 1, 0])) (c2 := (nav (bodyOf (Try.f45)) [1, 1, 1, 1])) (by kernel_rfl) ?_
      refine Ht.reg G (keep := [4]) (e' := [(4, .v .fr (.bool true))]) (obs := []) (by kernel_rfl) hb.1 ?_
      refine Ht.ret (by kernel_rfl) ?_
      exact hr true (by simp only [laws_lwItems_b, h1, h17]) _ (by kernel_rfl)

noncomputable def v_laws_lwItems (a0 : List Item) (a1 : List Item) : Bool := ocR (laws_lwItems_b a0 a1)
def p_laws_lwItems (a0 : List Item) (a1 : List Item) : Prop := laws_lwItems_b_ob a0 a1
noncomputable def s_laws_lwItems : Spec := ⟨[(.lst .item), (.lst .item)], .one .fr .bool, false, fun x => (v_laws_lwItems x.1 x.2.1, 0), fun x => p_laws_lwItems x.1 x.2.1⟩
theorem con_laws_lwItems (G : Good Try.prog tt sp_laws_lwItems) : Con Try.prog 45 s_laws_lwItems :=
  con_of G.htt (fn := Try.f45) (c := bodyOf Try.f45) (by kernel_rfl) (by kernel_rfl) (by kernel_rfl) (rs := [.tmp 4]) (by kernel_rfl) (by kernel_rfl) (fun _ => rfl) fun x hp fr _ _ _ =>
    laws_lwItems_b_ok G (fr := fr) x.1 x.2.1 hp
      (fun q h e he => ⟨by rw [show (s_laws_lwItems.val x).1 = q from congrArg ocR h]; exact he, trivial⟩)

noncomputable def sp_laws_FnLoopStep : SP := [(44, s_spec_DrawLoopStep), (31, s_impl_LoopStep), (29, s_spec_LoopStep), (45, s_laws_lwItems), (46, s_spec_SetOk), (47, s_impl_SetOk)]
noncomputable def laws_FnLoopStep_c2_r (_x7 : List Item) (_x8 : List Item) (_x9 : List Item) (x10 : List Item) (s14 : Int) : Oc (Int) Bool Unit Empty Empty :=
  match (cmp .lss s14 (lenI .item x10)) with
  | true =>
    match (cond (cmp .neq (rd .item x10 s14).Count 1) true (cmp .neq (rd .item x10 s14).Val 0)) with
    | true =>
      .r false
    | false =>
      .n (ar .add .i64 s14 1)
  | false =>
    .x ()
def laws_FnLoopStep_c2_r_ob (_x7 : List Item) (_x8 : List Item) (_x9 : List Item) (x10 : List Item) (s14 : Int) : Prop :=
  ((True)) ∧
  ((cmp .lss s14 (lenI .item x10)) = true →
    ((inb s14 (lenI .item x10)) ∧ ((((!(cmp .neq (rd .item x10 s14).Count 1)) && true) = true → inb s14 (lenI .item x10))) ∧ (True)) ∧
    ((cond (cmp .neq (rd .item x10 s14).Count 1) true (cmp .neq (rd .item x10 s14).Val 0)) = true →
      ((True)) ∧
      True) ∧ ((cond (cmp .neq (rd .item x10 s14).Count 1) true (cmp .neq (rd .item x10 s14).Val 0)) = false →
      ((True)) ∧
      True)) ∧ ((cmp .lss s14 (lenI .item x10)) = false →
    True)
set_option maxRecDepth 100000 in
theorem laws_FnLoopStep_c2_r_ok (G : Good Try.prog tt sp_laws_FnLoopStep) {fr : Fr} (x7 : List Item) (x8 : List Item) (x9 : List Item) (x10 : List Item) (s14 : Int) (hob : laws_FnLoopStep_c2_r_ob x7 x8 x9 x10 s14) {n r : Env → Prop} {x : Nat → Env → Prop}
    (hn : ∀ (q18 : Int), (laws_FnLoopStep_c2_r x7 x8 x9 x10 s14) = .n q18 → ∀ e, Weak e [(3, .v .sh (.lst .item x7)), (4, .v .sh (.lst .item x8)), (5, .v .sh (.lst .item x9)), (6, .v (.acc true) (.lst .item x10)), (7, .v .fr (.int .i64 q18))] → n e)
    (hr : ∀ q, (laws_FnLoopStep_c2_r x7 x8 x9 x10 s14) = .r q → ∀ e, retAv tt e [.tmp 2] (.one .fr .bool) = some (RT.av (.one .fr .bool) q) → r e)
    (hx : (laws_FnLoopStep_c2_r x7 x8 x9 x10 s14) = .x () → ∀ e, Weak e [(3, .v .sh (.lst .item x7)), (4, .v .sh (.lst .item x8)), (5, .v .sh (.lst .item x9)), (6, .v (.acc true) (.lst .item x10))] → x 0 e) :
    Ht Try.prog ⟨(Try.f7).ntmps, none, []⟩ fr (nav (bodyOf (Try.f7)) [1, 1, 1, 1, 1, 0, 1, 0, 0]) [(3, .v .sh (.lst .item x7)), (4, .v .sh (.lst .item x8)), (5, .v .sh (.lst .item x9)), (6, .v (.acc true) (.lst .item x10)), (7, .v .fr (.int .i64 s14))] n r x := by
  unfold laws_FnLoopStep_c2_r_ob at hob
  refine Ht.seq (c1 := (nav (bodyOf (Try.f7)) [1, 1, 1, 1, 1, 0, 1, 0, 0, 0])) (c2 := (nav (bodyOf (Try.f7)) [1, 1, 1, 1, 1, 0, 1, 0, 0, 1])) (by kernel_rfl) ?_
  refine Ht.seq (c1 := (nav (bodyOf (Try.f7)) [1, 1, 1, 1, 1, 0, 1, 0, 0, 0, 0])) (c2 := (nav (bodyOf (Try.f7)) [1, 1, 1, 1, 1, 0, 1, 0, 0, 0, 1])) (by kernel_rfl) ?_
  refine Ht.reg G (keep := [3, 4, 5, 6, 7, 54]) (e' := [(3, .v .sh (.lst .item x7)), (4, .v .sh (.lst .item x8)), (5, .v .sh (.lst .item x9)), (6, .v (.acc true) (.lst .item x10)), (7, .v .fr (.int .i64 s14)), (54, .v .fr (.bool (cmp .lss s14 (lenI .item x10))))]) (obs := []) (by kernel_rfl) hob.1 ?_
  refine Ht.cond (o := .tmp 54) (c1 := (nav (bodyOf (Try.f7)) [1, 1, 1, 1, 1, 0, 1, 0, 0, 0, 1, 0])) (c2 := (nav (bodyOf (Try.f7)) [1, 1, 1, 1, 1, 0, 1, 0, 0, 0, 1, 1])) (b := (cmp .lss s14 (lenI .item x10))) (by kernel_rfl) (by kernel_rfl) (fun h15 => ?_) (fun h15 => ?_)
  · have hb := hob.2.1 h15
    refine Ht.skip (by kernel_rfl) ?_
    refine Ht.seq (c1 := (nav (bodyOf (Try.f7)) [1, 1, 1, 1, 1, 0, 1, 0, 0, 1, 0])) (c2 := (nav (bodyOf (Try.f7)) [1, 1, 1, 1, 1, 0, 1, 0, 0, 1, 1])) (by kernel_rfl) ?_
    refine Ht.block (id := 1) (c1 := (nav (bodyOf (Try.f7)) [1, 1, 1, 1, 1, 0, 1, 0, 0, 1, 0, 0])) (by kernel_rfl) ?_
    refine Ht.seq (c1 := (nav (bodyOf (Try.f7)) [1, 1, 1, 1, 1, 0, 1, 0, 0, 1, 0, 0, 0])) (c2 := (nav (bodyOf (Try.f7)) [1, 1, 1, 1, 1, 0, 1, 0, 0, 1, 0, 0, 1])) (by kernel_rfl) ?_
    refine Ht.reg G (keep := [3, 4, 5, 6, 7, 70]) (e' := [(3, .v .sh (.lst .item x7)), (4, .v .sh (.lst .item x8)), (5, .v .sh (.lst .item x9)), (6, .v (.acc true) (.lst .item x10)), (7, .v .fr (.int .i64 s14)), (70, .v .fr (.bool (cond (cmp .neq (rd .item x10 s14).Count 1) true (cmp .neq (rd .item x10 s14).Val 0))))]) (obs := [inb s14 (lenI .item x10), (((!(cmp .neq (rd .item x10 s14).Count 1)) && true) = true → inb s14 (lenI .item x10))]) (by kernel_rfl) hb.1 ?_
    refine Ht.cond (o := .tmp 70) (c1 := (nav (bodyOf (Try.f7)) [1, 1, 1, 1, 1, 0, 1, 0, 0, 1, 0, 0, 1, 0])) (c2 := (nav (bodyOf (Try.f7)) [1, 1, 1, 1, 1, 0, 1, 0, 0, 1, 0, 0, 1, 1])) (b := (cond (cmp .neq (rd .item x10 s14).Count 1) true (cmp .neq (rd .item x10 s14).Val 0))) (by kernel_rfl) (by kernel_rfl) (fun h16 => ?_) (fun h16 => ?_)
    · have hb := hb.2.1 h16
      refine Ht.seq (c1 := (nav (bodyOf (Try.f7)) [1, 1, 1, 1, 1, 0, 1, 0, 0, 1, 0, 0, 1, 0, 0])) (c2 := (nav (bodyOf (Try.f7)) [1, 1, 1, 1, 1, 0, 1, 0, 0, 1, 0, 0, 1, 0, 1])) (by kernel_rfl) ?_
      refine Ht.reg G (keep := [2]) (e' := [(2, .v .fr (.bool false))]) (obs := []) (by kernel_rfl) hb.1 ?_
      refine Ht.ret (by kernel_rfl) ?_
      exact hr false (by simp only [laws_FnLoopStep_c2_r, h15, h16]) _ (by kernel_rfl)
    · have hb := hb.2.2 h16
      refine Ht.skip (by kernel_rfl) ?_
      refine Ht.reg G (keep := [3, 4, 5, 6, 7]) (e' := [(3, .v .sh (.lst .item x7)), (4, .v .sh (.lst .item x8)), (5, .v .sh (.lst .item x9)), (6, .v (.acc true) (.lst .item x10)), (7, .v .fr (.int .i64 (ar .add .i64 s14 1)))]) (obs := []) (by kernel_rfl) hb.1 ?_
      exact hn (ar .add .i64 s14 1) (by simp only [laws_FnLoopStep_c2_r, h15, h16]) _ (Weak.cast (pat := [(3, .sh), (4, .sh), (5, .sh), (6, (.acc true)), (7, .fr)]) (by kernel_rfl) (by kernel_rfl))
  · have hb := hob.2.2 h15
    refine Ht.exit (i := 0) (by kernel_rfl) ?_
    exact hx (by simp only [laws_FnLoopStep_c2_r, h15]) _ (Weak.cast (pat := [(3, .sh), (4, .sh), (5, .sh), (6, (.acc true))]) (by kernel_rfl) (by kernel_rfl))

noncomputable def laws_FnLoopStep_c2 (x7 : List Item) (x8 : List Item) (x9 : List Item) (x10 : List Item) : Oc Empty Bool Unit Empty Empty := lpV (fun s => ocLp ((fun (s : Int) => laws_FnLoopStep_c2_r x7 x8 x9 x10 s) s)) 0
def laws_FnLoopStep_c2_ob (x7 : List Item) (x8 : List Item) (x9 : List Item) (x10 : List Item) : Prop := LpT (fun s => ocLp ((fun (s : Int) => laws_FnLoopStep_c2_r x7 x8 x9 x10 s) s)) (fun s => laws_FnLoopStep_c2_r_ob x7 x8 x9 x10 s) 0
set_option maxRecDepth 100000 in
theorem laws_FnLoopStep_c2_ok (G : Good Try.prog tt sp_laws_FnLoopStep) {fr : Fr} (x7 : List Item) (x8 : List Item) (x9 : List Item) (x10 : List Item) (hob : laws_FnLoopStep_c2_ob x7 x8 x9 x10) {n r : Env → Prop} {x : Nat → Env → Prop}
    (hr : ∀ q, (laws_FnLoopStep_c2 x7 x8 x9 x10) = .r q → ∀ e, retAv tt e [.tmp 2] (.one .fr .bool) = some (RT.av (.one .fr .bool) q) → r e)
    (hx : (laws_FnLoopStep_c2 x7 x8 x9 x10) = .x () → ∀ e, Weak e [(3, .v .sh (.lst .item x7)), (4, .v .sh (.lst .item x8)), (5, .v .sh (.lst .item x9)), (6, .v (.acc true) (.lst .item x10))] → x 0 e) :
    Ht Try.prog ⟨(Try.f7).ntmps, none, []⟩ fr (nav (bodyOf (Try.f7)) [1, 1, 1, 1, 1, 0, 1, 0]) [(3, .v .sh (.lst .item x7)), (4, .v .sh (.lst .item x8)), (5, .v .sh (.lst .item x9)), (6, .v (.acc true) (.lst .item x10)), (7, .v .fr (.int .i64 0))] n r x := by
  unfold laws_FnLoopStep_c2_ob at hob
  refine Ht.weak (e' := (fun (s : Int) => [(3, .v .sh (.lst .item x7)), (4, .v .sh (.lst .item x8)), (5, .v .sh (.lst .item x9)), (6, .v (.acc true) (.lst .item x10)), (7, .v .fr (.int .i64 s))]) 0) (Weak.cast (pat := [(3, .sh), (4, .sh), (5, .sh), (6, (.acc true)), (7, .fr)]) (by kernel_rfl) (by kernel_rfl)) ?_
  refine Ht.loopOc (c1 := (nav (bodyOf (Try.f7)) [1, 1, 1, 1, 1, 0, 1, 0, 0])) (by kernel_rfl) (fun (s : Int) => [(3, .v .sh (.lst .item x7)), (4, .v .sh (.lst .item x8)), (5, .v .sh (.lst .item x9)), (6, .v (.acc true) (.lst .item x10)), (7, .v .fr (.int .i64 s))]) (fun (s : Int) => laws_FnLoopStep_c2_r x7 x8 x9 x10 s) hob (RP := fun q e => retAv tt e [.tmp 2] (.one .fr .bool) = some (RT.av (.one .fr .bool) q)) (XP := (fun i _ e => i = 0 ∧ Weak e [(3, .v .sh (.lst .item x7)), (4, .v .sh (.lst .item x8)), (5, .v .sh (.lst .item x9)), (6, .v (.acc true) (.lst .item x10))])) (YP := (fun _ _ _ => False)) (ZP := (fun _ _ _ => False)) (fun s hs => ?_) ?_ ?_ ?_ ?_
  · refine laws_FnLoopStep_c2_r_ok G x7 x8 x9 x10 s hs (fun q18 h e hw => ⟨q18, h, hw⟩) (fun q h e he => ⟨q, h, he⟩) (fun h e hw => .inl ⟨(), h, rfl, hw⟩)
  · exact fun q e h he => hr q h e he
  · rintro i q e h ⟨rfl, hw⟩
    exact hx h e hw
  · exact fun _ _ _ _ h => h.elim
  · exact fun _ _ _ _ h => h.elim


noncomputable def laws_FnLoopStep_c1 (x3 : List Item) (x4 : List Item) (x5 : List Item) (x6 : List Item) : Oc Unit Bool Empty Empty Empty :=
  match (laws_FnLoopStep_c2 x3 x4 x5 x6) with
  | .r q19 =>
    .r q19
  | .x () =>
    .n ()
  | .n q => q.elim
  | .y q => q.elim
  | .z q => q.elim
def laws_FnLoopStep_c1_ob (x3 : List Item) (x4 : List Item) (x5 : List Item) (x6 : List Item) : Prop :=
  ((True)) ∧
  (laws_FnLoopStep_c2_ob x3 x4 x5 x6) ∧
  ((laws_FnLoopStep_c2 x3 x4 x5 x6) = .x () →
    True)
set_option maxRecDepth 100000 in
theorem laws_FnLoopStep_c1_ok (G : Good Try.prog tt sp_laws_FnLoopStep) {fr : Fr} (x3 : List Item) (x4 : List Item) (x5 : List Item) (x6 : List Item) (hob : laws_FnLoopStep_c1_ob x3 x4 x5 x6) {n r : Env → Prop} {x : Nat → Env → Prop}
    (hn : (laws_FnLoopStep_c1 x3 x4 x5 x6) = .n () → ∀ e, Weak e [(3, .v .sh (.lst .item x3)), (4, .v .sh (.lst .item x4)), (5, .v .sh (.lst .item x5)), (6, .v (.acc true) (.lst .item x6))] → n e)
    (hr : ∀ q, (laws_FnLoopStep_c1 x3 x4 x5 x6) = .r q → ∀ e, retAv tt e [.tmp 2] (.one .fr .bool) = some (RT.av (.one .fr .bool) q) → r e) :
    Ht Try.prog ⟨(Try.f7).ntmps, none, []⟩ fr (nav (bodyOf (Try.f7)) [1, 1, 1, 1, 1, 0]) [(3, .v .sh (.lst .item x3)), (4, .v .sh (.lst .item x4)), (5, .v .sh (.lst .item x5)), (6, .v (.acc true) (.lst .item x6))] n r x := by
  unfold laws_FnLoopStep_c1_ob at hob
  refine Ht.seq (c1 := (nav (bodyOf (Try.f7)) [1, 1, 1, 1, 1, 0, 0])) (c2 := (nav (bodyOf (Try.f7)) [1, 1, 1, 1, 1, 0, 1])) (by kernel_rfl) ?_
  refine Ht.reg G (keep := [3, 4, 5, 6, 7]) (e' := [(3, .v .sh (.lst .item x3)), (4, .v .sh (.lst .item x4)), (5, .v .sh (.lst .item x5)), (6, .v (.acc true) (.lst .item x6)), (7, .v .fr (.int .i64 0))]) (obs := []) (by kernel_rfl) hob.1 ?_
  refine Ht.block (id := 0) (c1 := (nav (bodyOf (Try.f7)) [1, 1, 1, 1, 1, 0, 1, 0])) (by kernel_rfl) ?_
  refine Ht.weak (e' := [(3, .v .sh (.lst .item x3)), (4, .v .sh (.lst .item x4)), (5, .v .sh (.lst .item x5)), (6, .v (.acc true) (.lst .item x6)), (7, .v .fr (.int .i64 0))]) (Weak.cast (pat := [(3, .same), (4, .same), (5, .same), (6, .same), (7, .same)]) (by kernel_rfl) (by kernel_rfl)) ?_
  refine laws_FnLoopStep_c2_ok G x3 x4 x5 x6 hob.2.1 (fun q h20 e he => hr q (by simp only [laws_FnLoopStep_c1, h20]) e he) (fun h21 e hw => ?_)
  · have hb := hob.2.2 h21
    exact hn (by simp only [laws_FnLoopStep_c1, h21]) e (hw.trans (Weak.cast (pat := [(3, .sh), (4, .sh), (5, .sh), (6, (.acc true))]) (by kernel_rfl) (by kernel_rfl)))

noncomputable def laws_FnLoopStep_b (a0 : List Int) : Oc Empty Bool Empty Empty Empty :=
  match (cmp .gtr (lenI .byte a0) 1048576) with
  | true =>
    .r true
  | false =>
    match (cond (cond (cond (!(v_laws_lwItems (v_impl_LoopStep (v_spec_DrawLoopStep a0).1 (v_spec_DrawLoopStep a0).2.1 (v_spec_DrawLoopStep a0).2.2.1) (v_spec_LoopStep (v_spec_DrawLoopStep a0).1 (v_spec_DrawLoopStep a0).2.1 (v_spec_DrawLoopStep a0).2.2.1))) true (!(v_spec_SetOk (v_spec_DrawLoopStep a0).1))) true (!(v_spec_SetOk (v_spec_DrawLoopStep a0).2.1))) true (!(v_spec_SetOk (v_spec_DrawLoopStep a0).2.2.1))) with
    | true =>
      .r (v_laws_lwItems (v_impl_LoopStep (v_spec_DrawLoopStep a0).1 (v_spec_DrawLoopStep a0).2.1 (v_spec_DrawLoopStep a0).2.2.1) (v_spec_LoopStep (v_spec_DrawLoopStep a0).1 (v_spec_DrawLoopStep a0).2.1 (v_spec_DrawLoopStep a0).2.2.1))
    | false =>
      match (laws_FnLoopStep_c1 (v_spec_DrawLoopStep a0).1 (v_spec_DrawLoopStep a0).2.1 (v_spec_DrawLoopStep a0).2.2.1 (v_impl_LoopStep (v_spec_DrawLoopStep a0).1 (v_spec_DrawLoopStep a0).2.1 (v_spec_DrawLoopStep a0).2.2.1)) with
      | .n () =>
        .r (cond (v_impl_SetOk (v_impl_LoopStep (v_spec_DrawLoopStep a0).1 (v_spec_DrawLoopStep a0).2.1 (v_spec_DrawLoopStep a0).2.2.1)) (v_laws_lwItems (v_impl_LoopStep [] (v_spec_DrawLoopStep a0).2.1 (v_spec_DrawLoopStep a0).2.2.1) (v_impl_LoopStep (v_spec_DrawLoopStep a0).1 (v_spec_DrawLoopStep a0).2.1 [])) false)
      | .r q23 =>
        .r q23
      | .x q => q.elim
      | .y q => q.elim
      | .z q => q.elim
def laws_FnLoopStep_b_ob (a0 : List Int) : Prop :=
  ((True)) ∧
  ((True)) ∧
  ((cmp .gtr (lenI .byte a0) 1048576) = true →
    ((True)) ∧
    True) ∧ ((cmp .gtr (lenI .byte a0) 1048576) = false →
    (((p_spec_DrawLoopStep a0)) ∧ (True)) ∧
    (((p_impl_LoopStep (v_spec_DrawLoopStep a0).1 (v_spec_DrawLoopStep a0).2.1 (v_spec_DrawLoopStep a0).2.2.1)) ∧ (True)) ∧
    (((p_spec_LoopStep (v_spec_DrawLoopStep a0).1 (v_spec_DrawLoopStep a0).2.1 (v_spec_DrawLoopStep a0).2.2.1)) ∧ ((p_laws_lwItems (v_impl_LoopStep (v_spec_DrawLoopStep a0).1 (v_spec_DrawLoopStep a0).2.1 (v_spec_DrawLoopStep a0).2.2.1) (v_spec_LoopStep (v_spec_DrawLoopStep a0).1 (v_spec_DrawLoopStep a0).2.1 (v_spec_DrawLoopStep a0).2.2.1))) ∧ ((((!(!(v_laws_lwItems (v_impl_LoopStep (v_spec_DrawLoopStep a0).1 (v_spec_DrawLoopStep a0).2.1 (v_spec_DrawLoopStep a0).2.2.1) (v_spec_LoopStep (v_spec_DrawLoopStep a0).1 (v_spec_DrawLoopStep a0).2.1 (v_spec_DrawLoopStep a0).2.2.1)))) && true) = true → (p_spec_SetOk (v_spec_DrawLoopStep a0).1))) ∧ ((((!(cond (!(v_laws_lwItems (v_impl_LoopStep (v_spec_DrawLoopStep a0).1 (v_spec_DrawLoopStep a0).2.1 (v_spec_DrawLoopStep a0).2.2.1) (v_spec_LoopStep (v_spec_DrawLoopStep a0).1 (v_spec_DrawLoopStep a0).2.1 (v_spec_DrawLoopStep a0).2.2.1))) true (!(v_spec_SetOk (v_spec_DrawLoopStep a0).1)))) && true) = true → (p_spec_SetOk (v_spec_DrawLoopStep a0).2.1))) ∧ ((((!(cond (cond (!(v_laws_lwItems (v_impl_LoopStep (v_spec_DrawLoopStep a0).1 (v_spec_DrawLoopStep a0).2.1 (v_spec_DrawLoopStep a0).2.2.1) (v_spec_LoopStep (v_spec_DrawLoopStep a0).1 (v_spec_DrawLoopStep a0).2.1 (v_spec_DrawLoopStep a0).2.2.1))) true (!(v_spec_SetOk (v_spec_DrawLoopStep a0).1))) true (!(v_spec_SetOk (v_spec_DrawLoopStep a0).2.1)))) && true) = true → (p_spec_SetOk (v_spec_DrawLoopStep a0).2.2.1))) ∧ (True)) ∧
    ((cond (cond (cond (!(v_laws_lwItems (v_impl_LoopStep (v_spec_DrawLoopStep a0).1 (v_spec_DrawLoopStep a0).2.1 (v_spec_DrawLoopStep a0).2.2.1) (v_spec_LoopStep (v_spec_DrawLoopStep a0).1 (v_spec_DrawLoopStep a0).2.1 (v_spec_DrawLoopStep a0).2.2.1))) true (!(v_spec_SetOk (v_spec_DrawLoopStep a0).1))) true (!(v_spec_SetOk (v_spec_DrawLoopStep a0).2.1))) true (!(v_spec_SetOk (v_spec_DrawLoopStep a0).2.2.1))) = true →
      (((p_spec_LoopStep (v_spec_DrawLoopStep a0).1 (v_spec_DrawLoopStep a0).2.1 (v_spec_DrawLoopStep a0).2.2.1)) ∧ ((p_laws_lwItems (v_impl_LoopStep (v_spec_DrawLoopStep a0).1 (v_spec_DrawLoopStep a0).2.1 (v_spec_DrawLoopStep a0).2.2.1) (v_spec_LoopStep (v_spec_DrawLoopStep a0).1 (v_spec_DrawLoopStep a0).2.1 (v_spec_DrawLoopStep a0).2.2.1))) ∧ (True)) ∧
      True) ∧ ((cond (cond (cond (!(v_laws_lwItems (v_impl_LoopStep (v_spec_DrawLoopStep a0).1 (v_spec_DrawLoopStep a0).2.1 (v_spec_DrawLoopStep a0).2.2.1) (v_spec_LoopStep (v_spec_DrawLoopStep a0).1 (v_spec_DrawLoopStep a0).2.1 (v_spec_DrawLoopStep a0).2.2.1))) true (!(v_spec_SetOk (v_spec_DrawLoopStep a0).1))) true (!(v_spec_SetOk (v_spec_DrawLoopStep a0).2.1))) true (!(v_spec_SetOk (v_spec_DrawLoopStep a0).2.2.1))) = false →
      (laws_FnLoopStep_c1_ob (v_spec_DrawLoopStep a0).1 (v_spec_DrawLoopStep a0).2.1 (v_spec_DrawLoopStep a0).2.2.1 (v_impl_LoopStep (v_spec_DrawLoopStep a0).1 (v_spec_DrawLoopStep a0).2.1 (v_spec_DrawLoopStep a0).2.2.1)) ∧
      ((laws_FnLoopStep_c1 (v_spec_DrawLoopStep a0).1 (v_spec_DrawLoopStep a0).2.1 (v_spec_DrawLoopStep a0).2.2.1 (v_impl_LoopStep (v_spec_DrawLoopStep a0).1 (v_spec_DrawLoopStep a0).2.1 (v_spec_DrawLoopStep a0).2.2.1)) = .n () →
        (((p_impl_LoopStep [] (v_spec_DrawLoopStep a0).2.1 (v_spec_DrawLoopStep a0).2.2.1)) ∧ (True)) ∧
        (((p_impl_LoopStep (v_spec_DrawLoopStep a0).1 (v_spec_DrawLoopStep a0).2.1 [])) ∧ (True)) ∧
        (((p_impl_SetOk (v_impl_LoopStep (v_spec_DrawLoopStep a0).1 (v_spec_DrawLoopStep a0).2.1 (v_spec_DrawLoopStep a0).2.2.1))) ∧ ((((v_impl_SetOk (v_impl_LoopStep (v_spec_DrawLoopStep a0).1 (v_spec_DrawLoopStep a0).2.1 (v_spec_DrawLoopStep a0).2.2.1)) && true) = true → (p_laws_lwItems (v_impl_LoopStep [] (v_spec_DrawLoopStep a0).2.1 (v_spec_DrawLoopStep a0).2.2.1) (v_impl_LoopStep (v_spec_DrawLoopStep a0).1 (v_spec_DrawLoopStep a0).2.1 [])))) ∧ (True)) ∧
        True)))
set_option maxRecDepth 100000 in
theorem laws_FnLoopStep_b_ok (G : Good Try.prog tt sp_laws_FnLoopStep) {fr : Fr} (a0 : List Int) (hob : laws_FnLoopStep_b_ob a0) {n r : Env → Prop} {x : Nat → Env → Prop}
    (hr : ∀ q, (laws_FnLoopStep_b a0) = .r q → ∀ e, retAv tt e [.tmp 2] (.one .fr .bool) = some (RT.av (.one .fr .bool) q) → r e) :
    Ht Try.prog ⟨(Try.f7).ntmps, none, []⟩ fr (nav (bodyOf (Try.f7)) []) [(0, .v .sh (.lst .byte a0))] n r x := by
  unfold laws_FnLoopStep_b_ob at hob
  refine Ht.seq (c1 := (nav (bodyOf (Try.f7)) [0])) (c2 := (nav (bodyOf (Try.f7)) [1])) (by kernel_rfl) ?_
  refine Ht.reg G (keep := [0]) (e' := [(0, .v .sh (.lst .byte a0))]) (obs := []) (by kernel_rfl) hob.1 ?_
  refine Ht.seq (c1 := (nav (bodyOf (Try.f7)) [1, 0])) (c2 := (nav (bodyOf (Try.f7)) [1, 1])) (by kernel_rfl) ?_
  refine Ht.seq (c1 := (nav (bodyOf (Try.f7)) [1, 0, 0])) (c2 := (nav (bodyOf (Try.f7)) [1, 0, 1])) (by kernel_rfl) ?_
  refine Ht.reg G (keep := [0, 12]) (e' := [(0, .v .sh (.lst .byte a0)), (12, .v .fr (.bool (cmp .gtr (lenI .byte a0) 1048576)))]) (obs := []) (by kernel_rfl) hob.2.1 ?_
  refine Ht.cond (o := .tmp 12) (c1 := (nav (bodyOf (Try.f7)) [1, 0, 1, 0])) (c2 := (nav (bodyOf (Try.f7)) [1, 0, 1, 1])) (b := (cmp .gtr (lenI .byte a0) 1048576)) (by kernel_rfl) (by kernel_rfl) (fun h1 => ?_) (fun h1 => ?_)
  · have hb := hob.2.2.1 h1
    refine Ht.seq (c1 := (nav (bodyOf (Try.f7)) [1, 0, 1, 0, 0])) (c2 := (nav (bodyOf (Try.f7)) [1, 0, 1, 0, 1])) (by kernel_rfl) ?_
    refine Ht.reg G (keep := [2]) (e' := [(2, .v .fr (.bool true))]) (obs := []) (by kernel_rfl) hb.1 ?_
    refine Ht.ret (by kernel_rfl) ?_
    exact hr true (by simp only [laws_FnLoopStep_b, h1]) _ (by kernel_rfl)
  · have hb := hob.2.2.2 h1
    refine Ht.skip (by kernel_rfl) ?_
    refine Ht.seq (c1 := (nav (bodyOf (Try.f7)) [1, 1, 0])) (c2 := (nav (bodyOf (Try.f7)) [1, 1, 1])) (by kernel_rfl) ?_
    refine Ht.reg G (keep := [3, 4, 5]) (e' := [(3, .v .sh (.lst .item (v_spec_DrawLoopStep a0).1)), (4, .v .sh (.lst .item (v_spec_DrawLoopStep a0).2.1)), (5, .v .sh (.lst .item (v_spec_DrawLoopStep a0).2.2.1))]) (obs := [(p_spec_DrawLoopStep a0)]) (by kernel_rfl) hb.1 ?_
    refine Ht.seq (c1 := (nav (bodyOf (Try.f7)) [1, 1, 1, 0])) (c2 := (nav (bodyOf (Try.f7)) [1, 1, 1, 1])) (by kernel_rfl) ?_
    refine Ht.reg G (keep := [3, 4, 5, 6]) (e' := [(3, .v .sh (.lst .item (v_spec_DrawLoopStep a0).1)), (4, .v .sh (.lst .item (v_spec_DrawLoopStep a0).2.1)), (5, .v .sh (.lst .item (v_spec_DrawLoopStep a0).2.2.1)), (6, .v (.acc true) (.lst .item (v_impl_LoopStep (v_spec_DrawLoopStep a0).1 (v_spec_DrawLoopStep a0).2.1 (v_spec_DrawLoopStep a0).2.2.1)))]) (obs := [(p_impl_LoopStep (v_spec_DrawLoopStep a0).1 (v_spec_DrawLoopStep a0).2.1 (v_spec_DrawLoopStep a0).2.2.1)]) (by kernel_rfl) hb.2.1 ?_
    refine Ht.seq (c1 := (nav (bodyOf (Try.f7)) [1, 1, 1, 1, 0])) (c2 := (nav (bodyOf (Try.f7)) [1, 1, 1, 1, 1])) (by kernel_rfl) ?_
    refine Ht.seq (c1 := (nav (bodyOf (Try.f7)) [1, 1, 1, 1, 0, 0])) (c2 := (nav (bodyOf (Try.f7)) [1, 1, 1, 1, 0, 1])) (by kernel_rfl) ?_
    refine Ht.reg G (keep := [3, 4, 5, 6, 44]) (e' := [(3, .v .sh (.lst .item (v_spec_DrawLoopStep a0).1)), (4, .v .sh (.lst .item (v_spec_DrawLoopStep a0).2.1)), (5, .v .sh (.lst .item (v_spec_DrawLoopStep a0).2.2.1)), (6, .v (.acc true) (.lst .item (v_impl_LoopStep (v_spec_DrawLoopStep a0).1 (v_spec_DrawLoopStep a0).2.1 (v_spec_DrawLoopStep a0).2.2.1))), (44, .v .fr (.bool (cond (cond (cond (!(v_laws_lwItems (v_impl_LoopStep (v_spec_DrawLoopStep a0).1 (v_spec_DrawLoopStep a0).2.1 (v_spec_DrawLoopStep a0).2.2.1) (v_spec_LoopStep (v_spec_DrawLoopStep a0).1 (v_spec_DrawLoopStep a0).2.1 (v_spec_DrawLoopStep a0).2.2.1))) true (!(v_spec_SetOk (v_spec_DrawLoopStep a0).1))) true (!(v_spec_SetOk (v_spec_DrawLoopStep a0).2.1))) true (!(v_spec_SetOk (v_spec_DrawLoopStep a0).2.2.1)))))]) (obs := [(p_spec_LoopStep (v_spec_DrawLoopStep a0).1 (v_spec_DrawLoopStep a0).2.1 (v_spec_DrawLoopStep a0).2.2.1), (p_laws_lwItems (v_impl_LoopStep (v_spec_DrawLoopStep a0).1 (v_spec_DrawLoopStep a0).2.1 (v_spec_DrawLoopStep a0).2.2.1) (v_spec_LoopStep (v_spec_DrawLoopStep a0).1 (v_spec_DrawLoopStep a0).2.1 (v_spec_DrawLoopStep a0).2.2.1)), (((!(!(v_laws_lwItems (v_impl_LoopStep (v_spec_DrawLoopStep a0).1 (v_spec_DrawLoopStep a0).2.1 (v_spec_DrawLoopStep a0).2.2.1) (v_spec_LoopStep (v_spec_DrawLoopStep a0).1 (v_spec_DrawLoopStep a0).2.1 (v_spec_DrawLoopStep a0).2.2.1)))) && true) = true → (p_spec_SetOk (v_spec_DrawLoopStep a0).1)), (((!(cond (!(v_laws_lwItems (v_impl_LoopStep (v_spec_DrawLoopStep a0).1 (v_spec_DrawLoopStep a0).2.1 (v_spec_DrawLoopStep a0).2.2.1) (v_spec_LoopStep (v_spec_DrawLoopStep a0).1 (v_spec_DrawLoopStep a0).2.1 (v_spec_DrawLoopStep a0).2.2.1))) true (!(v_spec_SetOk (v_spec_DrawLoopStep a0).1)))) && true) = true → (p_spec_SetOk (v_spec_DrawLoopStep a0).2.1)), (((!(cond (cond (!(v_laws_lwItems (v_impl_LoopStep (v_spec_DrawLoopStep a0).1 (v_spec_DrawLoopStep a0).2.1 (v_spec_DrawLoopStep a0).2.2.1) (v_spec_LoopStep (v_spec_DrawLoopStep a0).1 (v_spec_DrawLoopStep a0).2.1 (v_spec_DrawLoopStep a0).2.2.1))) true (!(v_spec_SetOk (v_spec_DrawLoopStep a0).1))) true (!(v_spec_SetOk (v_spec_DrawLoopStep a0).2.1)))) && true) = true → (p_spec_SetOk (v_spec_DrawLoopStep a0).2.2.1))]) (by kernel_rfl) hb.2.2.1 ?_
    refine Ht.cond (o := .tmp 44) (c1 := (nav (bodyOf (Try.f7)) [1, 1, 1, 1, 0, 1, 0])) (c2 := (nav (bodyOf (Try.f7)) [1, 1, 1, 1, 0, 1, 1])) (b := (cond (cond (cond (!(v_laws_lwItems (v_impl_LoopStep (v_spec_DrawLoopStep a0).1 (v_spec_DrawLoopStep a0).2.1 (v_spec_DrawLoopStep a0).2.2.1) (v_spec_LoopStep (v_spec_DrawLoopStep a0).1 (v_spec_DrawLoopStep a0).2.1 (v_spec_DrawLoopStep a0).2.2.1))) true (!(v_spec_SetOk (v_spec_DrawLoopStep a0).1))) true (!(v_spec_SetOk (v_spec_DrawLoopStep a0).2.1))) true (!(v_spec_SetOk (v_spec_DrawLoopStep a0).2.2.1)))) (by kernel_rfl) (by kernel_rfl) (fun h2 => ?_) (fun h2 => ?_)
    · have hb := hb.2.2.2.1 h2
      refine Ht.seq (c1 := (nav (bodyOf (Try.f7)) [1, 1, 1, 1, 0, 1, 0, 0])) (c2 := (nav (bodyOf (Try.f7)) [1, 1, 1, 1, 0, 1, 0, 1])) (by kernel_rfl) ?_
      refine Ht.reg G (keep := [2]) (e' := [(2, .v .fr (.bool (v_laws_lwItems (v_impl_LoopStep (v_spec_DrawLoopStep a0).1 (v_spec_DrawLoopStep a0).2.1 (v_spec_DrawLoopStep a0).2.2.1) (v_spec_LoopStep (v_spec_DrawLoopStep a0).1 (v_spec_DrawLoopStep a0).2.1 (v_spec_DrawLoopStep a0).2.2.1))))]) (obs := [(p_spec_LoopStep (v_spec_DrawLoopStep a0).1 (v_spec_DrawLoopStep a0).2.1 (v_spec_DrawLoopStep a0).2.2.1), (p_laws_lwItems (v_impl_LoopStep (v_spec_DrawLoopStep a0).1 (v_spec_DrawLoopStep a0).2.1 (v_spec_DrawLoopStep a0).2.2.1) (v_spec_LoopStep (v_spec_DrawLoopStep a0).1 (v_spec_DrawLoopStep a0).2.1 (v_spec_DrawLoopStep a0).2.2.1))]) (by kernel_rfl) hb.1 ?_
      refine Ht.ret (by kernel_rfl) ?_
      exact hr (v_laws_lwItems (v_impl_LoopStep (v_spec_DrawLoopStep a0).1 (v_spec_DrawLoopStep a0).2.1 (v_spec_DrawLoopStep a0).2.2.1) (v_spec_LoopStep (v_spec_DrawLoopStep a0).1 (v_spec_DrawLoopStep a0).2.1 (v_spec_DrawLoopStep a0).2.2.1)) (by simp only [laws_FnLoopStep_b, h1, h2]) _ (by kernel_rfl)
    · have hb := hb.2.2.2.2 h2
      refine Ht.skip (by kernel_rfl) ?_
      refine Ht.seq (c1 := (nav (bodyOf (Try.f7)) [1, 1, 1, 1, 1, 0])) (c2 := (nav (bodyOf (Try.f7)) [1, 1, 1, 1, 1, 1])) (by kernel_rfl) ?_
      refine Ht.weak (e' := [(3, .v .sh (.lst .item (v_spec_DrawLoopStep a0).1)), (4, .v .sh (.lst .item (v_spec_DrawLoopStep a0).2.1)), (5, .v .sh (.lst .item (v_spec_DrawLoopStep a0).2.2.1)), (6, .v (.acc true) (.lst .item (v_impl_LoopStep (v_spec_DrawLoopStep a0).1 (v_spec_DrawLoopStep a0).2.1 (v_spec_DrawLoopStep a0).2.2.1)))]) (Weak.cast (pat := [(3, .same), (4, .same), (5, .same), (6, .same)]) (by kernel_rfl) (by kernel_rfl)) ?_
      refine laws_FnLoopStep_c1_ok G (v_spec_DrawLoopStep a0).1 (v_spec_DrawLoopStep a0).2.1 (v_spec_DrawLoopStep a0).2.2.1 (v_impl_LoopStep (v_spec_DrawLoopStep a0).1 (v_spec_DrawLoopStep a0).2.1 (v_spec_DrawLoopStep a0).2.2.1) hb.1 (fun h22 e hw => ?_) (fun q h24 e he => hr q (by simp only [laws_FnLoopStep_b, h1, h2, h24]) e he)
      · have hb := hb.2 h22
        refine Ht.weak hw ?_
        refine Ht.seq (c1 := (nav (bodyOf (Try.f7)) [1, 1, 1, 1, 1, 1, 0])) (c2 := (nav (bodyOf (Try.f7)) [1, 1, 1, 1, 1, 1, 1])) (by kernel_rfl) ?_
        refine Ht.reg G (keep := [3, 4, 6, 8]) (e' := [(3, .v .sh (.lst .item (v_spec_DrawLoopStep a0).1)), (4, .v .sh (.lst .item (v_spec_DrawLoopStep a0).2.1)), (6, .v (.acc true) (.lst .item (v_impl_LoopStep (v_spec_DrawLoopStep a0).1 (v_spec_DrawLoopStep a0).2.1 (v_spec_DrawLoopStep a0).2.2.1))), (8, .v (.acc true) (.lst .item (v_impl_LoopStep [] (v_spec_DrawLoopStep a0).2.1 (v_spec_DrawLoopStep a0).2.2.1)))]) (obs := [(p_impl_LoopStep [] (v_spec_DrawLoopStep a0).2.1 (v_spec_DrawLoopStep a0).2.2.1)]) (by kernel_rfl) hb.1 ?_
        refine Ht.seq (c1 := (nav (bodyOf (Try.f7)) [1, 1, 1, 1, 1, 1, 1, 0])) (c2 := (nav (bodyOf (Try.f7)) [1, 1, 1, 1, 1, 1, 1, 1])) (by kernel_rfl) ?_
        refine Ht.reg G (keep := [6, 8, 9]) (e' := [(6, .v (.acc true) (.lst .item (v_impl_LoopStep (v_spec_DrawLoopStep a0).1 (v_spec_DrawLoopStep a0).2.1 (v_spec_DrawLoopStep a0).2.2.1))), (8, .v (.acc true) (.lst .item (v_impl_LoopStep [] (v_spec_DrawLoopStep a0).2.1 (v_spec_DrawLoopStep a0).2.2.1))), (9, .v (.acc true) (.lst .item (v_impl_LoopStep (v_spec_DrawLoopStep a0).1 (v_spec_DrawLoopStep a0).2.1 [])))]) (obs := [(p_impl_LoopStep (v_spec_DrawLoopStep a0).1 (v_spec_DrawLoopStep a0).2.1 [])]) (by kernel_rfl) hb.2.1 ?_
        refine Ht.seq (c1 := (nav (bodyOf (Try.f7)) [1, 1, 1, 1, 1, 1, 1, 1, 0])) (c2 := (nav (bodyOf (Try.f7)) [1, 1, 1, 1, 1, 1, 1, 1, 1])) (by kernel_rfl) ?_
        refine Ht.reg G (keep := [2]) (e' := [(2, .v .fr (.bool (cond (v_impl_SetOk (v_impl_LoopStep (v_spec_DrawLoopStep a0).1 (v_spec_DrawLoopStep a0).2.1 (v_spec_DrawLoopStep a0).2.2.1)) (v_laws_lwItems (v_impl_LoopStep [] (v_spec_DrawLoopStep a0).2.1 (v_spec_DrawLoopStep a0).2.2.1) (v_impl_LoopStep (v_spec_DrawLoopStep a0).1 (v_spec_DrawLoopStep a0).2.1 [])) false)))]) (obs := [(p_impl_SetOk (v_impl_LoopStep (v_spec_DrawLoopStep a0).1 (v_spec_DrawLoopStep a0).2.1 (v_spec_DrawLoopStep a0).2.2.1)), (((v_impl_SetOk (v_impl_LoopStep (v_spec_DrawLoopStep a0).1 (v_spec_DrawLoopStep a0).2.1 (v_spec_DrawLoopStep a0).2.2.1)) && true) = true → (p_laws_lwItems (v_impl_LoopStep [] (v_spec_DrawLoopStep a0).2.1 (v_spec_DrawLoopStep a0).2.2.1) (v_impl_LoopStep (v_spec_DrawLoopStep a0).1 (v_spec_DrawLoopStep a0).2.1 [])))]) (by kernel_rfl) hb.2.2.1 ?_
        refine Ht.ret (by kernel_rfl) ?_
        exact hr (cond (v_impl_SetOk (v_impl_LoopStep (v_spec_DrawLoopStep a0).1 (v_spec_DrawLoopStep a0).2.1 (v_spec_DrawLoopStep a0).2.2.1)) (v_laws_lwItems (v_impl_LoopStep [] (v_spec_DrawLoopStep a0).2.1 (v_spec_DrawLoopStep a0).2.2.1) (v_impl_LoopStep (v_spec_DrawLoopStep a0).1 (v_spec_DrawLoopStep a0).2.1 [])) false) (by simp only [laws_FnLoopStep_b, h1, h2, h22]) _ (by kernel_rfl)

noncomputable def v_laws_FnLoopStep (a0 : List Int) : Bool := ocR (laws_FnLoopStep_b a0)
def p_laws_FnLoopStep (a0 : List Int) : Prop := laws_FnLoopStep_b_ob a0
noncomputable def s_laws_FnLoopStep : Spec := ⟨[(.lst .byte)], .one .fr .bool, false, fun x => (v_laws_FnLoopStep x.1, 0), fun x => p_laws_FnLoopStep x.1⟩
theorem con_laws_FnLoopStep (G : Good Try.prog tt sp_laws_FnLoopStep) : Con Try.prog 7 s_laws_FnLoopStep :=
  con_of G.htt (fn := Try.f7) (c := bodyOf Try.f7) (by kernel_rfl) (by kernel_rfl) (by kernel_rfl) (rs := [.tmp 2]) (by kernel_rfl) (by kernel_rfl) (fun _ => rfl) fun x hp fr _ _ _ =>
    laws_FnLoopStep_b_ok G (fr := fr) x.1 hp
      (fun q h e he => ⟨by rw [show (s_laws_FnLoopStep.val x).1 = q from congrArg ocR h]; exact he, trivial⟩)

noncomputable def sp_spec_DrawLoopSet : SP := [(94, s_spec_l6Open), (98, s_spec_l6Rd_pick), (95, s_spec_l71Set)]
noncomputable def spec_DrawLoopSet_c1 (x1 : List Int) (x2 : Int) (x3 : Int) : Oc (Int × Int) ((List Item) × (List Item) × Int × Unit) Empty Empty Empty :=
  match (cmp .eql (v_spec_l6Rd_pick (x1, x2) 20).1 0) with
  | true =>
    .n ((v_spec_l6Rd_pick (x1, (v_spec_l6Rd_pick (x1, x2) 20).2) 2).2, (rd .int [(-1), 7] (v_spec_l6Rd_pick (x1, (v_spec_l6Rd_pick (x1, x2) 20).2) 2).1))
  | false =>
    .n ((v_spec_l6Rd_pick (x1, x2) 20).2, x3)
def spec_DrawLoopSet_c1_ob (x1 : List Int) (x2 : Int) (_x3 : Int) : Prop :=
  (((p_spec_l6Rd_pick (x1, x2) 20)) ∧ (True)) ∧
  ((cmp .eql (v_spec_l6Rd_pick (x1, x2) 20).1 0) = true →
    (((p_spec_l6Rd_pick (x1, (v_spec_l6Rd_pick (x1, x2) 20).2) 2)) ∧ (inb (v_spec_l6Rd_pick (x1, (v_spec_l6Rd_pick (x1, x2) 20).2) 2).1 (lenI .int [(-1), 7])) ∧ (True)) ∧
    True) ∧ ((cmp .eql (v_spec_l6Rd_pick (x1, x2) 20).1 0) = false →
    True)
set_option maxRecDepth 100000 in
theorem spec_DrawLoopSet_c1_ok (G : Good Try.prog tt sp_spec_DrawLoopSet) {fr : Fr} (x1 : List Int) (x2 : Int) (x3 : Int) (hob : spec_DrawLoopSet_c1_ob x1 x2 x3) {n r : Env → Prop} {x : Nat → Env → Prop}
    (hn : ∀ (q5 : Int) (q6 : Int), (spec_DrawLoopSet_c1 x1 x2 x3) = .n (q5, q6) → ∀ e, Weak e [(5, .box [(.sh, .lst .byte x1), (.fr, .int .i64 q5)]), (6, .v .fr (.int .i64 q6))] → n e)
    (_hr : ∀ q, (spec_DrawLoopSet_c1 x1 x2 x3) = .r q → ∀ e, retAv tt e [.tmp 2, .tmp 3, .tmp 4] (.tup [(false, (.lst .item)), (false, (.lst .item)), (true, (.int .i64))]) = some (RT.av (.tup [(false, (.lst .item)), (false, (.lst .item)), (true, (.int .i64))]) q) → r e) :
    Ht Try.prog ⟨(Try.f48).ntmps, none, []⟩ fr (nav (bodyOf (Try.f48)) [1, 1, 1, 0]) [(5, .box [(.sh, .lst .byte x1), (.fr, .int .i64 x2)]), (6, .v .fr (.int .i64 x3))] n r x := by
  unfold spec_DrawLoopSet_c1_ob at hob
  refine Ht.seq (c1 := (nav (bodyOf (Try.f48)) [1, 1, 1, 0, 0])) (c2 := (nav (bodyOf (Try.f48)) [1, 1, 1, 0, 1])) (by kernel_rfl) ?_
  refine Ht.reg G (keep := [5, 6, 13]) (e' := [(5, .box [(.sh, .lst .byte x1), (.fr, .int .i64 (v_spec_l6Rd_pick (x1, x2) 20).2)]), (6, .v .fr (.int .i64 x3)), (13, .v .fr (.bool (cmp .eql (v_spec_l6Rd_pick (x1, x2) 20).1 0)))]) (obs := [(p_spec_l6Rd_pick (x1, x2) 20)]) (by kernel_rfl) hob.1 ?_
  refine Ht.cond (o := .tmp 13) (c1 := (nav (bodyOf (Try.f48)) [1, 1, 1, 0, 1, 0])) (c2 := (nav (bodyOf (Try.f48)) [1, 1, 1, 0, 1, 1])) (b := (cmp .eql (v_spec_l6Rd_pick (x1, x2) 20).1 0)) (by kernel_rfl) (by kernel_rfl) (fun h4 => ?_) (fun h4 => ?_)
  · have hb := hob.2.1 h4
    refine Ht.reg G (keep := [5, 6]) (e' := [(5, .box [(.sh, .lst .byte x1), (.fr, .int .i64 (v_spec_l6Rd_pick (x1, (v_spec_l6Rd_pick (x1, x2) 20).2) 2).2)]), (6, .v .fr (.int .i64 (rd .int [(-1), 7] (v_spec_l6Rd_pick (x1, (v_spec_l6Rd_pick (x1, x2) 20).2) 2).1)))]) (obs := [(p_spec_l6Rd_pick (x1, (v_spec_l6Rd_pick (x1, x2) 20).2) 2), inb (v_spec_l6Rd_pick (x1, (v_spec_l6Rd_pick (x1, x2) 20).2) 2).1 (lenI .int [(-1), 7])]) (by kernel_rfl) hb.1 ?_
    exact hn (v_spec_l6Rd_pick (x1, (v_spec_l6Rd_pick (x1, x2) 20).2) 2).2 (rd .int [(-1), 7] (v_spec_l6Rd_pick (x1, (v_spec_l6Rd_pick (x1, x2) 20).2) 2).1) (by simp only [spec_DrawLoopSet_c1, h4]) _ (Weak.cast (pat := [(5, .same), (6, .fr)]) (by kernel_rfl) (by kernel_rfl))
  · have hb := hob.2.2 h4
    refine Ht.skip (by kernel_rfl) ?_
    exact hn (v_spec_l6Rd_pick (x1, x2) 20).2 x3 (by simp only [spec_DrawLoopSet_c1, h4]) _ (Weak.cast (pat := [(5, .same), (6, .fr)]) (by kernel_rfl) (by kernel_rfl))

noncomputable def spec_DrawLoopSet_b (a0 : List Int) : Oc Empty ((List Item) × (List Item) × Int × Unit) Empty Empty Empty :=
  match (spec_DrawLoopSet_c1 (v_spec_l6Open a0).1 (v_spec_l6Rd_pick ((v_spec_l6Open a0).1, (v_spec_l6Open a0).2) 7).2 (v_spec_l6Rd_pick ((v_spec_l6Open a0).1, (v_spec_l6Open a0).2) 7).1) with
  | .n (q7, q8) =>
    .r ((v_spec_l71Set ((v_spec_l6Open a0).1, q7)).1, ((v_spec_l71Set ((v_spec_l6Open a0).1, (v_spec_l71Set ((v_spec_l6Open a0).1, q7)).2)).1, (q8, ())))
  | .r q10 =>
    .r q10
  | .x q => q.elim
  | .y q => q.elim
  | .z q => q.elim
def spec_DrawLoopSet_b_ob (a0 : List Int) : Prop :=
  ((True)) ∧
  (((p_spec_l6Open a0)) ∧ (True)) ∧
  (((p_spec_l6Rd_pick ((v_spec_l6Open a0).1, (v_spec_l6Open a0).2) 7)) ∧ (True)) ∧
  (spec_DrawLoopSet_c1_ob (v_spec_l6Open a0).1 (v_spec_l6Rd_pick ((v_spec_l6Open a0).1, (v_spec_l6Open a0).2) 7).2 (v_spec_l6Rd_pick ((v_spec_l6Open a0).1, (v_spec_l6Open a0).2) 7).1) ∧
  (∀ (q7 : Int) (q8 : Int), (spec_DrawLoopSet_c1 (v_spec_l6Open a0).1 (v_spec_l6Rd_pick ((v_spec_l6Open a0).1, (v_spec_l6Open a0).2) 7).2 (v_spec_l6Rd_pick ((v_spec_l6Open a0).1, (v_spec_l6Open a0).2) 7).1) = .n (q7, q8) →
    (((p_spec_l71Set ((v_spec_l6Open a0).1, q7))) ∧ ((p_spec_l71Set ((v_spec_l6Open a0).1, (v_spec_l71Set ((v_spec_l6Open a0).1, q7)).2))) ∧ (True)) ∧
    True)
set_option maxRecDepth 100000 in
theorem spec_DrawLoopSet_b_ok (G : Good Try.prog tt sp_spec_DrawLoopSet) {fr : Fr} (a0 : List Int) (hob : spec_DrawLoopSet_b_ob a0) {n r : Env → Prop} {x : Nat → Env → Prop}
    (hr : ∀ q, (spec_DrawLoopSet_b a0) = .r q → ∀ e, retAv tt e [.tmp 2, .tmp 3, .tmp 4] (.tup [(false, (.lst .item)), (false, (.lst .item)), (true, (.int .i64))]) = some (RT.av (.tup [(false, (.lst .item)), (false, (.lst .item)), (true, (.int .i64))]) q) → r e) :
    Ht Try.prog ⟨(Try.f48).ntmps, none, []⟩ fr (nav (bodyOf (Try.f48)) []) [(0, .v .sh (.lst .byte a0))] n r x := by
  unfold spec_DrawLoopSet_b_ob at hob
  refine Ht.seq (c1 := (nav (bodyOf (Try.f48)) [0])) (c2 := (nav (bodyOf (Try.f48)) [1])) (by kernel_rfl) ?_
  refine Ht.reg G (keep := [0]) (e' := [(0, .v .sh (.lst .byte a0))]) (obs := []) (by kernel_rfl) hob.1 ?_
  refine Ht.seq (c1 := (nav (bodyOf (Try.f48)) [1, 0])) (c2 := (nav (bodyOf (Try.f48)) [1, 1])) (by kernel_rfl) ?_
  refine Ht.reg G (keep := [5]) (e' := [(5, .box [(.sh, .lst .byte (v_spec_l6Open a0).1), (.fr, .int .i64 (v_spec_l6Open a0).2)])]) (obs := [(p_spec_l6Open a0)]) (by kernel_rfl) hob.2.1 ?_
  refine Ht.seq (c1 := (nav (bodyOf (Try.f48)) [1, 1, 0])) (c2 := (nav (bodyOf (Try.f48)) [1, 1, 1])) (by kernel_rfl) ?_
  refine Ht.reg G (keep := [5, 6]) (e' := [(5, .box [(.sh, .lst .byte (v_spec_l6Open a0).1), (.fr, .int .i64 (v_spec_l6Rd_pick ((v_spec_l6Open a0).1, (v_spec_l6Open a0).2) 7).2)]), (6, .v .fr (.int .i64 (v_spec_l6Rd_pick ((v_spec_l6Open a0).1, (v_spec_l6Open a0).2) 7).1))]) (obs := [(p_spec_l6Rd_pick ((v_spec_l6Open a0).1, (v_spec_l6Open a0).2) 7)]) (by kernel_rfl) hob.2.2.1 ?_
  refine Ht.seq (c1 := (nav (bodyOf (Try.f48)) [1, 1, 1, 0])) (c2 := (nav (bodyOf (Try.f48)) [1, 1, 1, 1])) (by kernel_rfl) ?_
  refine Ht.weak (e' := [(5, .box [(.sh, .lst .byte (v_spec_l6Open a0).1), (.fr, .int .i64 (v_spec_l6Rd_pick ((v_spec_l6Open a0).1, (v_spec_l6Open a0).2) 7).2)]), (6, .v .fr (.int .i64 (v_spec_l6Rd_pick ((v_spec_l6Open a0).1, (v_spec_l6Open a0).2) 7).1))]) (Weak.cast (pat := [(5, .same), (6, .same)]) (by kernel_rfl) (by kernel_rfl)) ?_
  refine spec_DrawLoopSet_c1_ok G (v_spec_l6Open a0).1 (v_spec_l6Rd_pick ((v_spec_l6Open a0).1, (v_spec_l6Open a0).2) 7).2 (v_spec_l6Rd_pick ((v_spec_l6Open a0).1, (v_spec_l6Open a0).2) 7).1 hob.2.2.2.1 (fun q7 q8 h9 e hw => ?_) (fun q h11 e he => hr q (by simp only [spec_DrawLoopSet_b, h11]) e he)
  · have hb := hob.2.2.2.2 q7 q8 h9
    refine Ht.weak hw ?_
    refine Ht.seq (c1 := (nav (bodyOf (Try.f48)) [1, 1, 1, 1, 0])) (c2 := (nav (bodyOf (Try.f48)) [1, 1, 1, 1, 1])) (by kernel_rfl) ?_
    refine Ht.reg G (keep := [2, 3, 4]) (e' := [(2, .v (.acc true) (.lst .item (v_spec_l71Set ((v_spec_l6Open a0).1, q7)).1)), (3, .v (.acc true) (.lst .item (v_spec_l71Set ((v_spec_l6Open a0).1, (v_spec_l71Set ((v_spec_l6Open a0).1, q7)).2)).1)), (4, .v .fr (.int .i64 q8))]) (obs := [(p_spec_l71Set ((v_spec_l6Open a0).1, q7)), (p_spec_l71Set ((v_spec_l6Open a0).1, (v_spec_l71Set ((v_spec_l6Open a0).1, q7)).2))]) (by kernel_rfl) hb.1 ?_
    refine Ht.ret (by kernel_rfl) ?_
    exact hr ((v_spec_l71Set ((v_spec_l6Open a0).1, q7)).1, ((v_spec_l71Set ((v_spec_l6Open a0).1, (v_spec_l71Set ((v_spec_l6Open a0).1, q7)).2)).1, (q8, ()))) (by simp only [spec_DrawLoopSet_b, h9]) _ (by kernel_rfl)

noncomputable def v_spec_DrawLoopSet (a0 : List Int) : (List Item) × (List Item) × Int × Unit := ocR (spec_DrawLoopSet_b a0)
def p_spec_DrawLoopSet (a0 : List Int) : Prop := spec_DrawLoopSet_b_ob a0
noncomputable def s_spec_DrawLoopSet : Spec := ⟨[(.lst .byte)], .tup [(false, (.lst .item)), (false, (.lst .item)), (true, (.int .i64))], false, fun x => (v_spec_DrawLoopSet x.1, 0), fun x => p_spec_DrawLoopSet x.1⟩
theorem con_spec_DrawLoopSet (G : Good Try.prog tt sp_spec_DrawLoopSet) : Con Try.prog 48 s_spec_DrawLoopSet :=
  con_of G.htt (fn := Try.f48) (c := bodyOf Try.f48) (by kernel_rfl) (by kernel_rfl) (by kernel_rfl) (rs := [.tmp 2, .tmp 3, .tmp 4]) (by kernel_rfl) (by kernel_rfl) (fun _ => rfl) fun x hp fr _ _ _ =>
    spec_DrawLoopSet_b_ok G (fr := fr) x.1 hp
      (fun q h e he => ⟨by rw [show (s_spec_DrawLoopSet.val x).1 = q from congrArg ocR h]; exact he, trivial⟩)

noncomputable def sp_impl_LoopSet : SP := [(47, s_impl_SetOk), (85, s_impl_loopStep)]
noncomputable def impl_LoopSet_c2_r (x5 : List Item) (x6 : List Item) (x7 : Int) (s11 : List Item) (s12 : Int) : Oc ((List Item) × Int) (List Item) ((List Item)) Empty Empty :=
  match (cmp .lss s12 x7) with
  | true =>
    .n ((v_impl_loopStep x5 x6 s11), (ar .add .i64 s12 1))
  | false =>
    .x s11
def impl_LoopSet_c2_r_ob (x5 : List Item) (x6 : List Item) (x7 : Int) (s11 : List Item) (s12 : Int) : Prop :=
  ((True)) ∧
  ((cmp .lss s12 x7) = true →
    (((p_impl_loopStep x5 x6 s11)) ∧ (True)) ∧
    ((True)) ∧
    True) ∧ ((cmp .lss s12 x7) = false →
    True)
set_option maxRecDepth 100000 in
theorem impl_LoopSet_c2_r_ok (G : Good Try.prog tt sp_impl_LoopSet) {fr : Fr} (x5 : List Item) (x6 : List Item) (x7 : Int) (s11 : List Item) (s12 : Int) (hob : impl_LoopSet_c2_r_ob x5 x6 x7 s11 s12) {n r : Env → Prop} {x : Nat → Env → Prop}
    (hn : ∀ (q17 : List Item) (q18 : Int), (impl_LoopSet_c2_r x5 x6 x7 s11 s12) = .n (q17, q18) → ∀ e, Weak e [(0, .v .sh (.lst .item x5)), (1, .v .sh (.lst .item x6)), (2, .v .fr (.int .i64 x7)), (7, .v (.acc true) (.lst .item q17)), (8, .v .fr (.int .i64 q18))] → n e)
    (_hr : ∀ q, (impl_LoopSet_c2_r x5 x6 x7 s11 s12) = .r q → ∀ e, retAv tt e [.tmp 6] (.one .fr (.lst .item)) = some (RT.av (.one .fr (.lst .item)) q) → r e)
    (hx : ∀ (q16 : List Item), (impl_LoopSet_c2_r x5 x6 x7 s11 s12) = .x q16 → ∀ e, Weak e [(7, .v (.acc true) (.lst .item q16))] → x 0 e) :
    Ht Try.prog ⟨(Try.f43).ntmps, none, []⟩ fr (nav (bodyOf (Try.f43)) [1, 1, 1, 0, 1, 0, 0]) [(0, .v .sh (.lst .item x5)), (1, .v .sh (.lst .item x6)), (2, .v .fr (.int .i64 x7)), (7, .v (.acc true) (.lst .item s11)), (8, .v .fr (.int .i64 s12))] n r x := by
  unfold impl_LoopSet_c2_r_ob at hob
  refine Ht.seq (c1 := (nav (bodyOf (Try.f43)) [1, 1, 1, 0, 1, 0, 0, 0])) (c2 := (nav (bodyOf (Try.f43)) [1, 1, 1, 0, 1, 0, 0, 1])) (by kernel_rfl) ?_
  refine Ht.seq (c1 := (nav (bodyOf (Try.f43)) [1, 1, 1, 0, 1, 0, 0, 0, 0])) (c2 := (nav (bodyOf (Try.f43)) [1, 1, 1, 0, 1, 0, 0, 0, 1])) (by kernel_rfl) ?_
  refine Ht.reg G (keep := [0, 1, 2, 7, 8, 28]) (e' := [(0, .v .sh (.lst .item x5)), (1, .v .sh (.lst .item x6)), (2, .v .fr (.int .i64 x7)), (7, .v (.acc true) (.lst .item s11)), (8, .v .fr (.int .i64 s12)), (28, .v .fr (.bool (cmp .lss s12 x7)))]) (obs := []) (by kernel_rfl) hob.1 ?_
  refine Ht.cond (o := .tmp 28) (c1 := (nav (bodyOf (Try.f43)) [1, 1, 1, 0, 1, 0, 0, 0, 1, 0])) (c2 := (nav (bodyOf (Try.f43)) [1, 1, 1, 0, 1, 0, 0, 0, 1, 1])) (b := (cmp .lss s12 x7)) (by kernel_rfl) (by kernel_rfl) (fun h13 => ?_) (fun h13 => ?_)
  · have hb := hob.2.1 h13
    refine Ht.skip (by kernel_rfl) ?_
    refine Ht.seq (c1 := (nav (bodyOf (Try.f43)) [1, 1, 1, 0, 1, 0, 0, 1, 0])) (c2 := (nav (bodyOf (Try.f43)) [1, 1, 1, 0, 1, 0, 0, 1, 1])) (by kernel_rfl) ?_
    refine Ht.block (id := 1) (c1 := (nav (bodyOf (Try.f43)) [1, 1, 1, 0, 1, 0, 0, 1, 0, 0])) (by kernel_rfl) ?_
    refine Ht.reg G (keep := [0, 1, 2, 7, 8]) (e' := [(0, .v .sh (.lst .item x5)), (1, .v .sh (.lst .item x6)), (2, .v .fr (.int .i64 x7)), (7, .v (.acc true) (.lst .item (v_impl_loopStep x5 x6 s11))), (8, .v .fr (.int .i64 s12))]) (obs := [(p_impl_loopStep x5 x6 s11)]) (by kernel_rfl) hb.1 ?_
    refine Ht.reg G (keep := [0, 1, 2, 7, 8]) (e' := [(0, .v .sh (.lst .item x5)), (1, .v .sh (.lst .item x6)), (2, .v .fr (.int .i64 x7)), (7, .v (.acc true) (.lst .item (v_impl_loopStep x5 x6 s11))), (8, .v .fr (.int .i64 (ar .add .i64 s12 1)))]) (obs := []) (by kernel_rfl) hb.2.1 ?_
    exact hn (v_impl_loopStep x5 x6 s11) (ar .add .i64 s12 1) (by simp only [impl_LoopSet_c2_r, h13]) _ (Weak.cast (pat := [(0, .sh), (1, .sh), (2, .fr), (7, (.acc true)), (8, .fr)]) (by kernel_rfl) (by kernel_rfl))
  · have hb := hob.2.2 h13
    refine Ht.exit (i := 0) (by kernel_rfl) ?_
    exact hx s11 (by simp only [impl_LoopSet_c2_r, h13]) _ (Weak.cast (pat := [(7, (.acc true))]) (by kernel_rfl) (by kernel_rfl))

noncomputable def impl_LoopSet_c2 (x5 : List Item) (x6 : List Item) (x7 : Int) : Oc Empty (List Item) ((List Item)) Empty Empty := lpV (fun s => ocLp ((fun (s : (List Item) × Int) => impl_LoopSet_c2_r x5 x6 x7 s.1 s.2) s)) ([], 0)
def impl_LoopSet_c2_ob (x5 : List Item) (x6 : List Item) (x7 : Int) : Prop := LpT (fun s => ocLp ((fun (s : (List Item) × Int) => impl_LoopSet_c2_r x5 x6 x7 s.1 s.2) s)) (fun s => impl_LoopSet_c2_r_ob x5 x6 x7 s.1 s.2) ([], 0)
set_option maxRecDepth 100000 in
theorem impl_LoopSet_c2_ok (G : Good Try.prog tt sp_impl_LoopSet) {fr : Fr} (x5 : List Item) (x6 : List Item) (x7 : Int) (hob : impl_LoopSet_c2_ob x5 x6 x7) {n r : Env → Prop} {x : Nat → Env → Prop}
    (hr : ∀ q, (impl_LoopSet_c2 x5 x6 x7) = .r q → ∀ e, retAv tt e [.tmp 6] (.one .fr (.lst .item)) = some (RT.av (.one .fr (.lst .item)) q) → r e)
    (hx : ∀ (q16 : List Item), (impl_LoopSet_c2 x5 x6 x7) = .x q16 → ∀ e, Weak e [(7, .v (.acc true) (.lst .item q16))] → x 0 e) :
    Ht Try.prog ⟨(Try.f43).ntmps, none, []⟩ fr (nav (bodyOf (Try.f43)) [1, 1, 1, 0, 1, 0]) [(0, .v .sh (.lst .item x5)), (1, .v .sh (.lst .item x6)), (2, .v .fr (.int .i64 x7)), (7, .v (.acc true) (.lst .item [])), (8, .v .fr (.int .i64 0))] n r x := by
  unfold impl_LoopSet_c2_ob at hob
  refine Ht.weak (e' := (fun (s : (List Item) × Int) => [(0, .v .sh (.lst .item x5)), (1, .v .sh (.lst .item x6)), (2, .v .fr (.int .i64 x7)), (7, .v (.acc true) (.lst .item s.1)), (8, .v .fr (.int .i64 s.2))]) ([], 0)) (Weak.cast (pat := [(0, .sh), (1, .sh), (2, .fr), (7, (.acc true)), (8, .fr)]) (by kernel_rfl) (by kernel_rfl)) ?_
  refine Ht.loopOc (c1 := (nav (bodyOf (Try.f43)) [1, 1, 1, 0, 1, 0, 0])) (by kernel_rfl) (fun (s : (List Item) × Int) => [(0, .v .sh (.lst .item x5)), (1, .v .sh (.lst .item x6)), (2, .v .fr (.int .i64 x7)), (7, .v (.acc true) (.lst .item s.1)), (8, .v .fr (.int .i64 s.2))]) (fun (s : (List Item) × Int) => impl_LoopSet_c2_r x5 x6 x7 s.1 s.2) hob (RP := fun q e => retAv tt e [.tmp 6] (.one .fr (.lst .item)) = some (RT.av (.one .fr (.lst .item)) q)) (XP := (fun i q e => i = 0 ∧ Weak e [(7, .v (.acc true) (.lst .item q))])) (YP := (fun _ _ _ => False)) (ZP := (fun _ _ _ => False)) (fun s hs => ?_) ?_ ?_ ?_ ?_
  · refine impl_LoopSet_c2_r_ok G x5 x6 x7 s.1 s.2 hs (fun q17 q18 h e hw => ⟨(q17, q18), h, hw⟩) (fun q h e he => ⟨q, h, he⟩) (fun q16 h e hw => .inl ⟨q16, h, rfl, hw⟩)
  · exact fun q e h he => hr q h e he
  · rintro i q e h ⟨rfl, hw⟩
    exact hx q h e hw
  · exact fun _ _ _ _ h => h.elim
  · exact fun _ _ _ _ h => h.elim


noncomputable def impl_LoopSet_c1 (x2 : List Item) (x3 : List Item) (x4 : Int) : Oc ((List Item)) (List Item) Empty Empty Empty :=
  match (impl_LoopSet_c2 x2 x3 x4) with
  | .r q19 =>
    .r q19
  | .x q21 =>
    .n q21
  | .n q => q.elim
  | .y q => q.elim
  | .z q => q.elim
def impl_LoopSet_c1_ob (x2 : List Item) (x3 : List Item) (x4 : Int) : Prop :=
  ((True)) ∧
  (impl_LoopSet_c2_ob x2 x3 x4) ∧
  (∀ (q21 : List Item), (impl_LoopSet_c2 x2 x3 x4) = .x q21 →
    True)
set_option maxRecDepth 100000 in
theorem impl_LoopSet_c1_ok (G : Good Try.prog tt sp_impl_LoopSet) {fr : Fr} (x2 : List Item) (x3 : List Item) (x4 : Int) (hob : impl_LoopSet_c1_ob x2 x3 x4) {n r : Env → Prop} {x : Nat → Env → Prop}
    (hn : ∀ (q23 : List Item), (impl_LoopSet_c1 x2 x3 x4) = .n q23 → ∀ e, Weak e [(7, .v (.acc true) (.lst .item q23))] → n e)
    (hr : ∀ q, (impl_LoopSet_c1 x2 x3 x4) = .r q → ∀ e, retAv tt e [.tmp 6] (.one .fr (.lst .item)) = some (RT.av (.one .fr (.lst .item)) q) → r e) :
    Ht Try.prog ⟨(Try.f43).ntmps, none, []⟩ fr (nav (bodyOf (Try.f43)) [1, 1, 1, 0]) [(0, .v .sh (.lst .item x2)), (1, .v .sh (.lst .item x3)), (2, .v .fr (.int .i64 x4)), (7, .v (.acc true) (.lst .item []))] n r x := by
  unfold impl_LoopSet_c1_ob at hob
  refine Ht.seq (c1 := (nav (bodyOf (Try.f43)) [1, 1, 1, 0, 0])) (c2 := (nav (bodyOf (Try.f43)) [1, 1, 1, 0, 1])) (by kernel_rfl) ?_
  refine Ht.reg G (keep := [0, 1, 2, 7, 8]) (e' := [(0, .v .sh (.lst .item x2)), (1, .v .sh (.lst .item x3)), (2, .v .fr (.int .i64 x4)), (7, .v (.acc true) (.lst .item [])), (8, .v .fr (.int .i64 0))]) (obs := []) (by kernel_rfl) hob.1 ?_
  refine Ht.block (id := 0) (c1 := (nav (bodyOf (Try.f43)) [1, 1, 1, 0, 1, 0])) (by kernel_rfl) ?_
  refine Ht.weak (e' := [(0, .v .sh (.lst .item x2)), (1, .v .sh (.lst .item x3)), (2, .v .fr (.int .i64 x4)), (7, .v (.acc true) (.lst .item [])), (8, .v .fr (.int .i64 0))]) (Weak.cast (pat := [(0, .same), (1, .same), (2, .same), (7, .same), (8, .same)]) (by kernel_rfl) (by kernel_rfl)) ?_
  refine impl_LoopSet_c2_ok G x2 x3 x4 hob.2.1 (fun q h20 e he => hr q (by simp only [impl_LoopSet_c1, h20]) e he) (fun q21 h22 e hw => ?_)
  · have hb := hob.2.2 q21 h22
    exact hn q21 (by simp only [impl_LoopSet_c1, h22]) e (hw.trans (Weak.cast (pat := [(7, (.acc true))]) (by kernel_rfl) (by kernel_rfl)))

noncomputable def impl_LoopSet_b (a0 : List Item) (a1 : List Item) (a2 : Int) : Oc Empty (List Item) Empty Empty Empty :=
  match (cond (cond (cond (!(v_impl_SetOk a0)) true (!(v_impl_SetOk a1))) true (cmp .lss a2 0)) true (cmp .gtr a2 6)) with
  | true =>
    .r []
  | false =>
    match (impl_LoopSet_c1 a0 a1 a2) with
    | .n q24 =>
      .r q24
    | .r q26 =>
      .r q26
    | .x q => q.elim
    | .y q => q.elim
    | .z q => q.elim
def impl_LoopSet_b_ob (a0 : List Item) (a1 : List Item) (a2 : Int) : Prop :=
  ((True)) ∧
  (((p_impl_SetOk a0)) ∧ ((((!(!(v_impl_SetOk a0))) && true) = true → (p_impl_SetOk a1))) ∧ (True)) ∧
  ((cond (cond (cond (!(v_impl_SetOk a0)) true (!(v_impl_SetOk a1))) true (cmp .lss a2 0)) true (cmp .gtr a2 6)) = true →
    ((True)) ∧
    True) ∧ ((cond (cond (cond (!(v_impl_SetOk a0)) true (!(v_impl_SetOk a1))) true (cmp .lss a2 0)) true (cmp .gtr a2 6)) = false →
    ((True)) ∧
    (impl_LoopSet_c1_ob a0 a1 a2) ∧
    (∀ (q24 : List Item), (impl_LoopSet_c1 a0 a1 a2) = .n q24 →
      ((True)) ∧
      True))
set_option maxRecDepth 100000 in
theorem impl_LoopSet_b_ok (G : Good Try.prog tt sp_impl_LoopSet) {fr : Fr} (a0 : List Item) (a1 : List Item) (a2 : Int) (hob : impl_LoopSet_b_ob a0 a1 a2) {n r : Env → Prop} {x : Nat → Env → Prop}
    (hr : ∀ q, (impl_LoopSet_b a0 a1 a2) = .r q → ∀ e, retAv tt e [.tmp 6] (.one .fr (.lst .item)) = some (RT.av (.one .fr (.lst .item)) q) → r e) :
    Ht Try.prog ⟨(Try.f43).ntmps, none, []⟩ fr (nav (bodyOf (Try.f43)) []) [(0, .v .sh (.lst .item a0)), (1, .v .sh (.lst .item a1)), (2, .v .fr (.int .i64 a2))] n r x := by
  unfold impl_LoopSet_b_ob at hob
  refine Ht.seq (c1 := (nav (bodyOf (Try.f43)) [0])) (c2 := (nav (bodyOf (Try.f43)) [1])) (by kernel_rfl) ?_
  refine Ht.reg G (keep := [0, 1, 2]) (e' := [(0, .v .sh (.lst .item a0)), (1, .v .sh (.lst .item a1)), (2, .v .fr (.int .i64 a2))]) (obs := []) (by kernel_rfl) hob.1 ?_
  refine Ht.seq (c1 := (nav (bodyOf (Try.f43)) [1, 0])) (c2 := (nav (bodyOf (Try.f43)) [1, 1])) (by kernel_rfl) ?_
  refine Ht.seq (c1 := (nav (bodyOf (Try.f43)) [1, 0, 0])) (c2 := (nav (bodyOf (Try.f43)) [1, 0, 1])) (by kernel_rfl) ?_
  refine Ht.reg G (keep := [0, 1, 2, 24]) (e' := [(0, .v .sh (.lst .item a0)), (1, .v .sh (.lst .item a1)), (2, .v .fr (.int .i64 a2)), (24, .v .fr (.bool (cond (cond (cond (!(v_impl_SetOk a0)) true (!(v_impl_SetOk a1))) true (cmp .lss a2 0)) true (cmp .gtr a2 6))))]) (obs := [(p_impl_SetOk a0), (((!(!(v_impl_SetOk a0))) && true) = true → (p_impl_SetOk a1))]) (by kernel_rfl) hob.2.1 ?_
  refine Ht.cond (o := .tmp 24) (c1 := (nav (bodyOf (Try.f43)) [1, 0, 1, 0])) (c2 := (nav (bodyOf (Try.f43)) [1, 0, 1, 1])) (b := (cond (cond (cond (!(v_impl_SetOk a0)) true (!(v_impl_SetOk a1))) true (cmp .lss a2 0)) true (cmp .gtr a2 6))) (by kernel_rfl) (by kernel_rfl) (fun h1 => ?_) (fun h1 => ?_)
  · have hb := hob.2.2.1 h1
    refine Ht.seq (c1 := (nav (bodyOf (Try.f43)) [1, 0, 1, 0, 0])) (c2 := (nav (bodyOf (Try.f43)) [1, 0, 1, 0, 1])) (by kernel_rfl) ?_
    refine Ht.reg G (keep := [6]) (e' := [(6, .v .fr (.nl .item))]) (obs := []) (by kernel_rfl) hb.1 ?_
    refine Ht.ret (by kernel_rfl) ?_
    exact hr [] (by simp only [impl_LoopSet_b, h1]) _ (by kernel_rfl)
  · have hb := hob.2.2.2 h1
    refine Ht.skip (by kernel_rfl) ?_
    refine Ht.seq (c1 := (nav (bodyOf (Try.f43)) [1, 1, 0])) (c2 := (nav (bodyOf (Try.f43)) [1, 1, 1])) (by kernel_rfl) ?_
    refine Ht.reg G (keep := [0, 1, 2, 7]) (e' := [(0, .v .sh (.lst .item a0)), (1, .v .sh (.lst .item a1)), (2, .v .fr (.int .i64 a2)), (7, .v (.acc true) (.lst .item []))]) (obs := []) (by kernel_rfl) hb.1 ?_
    refine Ht.seq (c1 := (nav (bodyOf (Try.f43)) [1, 1, 1, 0])) (c2 := (nav (bodyOf (Try.f43)) [1, 1, 1, 1])) (by kernel_rfl) ?_
    refine Ht.weak (e' := [(0, .v .sh (.lst .item a0)), (1, .v .sh (.lst .item a1)), (2, .v .fr (.int .i64 a2)), (7, .v (.acc true) (.lst .item []))]) (Weak.cast (pat := [(0, .same), (1, .same), (2, .same), (7, .same)]) (by kernel_rfl) (by kernel_rfl)) ?_
    refine impl_LoopSet_c1_ok G a0 a1 a2 hb.2.1 (fun q24 h25 e hw => ?_) (fun q h27 e he => hr q (by simp only [impl_LoopSet_b, h1, h27]) e he)
    · have hb := hb.2.2 q24 h25
      refine Ht.weak hw ?_
      refine Ht.seq (c1 := (nav (bodyOf (Try.f43)) [1, 1, 1, 1, 0])) (c2 := (nav (bodyOf (Try.f43)) [1, 1, 1, 1, 1])) (by kernel_rfl) ?_
      refine Ht.reg G (keep := [6]) (e' := [(6, .v (.acc true) (.lst .item q24))]) (obs := []) (by kernel_rfl) hb.1 ?_
      refine Ht.ret (by kernel_rfl) ?_
      exact hr q24 (by simp only [impl_LoopSet_b, h1, h25]) _ (by kernel_rfl)

noncomputable def v_impl_LoopSet (a0 : List Item) (a1 : List Item) (a2 : Int) : List Item := ocR (impl_LoopSet_b a0 a1 a2)
def p_impl_LoopSet (a0 : List Item) (a1 : List Item) (a2 : Int) : Prop := impl_LoopSet_b_ob a0 a1 a2
noncomputable def s_impl_LoopSet : Spec := ⟨[(.lst .item), (.lst .item), (.int .i64)], .one .fr (.lst .item), false, fun x => (v_impl_LoopSet x.1 x.2.1 x.2.2.1, 0), fun x => p_impl_LoopSet x.1 x.2.1 x.2.2.1⟩
theorem con_impl_LoopSet (G : Good Try.prog tt sp_impl_LoopSet) : Con Try.prog 43 s_impl_LoopSet :=
  con_of G.htt (fn := Try.f43) (c := bodyOf Try.f43) (by kernel_rfl) (by kernel_rfl) (by kernel_rfl) (rs := [.tmp 6]) (by kernel_rfl) (by kernel_rfl) (fun _ => rfl) fun x hp fr _ _ _ =>
    impl_LoopSet_b_ok G (fr := fr) x.1 x.2.1 x.2.2.1 hp
      (fun q h e he => ⟨by rw [show (s_impl_LoopSet.val x).1 = q from congrArg ocR h]; exact he, trivial⟩)

noncomputable def sp_spec_LoopSet : SP := [(46, s_spec_SetOk), (93, s_spec_l6In), (29, s_spec_LoopStep)]
noncomputable def spec_LoopSet_c2_r (x5 : List Item) (x6 : List Item) (x7 : Int) (s11 : List Item) (s12 : Int) : Oc ((List Item) × Int) (List Item) ((List Item)) Empty Empty :=
  match (cmp .lss s12 x7) with
  | true =>
    .n ((v_spec_LoopStep x5 x6 s11), (ar .add .i64 s12 1))
  | false =>
    .x s11
def spec_LoopSet_c2_r_ob (x5 : List Item) (x6 : List Item) (x7 : Int) (s11 : List Item) (s12 : Int) : Prop :=
  ((True)) ∧
  ((cmp .lss s12 x7) = true →
    (((p_spec_LoopStep x5 x6 s11)) ∧ (True)) ∧
    ((True)) ∧
    True) ∧ ((cmp .lss s12 x7) = false →
    True)
set_option maxRecDepth 100000 in
theorem spec_LoopSet_c2_r_ok (G : Good Try.prog tt sp_spec_LoopSet) {fr : Fr} (x5 : List Item) (x6 : List Item) (x7 : Int) (s11 : List Item) (s12 : Int) (hob : spec_LoopSet_c2_r_ob x5 x6 x7 s11 s12) {n r : Env → Prop} {x : Nat → Env → Prop}
    (hn : ∀ (q17 : List Item) (q18 : Int), (spec_LoopSet_c2_r x5 x6 x7 s11 s12) = .n (q17, q18) → ∀ e, Weak e [(0, .v .sh (.lst .item x5)), (1, .v .sh (.lst .item x6)), (2, .v .fr (.int .i64 x7)), (7, .v (.acc true) (.lst .item q17)), (8, .v .fr (.int .i64 q18))] → n e)
    (_hr : ∀ q, (spec_LoopSet_c2_r x5 x6 x7 s11 s12) = .r q → ∀ e, retAv tt e [.tmp 6] (.one (.acc true) (.lst .item)) = some (RT.av (.one (.acc true) (.lst .item)) q) → r e)
    (hx : ∀ (q16 : List Item), (spec_LoopSet_c2_r x5 x6 x7 s11 s12) = .x q16 → ∀ e, Weak e [(7, .v (.acc true) (.lst .item q16))] → x 0 e) :
    Ht Try.prog ⟨(Try.f42).ntmps, none, []⟩ fr (nav (bodyOf (Try.f42)) [1, 1, 1, 0, 1, 0, 0]) [(0, .v .sh (.lst .item x5)), (1, .v .sh (.lst .item x6)), (2, .v .fr (.int .i64 x7)), (7, .v (.acc true) (.lst .item s11)), (8, .v .fr (.int .i64 s12))] n r x := by
  unfold spec_LoopSet_c2_r_ob at hob
  refine Ht.seq (c1 := (nav (bodyOf (Try.f42)) [1, 1, 1, 0, 1, 0, 0, 0])) (c2 := (nav (bodyOf (Try.f42)) [1, 1, 1, 0, 1, 0, 0, 1])) (by kernel_rfl) ?_
  refine Ht.seq (c1 := (nav (bodyOf (Try.f42)) [1, 1, 1, 0, 1, 0, 0, 0, 0])) (c2 := (nav (bodyOf (Try.f42)) [1, 1, 1, 0, 1, 0, 0, 0, 1])) (by kernel_rfl) ?_
  refine Ht.reg G (keep := [0, 1, 2, 7, 8, 26]) (e' := [(0, .v .sh (.lst .item x5)), (1, .v .sh (.lst .item x6)), (2, .v .fr (.int .i64 x7)), (7, .v (.acc true) (.lst .item s11)), (8, .v .fr (.int .i64 s12)), (26, .v .fr (.bool (cmp .lss s12 x7)))]) (obs := []) (by kernel_rfl) hob.1 ?_
  refine Ht.cond (o := .tmp 26) (c1 := (nav (bodyOf (Try.f42)) [1, 1, 1, 0, 1, 0, 0, 0, 1, 0])) (c2 := (nav (bodyOf (Try.f42)) [1, 1, 1, 0, 1, 0, 0, 0, 1, 1])) (b := (cmp .lss s12 x7)) (by kernel_rfl) (by kernel_rfl) (fun h13 => ?_) (fun h13 => ?_)
  · have hb := hob.2.1 h13
    refine Ht.skip (by kernel_rfl) ?_
    refine Ht.seq (c1 := (nav (bodyOf (Try.f42)) [1, 1, 1, 0, 1, 0, 0, 1, 0])) (c2 := (nav (bodyOf (Try.f42)) [1, 1, 1, 0, 1, 0, 0, 1, 1])) (by kernel_rfl) ?_
    refine Ht.block (id := 1) (c1 := (nav (bodyOf (Try.f42)) [1, 1, 1, 0, 1, 0, 0, 1, 0, 0])) (by kernel_rfl) ?_
    refine Ht.reg G (keep := [0, 1, 2, 7, 8]) (e' := [(0, .v .sh (.lst .item x5)), (1, .v .sh (.lst .item x6)), (2, .v .fr (.int .i64 x7)), (7, .v (.acc true) (.lst .item (v_spec_LoopStep x5 x6 s11))), (8, .v .fr (.int .i64 s12))]) (obs := [(p_spec_LoopStep x5 x6 s11)]) (by kernel_rfl) hb.1 ?_
    refine Ht.reg G (keep := [0, 1, 2, 7, 8]) (e' := [(0, .v .sh (.lst .item x5)), (1, .v .sh (.lst .item x6)), (2, .v .fr (.int .i64 x7)), (7, .v (.acc true) (.lst .item (v_spec_LoopStep x5 x6 s11))), (8, .v .fr (.int .i64 (ar .add .i64 s12 1)))]) (obs := []) (by kernel_rfl) hb.2.1 ?_
    exact hn (v_spec_LoopStep x5 x6 s11) (ar .add .i64 s12 1) (by simp only [spec_LoopSet_c2_r, h13]) _ (Weak.cast (pat := [(0, .sh), (1, .sh), (2, .fr), (7, (.acc true)), (8, .fr)]) (by kernel_rfl) (by kernel_rfl))
  · have hb := hob.2.2 h13
    refine Ht.exit (i := 0) (by kernel_rfl) ?_
    exact hx s11 (by simp only [spec_LoopSet_c2_r, h13]) _ (Weak.cast (pat := [(7, (.acc true))]) (by kernel_rfl) (by kernel_rfl))

noncomputable def spec_LoopSet_c2 (x5 : List Item) (x6 : List Item) (x7 : Int) : Oc Empty (List Item) ((List Item)) Empty Empty := lpV (fun s => ocLp ((fun (s : (List Item) × Int) => spec_LoopSet_c2_r x5 x6 x7 s.1 s.2) s)) ([], 0)
def spec_LoopSet_c2_ob (x5 : List Item) (x6 : List Item) (x7 : Int) : Prop := LpT (fun s => ocLp ((fun (s : (List Item) × Int) => spec_LoopSet_c2_r x5 x6 x7 s.1 s.2) s)) (fun s => spec_LoopSet_c2_r_ob x5 x6 x7 s.1 s.2) ([], 0)
set_option maxRecDepth 100000 in
theorem spec_LoopSet_c2_ok (G : Good Try.prog tt sp_spec_LoopSet) {fr : Fr} (x5 : List Item) (x6 : List Item) (x7 : Int) (hob : spec_LoopSet_c2_ob x5 x6 x7) {n r : Env → Prop} {x : Nat → Env → Prop}
    (hr : ∀ q, (spec_LoopSet_c2 x5 x6 x7) = .r q → ∀ e, retAv tt e [.tmp 6] (.one (.acc true) (.lst .item)) = some (RT.av (.one (.acc true) (.lst .item)) q) → r e)
    (hx : ∀ (q16 : List Item), (spec_LoopSet_c2 x5 x6 x7) = .x q16 → ∀ e, Weak e [(7, .v (.acc true) (.lst .item q16))] → x 0 e) :
    Ht Try.prog ⟨(Try.f42).ntmps, none, []⟩ fr (nav (bodyOf (Try.f42)) [1, 1, 1, 0, 1, 0]) [(0, .v .sh (.lst .item x5)), (1, .v .sh (.lst .item x6)), (2, .v .fr (.int .i64 x7)), (7, .v (.acc true) (.lst .item [])), (8, .v .fr (.int .i64 0))] n r x := by
  unfold spec_LoopSet_c2_ob at hob
  refine Ht.weak (e' := (fun (s : (List Item) × Int) => [(0, .v .sh (.lst .item x5)), (1, .v .sh (.lst .item x6)), (2, .v .fr (.int .i64 x7)), (7, .v (.acc true) (.lst .item s.1)), (8, .v .fr (.int .i64 s.2))]) ([], 0)) (Weak.cast (pat := [(0, .sh), (1, .sh), (2, .fr), (7, (.acc true)), (8, .fr)]) (by kernel_rfl) (by kernel_rfl)) ?_
  refine Ht.loopOc (c1 := (nav (bodyOf (Try.f42)) [1, 1, 1, 0, 1, 0, 0])) (by kernel_rfl) (fun (s : (List Item) × Int) => [(0, .v .sh (.lst .item x5)), (1, .v .sh (.lst .item x6)), (2, .v .fr (.int .i64 x7)), (7, .v (.acc true) (.lst .item s.1)), (8, .v .fr (.int .i64 s.2))]) (fun (s : (List Item) × Int) => spec_LoopSet_c2_r x5 x6 x7 s.1 s.2) hob (RP := fun q e => retAv tt e [.tmp 6] (.one (.acc true) (.lst .item)) = some (RT.av (.one (.acc true) (.lst .item)) q)) (XP := (fun i q e => i = 0 ∧ Weak e [(7, .v (.acc true) (.lst .item q))])) (YP := (fun _ _ _ => False)) (ZP := (fun _ _ _ => False)) (fun s hs => ?_) ?_ ?_ ?_ ?_
  · refine spec_LoopSet_c2_r_ok G x5 x6 x7 s.1 s.2 hs (fun q17 q18 h e hw => ⟨(q17, q18), h, hw⟩) (fun q h e he => ⟨q, h, he⟩) (fun q16 h e hw => .inl ⟨q16, h, rfl, hw⟩)
  · exact fun q e h he => hr q h e he
  · rintro i q e h ⟨rfl, hw⟩
    exact hx q h e hw
  · exact fun _ _ _ _ h => h.elim
  · exact fun _ _ _ _ h => h.elim


noncomputable def spec_LoopSet_c1 (x2 : List Item) (x3 : List Item) (x4 : Int) : Oc ((List Item)) (List Item) Empty Empty Empty :=
  match (spec_LoopSet_c2 x2 x3 x4) with
  | .r q19 =>
    .r q19
  | .x q21 =>
    .n q21
  | .n q => q.elim
  | .y q => q.elim
  | .z q => q.elim
def spec_LoopSet_c1_ob (x2 : List Item) (x3 : List Item) (x4 : Int) : Prop :=
  ((True)) ∧
  (spec_LoopSet_c2_ob x2 x3 x4) ∧
  (∀ (q21 : List Item), (spec_LoopSet_c2 x2 x3 x4) = .x q21 →
    True)
set_option maxRecDepth 100000 in
theorem spec_LoopSet_c1_ok (G : Good Try.prog tt sp_spec_LoopSet) {fr : Fr} (x2 : List Item) (x3 : List Item) (x4 : Int) (hob : spec_LoopSet_c1_ob x2 x3 x4) {n r : Env → Prop} {x : Nat → Env → Prop}
    (hn : ∀ (q23 : List Item), (spec_LoopSet_c1 x2 x3 x4) = .n q23 → ∀ e, Weak e [(7, .v (.acc true) (.lst .item q23))] → n e)
    (hr : ∀ q, (spec_LoopSet_c1 x2 x3 x4) = .r q → ∀ e, retAv tt e [.tmp 6] (.one (.acc true) (.lst .item)) = some (RT.av (.one (.acc true) (.lst .item)) q) → r e) :
    Ht Try.prog ⟨(Try.f42).ntmps, none, []⟩ fr (nav (bodyOf (Try.f42)) [1, 1, 1, 0]) [(0, .v .sh (.lst .item x2)), (1, .v .sh (.lst .item x3)), (2, .v .fr (.int .i64 x4)), (7, .v (.acc true) (.lst .item []))] n r x := by
  unfold spec_LoopSet_c1_ob at hob
  refine Ht.seq (c1 := (nav (bodyOf (Try.f42)) [1, 1, 1, 0, 0])) (c2 := (nav (bodyOf (Try.f42)) [1, 1, 1, 0, 1])) (by kernel_rfl) ?_
  refine Ht.reg G (keep := [0, 1, 2, 7, 8]) (e' := [(0, .v .sh (.lst .item x2)), (1, .v .sh (.lst .item x3)), (2, .v .fr (.int .i64 x4)), (7, .v (.acc true) (.lst .item [])), (8, .v .fr (.int .i64 0))]) (obs := []) (by kernel_rfl) hob.1 ?_
  refine Ht.block (id := 0) (c1 := (nav (bodyOf (Try.f42)) [1, 1, 1, 0, 1, 0])) (by kernel_rfl) ?_
  refine Ht.weak (e' := [(0, .v .sh (.lst .item x2)), (1, .v .sh (.lst .item x3)), (2, .v .fr (.int .i64 x4)), (7, .v (.acc true) (.lst .item [])), (8, .v .fr (.int .i64 0))]) (Weak.cast (pat := [(0, .same), (1, .same), (2, .same), (7, .same), (8, .same)]) (by kernel_rfl) (by kernel_rfl)) ?_
  refine spec_LoopSet_c2_ok G x2 x3 x4 hob.2.1 (fun q h20 e he => hr q (by simp only [spec_LoopSet_c1, h20]) e he) (fun q21 h22 e hw => ?_)
  · have hb := hob.2.2 q21 h22
    exact hn q21 (by simp only [spec_LoopSet_c1, h22]) e (hw.trans (Weak.cast (pat := [(7, (.acc true))]) (by kernel_rfl) (by kernel_rfl)))

noncomputable def spec_LoopSet_b (a0 : List Item) (a1 : List Item) (a2 : Int) : Oc Empty (List Item) Empty Empty Empty :=
  match (cond (cond (!(v_spec_SetOk a0)) true (!(v_spec_SetOk a1))) true (!(v_spec_l6In a2 0 6))) with
  | true =>
    .r []
  | false =>
    match (spec_LoopSet_c1 a0 a1 a2) with
    | .n q24 =>
      .r q24
    | .r q26 =>
      .r q26
    | .x q => q.elim
    | .y q => q.elim
    | .z q => q.elim
def spec_LoopSet_b_ob (a0 : List Item) (a1 : List Item) (a2 : Int) : Prop :=
  ((True)) ∧
  ((True)) ∧
  (((p_spec_SetOk a0)) ∧ ((((!(!(v_spec_SetOk a0))) && true) = true → (p_spec_SetOk a1))) ∧ ((((!(cond (!(v_spec_SetOk a0)) true (!(v_spec_SetOk a1)))) && true) = true → (p_spec_l6In a2 0 6))) ∧ (True)) ∧
  ((cond (cond (!(v_spec_SetOk a0)) true (!(v_spec_SetOk a1))) true (!(v_spec_l6In a2 0 6))) = true →
    ((True)) ∧
    True) ∧ ((cond (cond (!(v_spec_SetOk a0)) true (!(v_spec_SetOk a1))) true (!(v_spec_l6In a2 0 6))) = false →
    (spec_LoopSet_c1_ob a0 a1 a2) ∧
    (∀ (q24 : List Item), (spec_LoopSet_c1 a0 a1 a2) = .n q24 →
      ((True)) ∧
      True))
set_option maxRecDepth 100000 in
theorem spec_LoopSet_b_ok (G : Good Try.prog tt sp_spec_LoopSet) {fr : Fr} (a0 : List Item) (a1 : List Item) (a2 : Int) (hob : spec_LoopSet_b_ob a0 a1 a2) {n r : Env → Prop} {x : Nat → Env → Prop}
    (hr : ∀ q, (spec_LoopSet_b a0 a1 a2) = .r q → ∀ e, retAv tt e [.tmp 6] (.one (.acc true) (.lst .item)) = some (RT.av (.one (.acc true) (.lst .item)) q) → r e) :
    Ht Try.prog ⟨(Try.f42).ntmps, none, []⟩ fr (nav (bodyOf (Try.f42)) []) [(0, .v .sh (.lst .item a0)), (1, .v .sh (.lst .item a1)), (2, .v .fr (.int .i64 a2))] n r x := by
  unfold spec_LoopSet_b_ob at hob
  refine Ht.seq (c1 := (nav (bodyOf (Try.f42)) [0])) (c2 := (nav (bodyOf (Try.f42)) [1])) (by kernel_rfl) ?_
  refine Ht.reg G (keep := [0, 1, 2]) (e' := [(0, .v .sh (.lst .item a0)), (1, .v .sh (.lst .item a1)), (2, .v .fr (.int .i64 a2))]) (obs := []) (by kernel_rfl) hob.1 ?_
  refine Ht.seq (c1 := (nav (bodyOf (Try.f42)) [1, 0])) (c2 := (nav (bodyOf (Try.f42)) [1, 1])) (by kernel_rfl) ?_
  refine Ht.reg G (keep := [0, 1, 2, 7]) (e' := [(0, .v .sh (.lst .item a0)), (1, .v .sh (.lst .item a1)), (2, .v .fr (.int .i64 a2)), (7, .v (.acc true) (.lst .item []))]) (obs := []) (by kernel_rfl) hob.2.1 ?_
  refine Ht.seq (c1 := (nav (bodyOf (Try.f42)) [1, 1, 0])) (c2 := (nav (bodyOf (Try.f42)) [1, 1, 1])) (by kernel_rfl) ?_
  refine Ht.seq (c1 := (nav (bodyOf (Try.f42)) [1, 1, 0, 0])) (c2 := (nav (bodyOf (Try.f42)) [1, 1, 0, 1])) (by kernel_rfl) ?_
  refine Ht.reg G (keep := [0, 1, 2, 7, 22]) (e' := [(0, .v .sh (.lst .item a0)), (1, .v .sh (.lst .item a1)), (2, .v .fr (.int .i64 a2)), (7, .v (.acc true) (.lst .item [])), (22, .v .fr (.bool (cond (cond (!(v_spec_SetOk a0)) true (!(v_spec_SetOk a1))) true (!(v_spec_l6In a2 0 6)))))]) (obs := [(p_spec_SetOk a0), (((!(!(v_spec_SetOk a0))) && true) = true → (p_spec_SetOk a1)), (((!(cond (!(v_spec_SetOk a0)) true (!(v_spec_SetOk a1)))) && true) = true → (p_spec_l6In a2 0 6))]) (by kernel_rfl) hob.2.2.1 ?_
  refine Ht.cond (o := .tmp 22) (c1 := (nav (bodyOf (Try.f42)) [1, 1, 0, 1, 0])) (c2 := (nav (bodyOf (Try.f42)) [1, 1, 0, 1, 1])) (b := (cond (cond (!(v_spec_SetOk a0)) true (!(v_spec_SetOk a1))) true (!(v_spec_l6In a2 0 6)))) (by kernel_rfl) (by kernel_rfl) (fun h1 => ?_) (fun h1 => ?_)
  · have hb := hob.2.2.2.1 h1
    refine Ht.seq (c1 := (nav (bodyOf (Try.f42)) [1, 1, 0, 1, 0, 0])) (c2 := (nav (bodyOf (Try.f42)) [1, 1, 0, 1, 0, 1])) (by kernel_rfl) ?_
    refine Ht.reg G (keep := [6]) (e' := [(6, .v (.acc true) (.lst .item []))]) (obs := []) (by kernel_rfl) hb.1 ?_
    refine Ht.ret (by kernel_rfl) ?_
    exact hr [] (by simp only [spec_LoopSet_b, h1]) _ (by kernel_rfl)
  · have hb := hob.2.2.2.2 h1
    refine Ht.skip (by kernel_rfl) ?_
    refine Ht.seq (c1 := (nav (bodyOf (Try.f42)) [1, 1, 1, 0])) (c2 := (nav (bodyOf (Try.f42)) [1, 1, 1, 1])) (by kernel_rfl) ?_
    refine Ht.weak (e' := [(0, .v .sh (.lst .item a0)), (1, .v .sh (.lst .item a1)), (2, .v .fr (.int .i64 a2)), (7, .v (.acc true) (.lst .item []))]) (Weak.cast (pat := [(0, .same), (1, .same), (2, .same), (7, .same)]) (by kernel_rfl) (by kernel_rfl)) ?_
    refine spec_LoopSet_c1_ok G a0 a1 a2 hb.1 (fun q24 h25 e hw => ?_) (fun q h27 e he => hr q (by simp only [spec_LoopSet_b, h1, h27]) e he)
    · have hb := hb.2 q24 h25
      refine Ht.weak hw ?_
      refine Ht.seq (c1 := (nav (bodyOf (Try.f42)) [1, 1, 1, 1, 0])) (c2 := (nav (bodyOf (Try.f42)) [1, 1, 1, 1, 1])) (by kernel_rfl) ?_
      refine Ht.reg G (keep := [6]) (e' := [(6, .v (.acc true) (.lst .item q24))]) (obs := []) (by kernel_rfl) hb.1 ?_
      refine Ht.ret (by kernel_rfl) ?_
      exact hr q24 (by simp only [spec_LoopSet_b, h1, h25]) _ (by kernel_rfl)

noncomputable def v_spec_LoopSet (a0 : List Item) (a1 : List Item) (a2 : Int) : List Item := ocR (spec_LoopSet_b a0 a1 a2)
def p_spec_LoopSet (a0 : List Item) (a1 : List Item) (a2 : Int) : Prop := spec_LoopSet_b_ob a0 a1 a2
noncomputable def s_spec_LoopSet : Spec := ⟨[(.lst .item), (.lst .item), (.int .i64)], .one (.acc true) (.lst .item), false, fun x => (v_spec_LoopSet x.1 x.2.1 x.2.2.1, 0), fun x => p_spec_LoopSet x.1 x.2.1 x.2.2.1⟩
theorem con_spec_LoopSet (G : Good Try.prog tt sp_spec_LoopSet) : Con Try.prog 42 s_spec_LoopSet :=
  con_of G.htt (fn := Try.f42) (c := bodyOf Try.f42) (by kernel_rfl) (by kernel_rfl) (by kernel_rfl) (rs := [.tmp 6]) (by kernel_rfl) (by kernel_rfl) (fun _ => rfl) fun x hp fr _ _ _ =>
    spec_LoopSet_b_ok G (fr := fr) x.1 x.2.1 x.2.2.1 hp
      (fun q h e he => ⟨by rw [show (s_spec_LoopSet.val x).1 = q from congrArg ocR h]; exact he, trivial⟩)

noncomputable def sp_laws_FnLoopFix : SP := [(48, s_spec_DrawLoopSet), (43, s_impl_LoopSet), (42, s_spec_LoopSet), (45, s_laws_lwItems), (46, s_spec_SetOk), (31, s_impl_LoopStep)]
noncomputable def laws_FnLoopFix_b (a0 : List Int) : Oc Empty Bool Empty Empty Empty :=
  match (cmp .gtr (lenI .byte a0) 1048576) with
  | true =>
    .r true
  | false =>
    match (cond (cond (cond (cond (!(v_laws_lwItems (v_impl_LoopSet (v_spec_DrawLoopSet a0).1 (v_spec_DrawLoopSet a0).2.1 (v_spec_DrawLoopSet a0).2.2.1) (v_spec_LoopSet (v_spec_DrawLoopSet a0).1 (v_spec_DrawLoopSet a0).2.1 (v_spec_DrawLoopSet a0).2.2.1))) true (!(v_spec_SetOk (v_spec_DrawLoopSet a0).1))) true (!(v_spec_SetOk (v_spec_DrawLoopSet a0).2.1))) true (cmp .lss (v_spec_DrawLoopSet a0).2.2.1 0)) true (cmp .geq (v_spec_DrawLoopSet a0).2.2.1 6)) with
    | true =>
      .r (v_laws_lwItems (v_impl_LoopSet (v_spec_DrawLoopSet a0).1 (v_spec_DrawLoopSet a0).2.1 (v_spec_DrawLoopSet a0).2.2.1) (v_spec_LoopSet (v_spec_DrawLoopSet a0).1 (v_spec_DrawLoopSet a0).2.1 (v_spec_DrawLoopSet a0).2.2.1))
    | false =>
      match (!(v_laws_lwItems (v_impl_LoopStep (v_spec_DrawLoopSet a0).1 (v_spec_DrawLoopSet a0).2.1 (v_impl_LoopSet (v_spec_DrawLoopSet a0).1 (v_spec_DrawLoopSet a0).2.1 (v_spec_DrawLoopSet a0).2.2.1)) (v_impl_LoopSet (v_spec_DrawLoopSet a0).1 (v_spec_DrawLoopSet a0).2.1 (v_spec_DrawLoopSet a0).2.2.1))) with
      | true =>
        .r true
      | false =>
        .r (cond (v_laws_lwItems (v_impl_LoopSet (v_spec_DrawLoopSet a0).1 (v_spec_DrawLoopSet a0).2.1 6) (v_impl_LoopSet (v_spec_DrawLoopSet a0).1 (v_spec_DrawLoopSet a0).2.1 (v_spec_DrawLoopSet a0).2.2.1)) (v_laws_lwItems (v_impl_LoopSet (v_spec_DrawLoopSet a0).1 (v_spec_DrawLoopSet a0).2.1 (ar .add .i64 (v_spec_DrawLoopSet a0).2.2.1 1)) (v_impl_LoopSet (v_spec_DrawLoopSet a0).1 (v_spec_DrawLoopSet a0).2.1 (v_spec_DrawLoopSet a0).2.2.1)) false)
def laws_FnLoopFix_b_ob (a0 : List Int) : Prop :=
  ((True)) ∧
  ((True)) ∧
  ((cmp .gtr (lenI .byte a0) 1048576) = true →
    ((True)) ∧
    True) ∧ ((cmp .gtr (lenI .byte a0) 1048576) = false →
    (((p_spec_DrawLoopSet a0)) ∧ (True)) ∧
    (((p_impl_LoopSet (v_spec_DrawLoopSet a0).1 (v_spec_DrawLoopSet a0).2.1 (v_spec_DrawLoopSet a0).2.2.1)) ∧ (True)) ∧
    (((p_spec_LoopSet (v_spec_DrawLoopSet a0).1 (v_spec_DrawLoopSet a0).2.1 (v_spec_DrawLoopSet a0).2.2.1)) ∧ ((p_laws_lwItems (v_impl_LoopSet (v_spec_DrawLoopSet a0).1 (v_spec_DrawLoopSet a0).2.1 (v_spec_DrawLoopSet a0).2.2.1) (v_spec_LoopSet (v_spec_DrawLoopSet a0).1 (v_spec_DrawLoopSet a0).2.1 (v_spec_DrawLoopSet a0).2.2.1))) ∧ ((((!(!(v_laws_lwItems (v_impl_LoopSet (v_spec_DrawLoopSet a0).1 (v_spec_DrawLoopSet a0).2.1 (v_spec_DrawLoopSet a0).2.2.1) (v_spec_LoopSet (v_spec_DrawLoopSet a0).1 (v_spec_DrawLoopSet a0).2.1 (v_spec_DrawLoopSet a0).2.2.1)))) && true) = true → (p_spec_SetOk (v_spec_DrawLoopSet a0).1))) ∧ ((((!(cond (!(v_laws_lwItems (v_impl_LoopSet (v_spec_DrawLoopSet a0).1 (v_spec_DrawLoopSet a0).2.1 (v_spec_DrawLoopSet a0).2.2.1) (v_spec_LoopSet (v_spec_DrawLoopSet a0).1 (v_spec_DrawLoopSet a0).2.1 (v_spec_DrawLoopSet a0).2.2.1))) true (!(v_spec_SetOk (v_spec_DrawLoopSet a0).1)))) && true) = true → (p_spec_SetOk (v_spec_DrawLoopSet a0).2.1))) ∧ (True)) ∧
    ((cond (cond (cond (cond (!(v_laws_lwItems (v_impl_LoopSet (v_spec_DrawLoopSet a0).1 (v_spec_DrawLoopSet a0).2.1 (v_spec_DrawLoopSet a0).2.2.1) (v_spec_LoopSet (v_spec_DrawLoopSet a0).1 (v_spec_DrawLoopSet a0).2.1 (v_spec_DrawLoopSet a0).2.2.1))) true (!(v_spec_SetOk (v_spec_DrawLoopSet a0).1))) true (!(v_spec_SetOk (v_spec_DrawLoopSet a0).2.1))) true (cmp .lss (v_spec_DrawLoopSet a0).2.2.1 0)) true (cmp .geq (v_spec_DrawLoopSet a0).2.2.1 6)) = true →
      (((p_spec_LoopSet (v_spec_DrawLoopSet a0).1 (v_spec_DrawLoopSet a0).2.1 (v_spec_DrawLoopSet a0).2.2.1)) ∧ ((p_laws_lwItems (v_impl_LoopSet (v_spec_DrawLoopSet a0).1 (v_spec_DrawLoopSet a0).2.1 (v_spec_DrawLoopSet a0).2.2.1) (v_spec_LoopSet (v_spec_DrawLoopSet a0).1 (v_spec_DrawLoopSet a0).2.1 (v_spec_DrawLoopSet a0).2.2.1))) ∧ (True)) ∧
      True) ∧ ((cond (cond (cond (cond (!(v_laws_lwItems (v_impl_LoopSet (v_spec_DrawLoopSet a0).1 (v_spec_DrawLoopSet a0).2.1 (v_spec_DrawLoopSet a0).2.2.1) (v_spec_LoopSet (v_spec_DrawLoopSet a0).1 (v_spec_DrawLoopSet a0).2.1 (v_spec_DrawLoopSet a0).2.2.1))) true (!(v_spec_SetOk (v_spec_DrawLoopSet a0).1))) true (!(v_spec_SetOk (v_spec_DrawLoopSet a0).2.1))) true (cmp .lss (v_spec_DrawLoopSet a0).2.2.1 0)) true (cmp .geq (v_spec_DrawLoopSet a0).2.2.1 6)) = false →
      (((p_impl_LoopStep (v_spec_DrawLoopSet a0).1 (v_spec_DrawLoopSet a0).2.1 (v_impl_LoopSet (v_spec_DrawLoopSet a0).1 (v_spec_DrawLoopSet a0).2.1 (v_spec_DrawLoopSet a0).2.2.1))) ∧ ((p_laws_lwItems (v_impl_LoopStep (v_spec_DrawLoopSet a0).1 (v_spec_DrawLoopSet a0).2.1 (v_impl_LoopSet (v_spec_DrawLoopSet a0).1 (v_spec_DrawLoopSet a0).2.1 (v_spec_DrawLoopSet a0).2.2.1)) (v_impl_LoopSet (v_spec_DrawLoopSet a0).1 (v_spec_DrawLoopSet a0).2.1 (v_spec_DrawLoopSet a0).2.2.1))) ∧ (True)) ∧
      ((!(v_laws_lwItems (v_impl_LoopStep (v_spec_DrawLoopSet a0).1 (v_spec_DrawLoopSet a0).2.1 (v_impl_LoopSet (v_spec_DrawLoopSet a0).1 (v_spec_DrawLoopSet a0).2.1 (v_spec_DrawLoopSet a0).2.2.1)) (v_impl_LoopSet (v_spec_DrawLoopSet a0).1 (v_spec_DrawLoopSet a0).2.1 (v_spec_DrawLoopSet a0).2.2.1))) = true →
        ((True)) ∧
        True) ∧ ((!(v_laws_lwItems (v_impl_LoopStep (v_spec_DrawLoopSet a0).1 (v_spec_DrawLoopSet a0).2.1 (v_impl_LoopSet (v_spec_DrawLoopSet a0).1 (v_spec_DrawLoopSet a0).2.1 (v_spec_DrawLoopSet a0).2.2.1)) (v_impl_LoopSet (v_spec_DrawLoopSet a0).1 (v_spec_DrawLoopSet a0).2.1 (v_spec_DrawLoopSet a0).2.2.1))) = false →
        (((p_impl_LoopSet (v_spec_DrawLoopSet a0).1 (v_spec_DrawLoopSet a0).2.1 6)) ∧ ((p_laws_lwItems (v_impl_LoopSet (v_spec_DrawLoopSet a0).1 (v_spec_DrawLoopSet a0).2.1 6) (v_impl_LoopSet (v_spec_DrawLoopSet a0).1 (v_spec_DrawLoopSet a0).2.1 (v_spec_DrawLoopSet a0).2.2.1))) ∧ ((((v_laws_lwItems (v_impl_LoopSet (v_spec_DrawLoopSet a0).1 (v_spec_DrawLoopSet a0).2.1 6) (v_impl_LoopSet (v_spec_DrawLoopSet a0).1 (v_spec_DrawLoopSet a0).2.1 (v_spec_DrawLoopSet a0).2.2.1)) && true) = true → (p_impl_LoopSet (v_spec_DrawLoopSet a0).1 (v_spec_DrawLoopSet a0).2.1 (ar .add .i64 (v_spec_DrawLoopSet a0).2.2.1 1)))) ∧ ((((v_laws_lwItems (v_impl_LoopSet (v_spec_DrawLoopSet a0).1 (v_spec_DrawLoopSet a0).2.1 6) (v_impl_LoopSet (v_spec_DrawLoopSet a0).1 (v_spec_DrawLoopSet a0).2.1 (v_spec_DrawLoopSet a0).2.2.1)) && true) = true → (p_laws_lwItems (v_impl_LoopSet (v_spec_DrawLoopSet a0).1 (v_spec_DrawLoopSet a0).2.1 (ar .add .i64 (v_spec_DrawLoopSet a0).2.2.1 1)) (v_impl_LoopSet (v_spec_DrawLoopSet a0).1 (v_spec_DrawLoopSet a0).2.1 (v_spec_DrawLoopSet a0).2.2.1)))) ∧ (True)) ∧
        True)))
set_option maxRecDepth 100000 in
theorem laws_FnLoopFix_b_ok (G : Good Try.prog tt sp_laws_FnLoopFix) {fr : Fr} (a0 : List Int) (hob : laws_FnLoopFix_b_ob a0) {n r : Env → Prop} {x : Nat → Env → Prop}
    (hr : ∀ q, (laws_FnLoopFix_b a0) = .r q → ∀ e, retAv tt e [.tmp 2] (.one .fr .bool) = some (RT.av (.one .fr .bool) q) → r e) :
    Ht Try.prog ⟨(Try.f8).ntmps, none, []⟩ fr (nav (bodyOf (Try.f8)) []) [(0, .v .sh (.lst .byte a0))] n r x := by
  unfold laws_FnLoopFix_b_ob at hob
  refine Ht.seq (c1 := (nav (bodyOf (Try.f8)) [0])) (c2 := (nav (bodyOf (Try.f8)) [1])) (by kernel_rfl) ?_
  refine Ht.reg G (keep := [0]) (e' := [(0, .v .sh (.lst .byte a0))]) (obs := []) (by kernel_rfl) hob.1 ?_
  refine Ht.seq (c1 := (nav (bodyOf (Try.f8)) [1, 0])) (c2 := (nav (bodyOf (Try.f8)) [1, 1])) (by kernel_rfl) ?_
  refine Ht.seq (c1 := (nav (bodyOf (Try.f8)) [1, 0, 0])) (c2 := (nav (bodyOf (Try.f8)) [1, 0, 1])) (by kernel_rfl) ?_
  refine Ht.reg G (keep := [0, 9]) (e' := [(0, .v .sh (.lst .byte a0)), (9, .v .fr (.bool (cmp .gtr (lenI .byte a0) 1048576)))]) (obs := []) (by kernel_rfl) hob.2.1 ?_
  refine Ht.cond (o := .tmp 9) (c1 := (nav (bodyOf (Try.f8)) [1, 0, 1, 0])) (c2 := (nav (bodyOf (Try.f8)) [1, 0, 1, 1])) (b := (cmp .gtr (lenI .byte a0) 1048576)) (by kernel_rfl) (by kernel_rfl) (fun h1 => ?_) (fun h1 => ?_)
  · have hb := hob.2.2.1 h1
    refine Ht.seq (c1 := (nav (bodyOf (Try.f8)) [1, 0, 1, 0, 0])) (c2 := (nav (bodyOf (Try.f8)) [1, 0, 1, 0, 1])) (by kernel_rfl) ?_
    refine Ht.reg G (keep := [2]) (e' := [(2, .v .fr (.bool true))]) (obs := []) (by kernel_rfl) hb.1 ?_
    refine Ht.ret (by kernel_rfl) ?_
    exact hr true (by simp only [laws_FnLoopFix_b, h1]) _ (by kernel_rfl)
  · have hb := hob.2.2.2 h1
    refine Ht.skip (by kernel_rfl) ?_
    refine Ht.seq (c1 := (nav (bodyOf (Try.f8)) [1, 1, 0])) (c2 := (nav (bodyOf (Try.f8)) [1, 1, 1])) (by kernel_rfl) ?_
    refine Ht.reg G (keep := [3, 4, 5]) (e' := [(3, .v .sh (.lst .item (v_spec_DrawLoopSet a0).1)), (4, .v .sh (.lst .item (v_spec_DrawLoopSet a0).2.1)), (5, .v .fr (.int .i64 (v_spec_DrawLoopSet a0).2.2.1))]) (obs := [(p_spec_DrawLoopSet a0)]) (by kernel_rfl) hb.1 ?_
    refine Ht.seq (c1 := (nav (bodyOf (Try.f8)) [1, 1, 1, 0])) (c2 := (nav (bodyOf (Try.f8)) [1, 1, 1, 1])) (by kernel_rfl) ?_
    refine Ht.reg G (keep := [3, 4, 5, 6]) (e' := [(3, .v .sh (.lst .item (v_spec_DrawLoopSet a0).1)), (4, .v .sh (.lst .item (v_spec_DrawLoopSet a0).2.1)), (5, .v .fr (.int .i64 (v_spec_DrawLoopSet a0).2.2.1)), (6, .v .fr (.lst .item (v_impl_LoopSet (v_spec_DrawLoopSet a0).1 (v_spec_DrawLoopSet a0).2.1 (v_spec_DrawLoopSet a0).2.2.1)))]) (obs := [(p_impl_LoopSet (v_spec_DrawLoopSet a0).1 (v_spec_DrawLoopSet a0).2.1 (v_spec_DrawLoopSet a0).2.2.1)]) (by kernel_rfl) hb.2.1 ?_
    refine Ht.seq (c1 := (nav (bodyOf (Try.f8)) [1, 1, 1, 1, 0])) (c2 := (nav (bodyOf (Try.f8)) [1, 1, 1, 1, 1])) (by kernel_rfl) ?_
    refine Ht.seq (c1 := (nav (bodyOf (Try.f8)) [1, 1, 1, 1, 0, 0])) (c2 := (nav (bodyOf (Try.f8)) [1, 1, 1, 1, 0, 1])) (by kernel_rfl) ?_
    refine Ht.reg G (keep := [3, 4, 5, 6, 44]) (e' := [(3, .v .sh (.lst .item (v_spec_DrawLoopSet a0).1)), (4, .v .sh (.lst .item (v_spec_DrawLoopSet a0).2.1)), (5, .v .fr (.int .i64 (v_spec_DrawLoopSet a0).2.2.1)), (6, .v .fr (.lst .item (v_impl_LoopSet (v_spec_DrawLoopSet a0).1 (v_spec_DrawLoopSet a0).2.1 (v_spec_DrawLoopSet a0).2.2.1))), (44, .v .fr (.bool (cond (cond (cond (cond (!(v_laws_lwItems (v_impl_LoopSet (v_spec_DrawLoopSet a0).1 (v_spec_DrawLoopSet a0).2.1 (v_spec_DrawLoopSet a0).2.2.1) (v_spec_LoopSet (v_spec_DrawLoopSet a0).1 (v_spec_DrawLoopSet a0).2.1 (v_spec_DrawLoopSet a0).2.2.1))) true (!(v_spec_SetOk (v_spec_DrawLoopSet a0).1))) true (!(v_spec_SetOk (v_spec_DrawLoopSet a0).2.1))) true (cmp .lss (v_spec_DrawLoopSet a0).2.2.1 0)) true (cmp .geq (v_spec_DrawLoopSet a0).2.2.1 6))))]) (obs := [(p_spec_LoopSet (v_spec_DrawLoopSet a0).1 (v_spec_DrawLoopSet a0).2.1 (v_spec_DrawLoopSet a0).2.2.1), (p_laws_lwItems (v_impl_LoopSet (v_spec_DrawLoopSet a0).1 (v_spec_DrawLoopSet a0).2.1 (v_spec_DrawLoopSet a0).2.2.1) (v_spec_LoopSet (v_spec_DrawLoopSet a0).1 (v_spec_DrawLoopSet a0).2.1 (v_spec_DrawLoopSet a0).2.2.1)), (((!(!(v_laws_lwItems (v_impl_LoopSet (v_spec_DrawLoopSet a0).1 (v_spec_DrawLoopSet a0).2.1 (v_spec_DrawLoopSet a0).2.2.1) (v_spec_LoopSet (v_spec_DrawLoopSet a0).1 (v_spec_DrawLoopSet a0).2.1 (v_spec_DrawLoopSet a0).2.2.1)))) && true) = true → (p_spec_SetOk (v_spec_DrawLoopSet a0).1)), (((!(cond (!(v_laws_lwItems (v_impl_LoopSet (v_spec_DrawLoopSet a0).1 (v_spec_DrawLoopSet a0).2.1 (v_spec_DrawLoopSet a0).2.2.1) (v_spec_LoopSet (v_spec_DrawLoopSet a0).1 (v_spec_DrawLoopSet a0).2.1 (v_spec_DrawLoopSet a0).2.2.1))) true (!(v_spec_SetOk (v_spec_DrawLoopSet a0).1)))) && true) = true → (p_spec_SetOk (v_spec_DrawLoopSet a0).2.1))]) (by kernel_rfl) hb.2.2.1 ?_
    refine Ht.cond (o := .tmp 44) (c1 := (nav (bodyOf (Try.f8)) [1, 1, 1, 1, 0, 1, 0])) (c2 := (nav (bodyOf (Try.f8)) [1, 1, 1, 1, 0, 1, 1])) (b := (cond (cond (cond (cond (!(v_laws_lwItems (v_impl_LoopSet (v_spec_DrawLoopSet a0).1 (v_spec_DrawLoopSet a0).2.1 (v_spec_DrawLoopSet a0).2.2.1) (v_spec_LoopSet (v_spec_DrawLoopSet a0).1 (v_spec_DrawLoopSet a0).2.1 (v_spec_DrawLoopSet a0).2.2.1))) true (!(v_spec_SetOk (v_spec_DrawLoopSet a0).1))) true (!(v_spec_SetOk (v_spec_DrawLoopSet a0).2.1))) true (cmp .lss (v_spec_DrawLoopSet a0).2.2.1 0)) true (cmp .geq (v_spec_DrawLoopSet a0).2.2.1 6))) (by kernel_rfl) (by kernel_rfl) (fun h2 => ?_) (fun h2 => ?_)
    · have hb := hb.2.2.2.1 h2
      refine Ht.seq (c1 := (nav (bodyOf (Try.f8)) [1, 1, 1, 1, 0, 1, 0, 0])) (c2 := (nav (bodyOf (Try.f8)) [1, 1, 1, 1, 0, 1, 0, 1])) (by kernel_rfl) ?_
      refine Ht.reg G (keep := [2]) (e' := [(2, .v .fr (.bool (v_laws_lwItems (v_impl_LoopSet (v_spec_DrawLoopSet a0).1 (v_spec_DrawLoopSet a0).2.1 (v_spec_DrawLoopSet a0).2.2.1) (v_spec_LoopSet (v_spec_DrawLoopSet a0).1 (v_spec_DrawLoopSet a0).2.1 (v_spec_DrawLoopSet a0).2.2.1))))]) (obs := [(p_spec_LoopSet (v_spec_DrawLoopSet a0).1 (v_spec_DrawLoopSet a0).2.1 (v_spec_DrawLoopSet a0).2.2.1), (p_laws_lwItems (v_impl_LoopSet (v_spec_DrawLoopSet a0).1 (v_spec_DrawLoopSet a0).2.1 (v_spec_DrawLoopSet a0).2.2.1) (v_spec_LoopSet (v_spec_DrawLoopSet a0).1 (v_spec_DrawLoopSet a0).2.1 (v_spec_DrawLoopSet a0).2.2.1))]) (by kernel_rfl) hb.1 ?_
      refine Ht.ret (by kernel_rfl) ?_
      exact hr (v_laws_lwItems (v_impl_LoopSet (v_spec_DrawLoopSet a0).1 (v_spec_DrawLoopSet a0).2.1 (v_spec_DrawLoopSet a0).2.2.1) (v_spec_LoopSet (v_spec_DrawLoopSet a0).1 (v_spec_DrawLoopSet a0).2.1 (v_spec_DrawLoopSet a0).2.2.1)) (by simp only [laws_FnLoopFix_b, h1, h2]) _ (by kernel_rfl)
    · have hb := hb.2.2.2.2 h2
      refine Ht.skip (by kernel_rfl) ?_
      refine Ht.seq (c1 := (nav (bodyOf (Try.f8)) [1, 1, 1, 1, 1, 0])) (c2 := (nav (bodyOf (Try.f8)) [1, 1, 1, 1, 1, 1])) (by kernel_rfl) ?_
      refine Ht.seq (c1 := (nav (bodyOf (Try.f8)) [1, 1, 1, 1, 1, 0, 0])) (c2 := (nav (bodyOf (Try.f8)) [1, 1, 1, 1, 1, 0, 1])) (by kernel_rfl) ?_
      refine Ht.reg G (keep := [3, 4, 5, 6, 57]) (e' := [(3, .v .sh (.lst .item (v_spec_DrawLoopSet a0).1)), (4, .v .sh (.lst .item (v_spec_DrawLoopSet a0).2.1)), (5, .v .fr (.int .i64 (v_spec_DrawLoopSet a0).2.2.1)), (6, .v .fr (.lst .item (v_impl_LoopSet (v_spec_DrawLoopSet a0).1 (v_spec_DrawLoopSet a0).2.1 (v_spec_DrawLoopSet a0).2.2.1))), (57, .v .fr (.bool (!(v_laws_lwItems (v_impl_LoopStep (v_spec_DrawLoopSet a0).1 (v_spec_DrawLoopSet a0).2.1 (v_impl_LoopSet (v_spec_DrawLoopSet a0).1 (v_spec_DrawLoopSet a0).2.1 (v_spec_DrawLoopSet a0).2.2.1)) (v_impl_LoopSet (v_spec_DrawLoopSet a0).1 (v_spec_DrawLoopSet a0).2.1 (v_spec_DrawLoopSet a0).2.2.1)))))]) (obs := [(p_impl_LoopStep (v_spec_DrawLoopSet a0).1 (v_spec_DrawLoopSet a0).2.1 (v_impl_LoopSet (v_spec_DrawLoopSet a0).1 (v_spec_DrawLoopSet a0).2.1 (v_spec_DrawLoopSet a0).2.2.1)), (p_laws_lwItems (v_impl_LoopStep (v_spec_DrawLoopSet a0).1 (v_spec_DrawLoopSet a0).2.1 (v_impl_LoopSet (v_spec_DrawLoopSet a0).1 (v_spec_DrawLoopSet a0).2.1 (v_spec_DrawLoopSet a0).2.2.1)) (v_impl_LoopSet (v_spec_DrawLoopSet a0).1 (v_spec_DrawLoopSet a0).2.1 (v_spec_DrawLoopSet a0).2.2.1))]) (by kernel_rfl) hb.1 ?_
      refine Ht.cond (o := .tmp 57) (c1 := (nav (bodyOf (Try.f8)) [1, 1, 1, 1, 1, 0, 1, 0])) (c2 := (nav (bodyOf (Try.f8)) [1, 1, 1, 1, 1, 0, 1, 1])) (b := (!(v_laws_lwItems (v_impl_LoopStep (v_spec_DrawLoopSet a0).1 (v_spec_DrawLoopSet a0).2.1 (v_impl_LoopSet (v_spec_DrawLoopSet a0).1 (v_spec_DrawLoopSet a0).2.1 (v_spec_DrawLoopSet a0).2.2.1)) (v_impl_LoopSet (v_spec_DrawLoopSet a0).1 (v_spec_DrawLoopSet a0).2.1 (v_spec_DrawLoopSet a0).2.2.1)))) (by kernel_rfl) (by kernel_rfl) (fun h3 => ?_) (fun h3 => ?_)
      · have hb := hb.2.1 h3
        refine Ht.seq (c1 := (nav (bodyOf (Try.f8)) [1, 1, 1, 1, 1, 0, 1, 0, 0])) (c2 := (nav (bodyOf (Try.f8)) [1, 1, 1, 1, 1, 0, 1, 0, 1])) (by kernel_rfl) ?_
        refine Ht.reg G (keep := [2]) (e' := [(2, .v .fr (.bool true))]) (obs := []) (by kernel_rfl) hb.1 ?_
        refine Ht.ret (by kernel_rfl) ?_
        exact hr true (by simp only [laws_FnLoopFix_b, h1, h2, h3]) _ (by kernel_rfl)
      · have hb := hb.2.2 h3
        refine Ht.skip (by kernel_rfl) ?_
        refine Ht.seq (c1 := (nav (bodyOf (Try.f8)) [1, 1, 1, 1, 1, 1, 0])) (c2 := (nav (bodyOf (Try.f8)) [1, 1, 1, 1, 1, 1, 1])) (by kernel_rfl) ?_
        refine Ht.reg G (keep := [2]) (e' := [(2, .v .fr (.bool (cond (v_laws_lwItems (v_impl_LoopSet (v_spec_DrawLoopSet a0).1 (v_spec_DrawLoopSet a0).2.1 6) (v_impl_LoopSet (v_spec_DrawLoopSet a0).1 (v_spec_DrawLoopSet a0).2.1 (v_spec_DrawLoopSet a0).2.2.1)) (v_laws_lwItems (v_impl_LoopSet (v_spec_DrawLoopSet a0).1 (v_spec_DrawLoopSet a0).2.1 (ar .add .i64 (v_spec_DrawLoopSet a0).2.2.1 1)) (v_impl_LoopSet (v_spec_DrawLoopSet a0).1 (v_spec_DrawLoopSet a0).2.1 (v_spec_DrawLoopSet a0).2.2.1)) false)))]) (obs := [(p_impl_LoopSet (v_spec_DrawLoopSet a0).1 (v_spec_DrawLoopSet a0).2.1 6), (p_laws_lwItems (v_impl_LoopSet (v_spec_DrawLoopSet a0).1 (v_spec_DrawLoopSet a0).2.1 6) (v_impl_LoopSet (v_spec_DrawLoopSet a0).1 (v_spec_DrawLoopSet a0).2.1 (v_spec_DrawLoopSet a0).2.2.1)), (((v_laws_lwItems (v_impl_LoopSet (v_spec_DrawLoopSet a0).1 (v_spec_DrawLoopSet a0).2.1 6) (v_impl_LoopSet (v_spec_DrawLoopSet a0).1 (v_spec_DrawLoopSet a0).2.1 (v_spec_DrawLoopSet a0).2.2.1)) && true) = true → (p_impl_LoopSet (v_spec_DrawLoopSet a0).1 (v_spec_DrawLoopSet a0).2.1 (ar .add .i64 (v_spec_DrawLoopSet a0).2.2.1 1))), (((v_laws_lwItems (v_impl_LoopSet (v_spec_DrawLoopSet a0).1 (v_spec_DrawLoopSet a0).2.1 6) (v_impl_LoopSet (v_spec_DrawLoopSet a0).1 (v_spec_DrawLoopSet a0).2.1 (v_spec_DrawLoopSet a0).2.2.1)) && true) = true → (p_laws_lwItems (v_impl_LoopSet (v_spec_DrawLoopSet a0).1 (v_spec_DrawLoopSet a0).2.1 (ar .add .i64 (v_spec_DrawLoopSet a0).2.2.1 1)) (v_impl_LoopSet (v_spec_DrawLoopSet a0).1 (v_spec_DrawLoopSet a0).2.1 (v_spec_DrawLoopSet a0).2.2.1)))]) (by kernel_rfl) hb.1 ?_
        refine Ht.ret (by kernel_rfl) ?_
        exact hr (cond (v_laws_lwItems (v_impl_LoopSet (v_spec_DrawLoopSet a0).1 (v_spec_DrawLoopSet a0).2.1 6) (v_impl_LoopSet (v_spec_DrawLoopSet a0).1 (v_spec_DrawLoopSet a0).2.1 (v_spec_DrawLoopSet a0).2.2.1)) (v_laws_lwItems (v_impl_LoopSet (v_spec_DrawLoopSet a0).1 (v_spec_DrawLoopSet a0).2.1 (ar .add .i64 (v_spec_DrawLoopSet a0).2.2.1 1)) (v_impl_LoopSet (v_spec_DrawLoopSet a0).1 (v_spec_DrawLoopSet a0).2.1 (v_spec_DrawLoopSet a0).2.2.1)) false) (by simp only [laws_FnLoopFix_b, h1, h2, h3]) _ (by kernel_rfl)

noncomputable def v_laws_FnLoopFix (a0 : List Int) : Bool := ocR (laws_FnLoopFix_b a0)
def p_laws_FnLoopFix (a0 : List Int) : Prop := laws_FnLoopFix_b_ob a0
noncomputable def s_laws_FnLoopFix : Spec := ⟨[(.lst .byte)], .one .fr .bool, false, fun x => (v_laws_FnLoopFix x.1, 0), fun x => p_laws_FnLoopFix x.1⟩
theorem con_laws_FnLoopFix (G : Good Try.prog tt sp_laws_FnLoopFix) : Con Try.prog 8 s_laws_FnLoopFix :=
  con_of G.htt (fn := Try.f8) (c := bodyOf Try.f8) (by kernel_rfl) (by kernel_rfl) (by kernel_rfl) (rs := [.tmp 2]) (by kernel_rfl) (by kernel_rfl) (fun _ => rfl) fun x hp fr _ _ _ =>
    laws_FnLoopFix_b_ok G (fr := fr) x.1 hp
      (fun q h e he => ⟨by rw [show (s_laws_FnLoopFix.val x).1 = q from congrArg ocR h]; exact he, trivial⟩)

noncomputable def sp_laws_lwPlus : SP := []
noncomputable def laws_lwPlus_c2_r (x2 : List Item) (s6 : Int) : Oc (Int) Bool Unit Empty Empty :=
  match (cmp .lss s6 (lenI .item x2)) with
  | true =>
    match (cmp .lss (rd .item x2 s6).Count 0) with
    | true =>
      .r false
    | false =>
      .n (ar .add .i64 s6 1)
  | false =>
    .x ()
def laws_lwPlus_c2_r_ob (x2 : List Item) (s6 : Int) : Prop :=
  ((True)) ∧
  ((cmp .lss s6 (lenI .item x2)) = true →
    ((inb s6 (lenI .item x2)) ∧ (True)) ∧
    ((cmp .lss (rd .item x2 s6).Count 0) = true →
      ((True)) ∧
      True) ∧ ((cmp .lss (rd .item x2 s6).Count 0) = false →
      ((True)) ∧
      True)) ∧ ((cmp .lss s6 (lenI .item x2)) = false →
    True)
set_option maxRecDepth 100000 in
theorem laws_lwPlus_c2_r_ok (G : Good Try.prog tt sp_laws_lwPlus) {fr : Fr} (x2 : List Item) (s6 : Int) (hob : laws_lwPlus_c2_r_ob x2 s6) {n r : Env → Prop} {x : Nat → Env → Prop}
    (hn : ∀ (q10 : Int), (laws_lwPlus_c2_r x2 s6) = .n q10 → ∀ e, Weak e [(0, .v .sh (.lst .item x2)), (3, .v .fr (.int .i64 q10))] → n e)
    (hr : ∀ q, (laws_lwPlus_c2_r x2 s6) = .r q → ∀ e, retAv tt e [.tmp 2] (.one .fr .bool) = some (RT.av (.one .fr .bool) q) → r e)
    (hx : (laws_lwPlus_c2_r x2 s6) = .x () → ∀ e, Weak e [] → x 0 e) :
    Ht Try.prog ⟨(Try.f49).ntmps, none, []⟩ fr (nav (bodyOf (Try.f49)) [1, 0, 1, 0, 0]) [(0, .v .sh (.lst .item x2)), (3, .v .fr (.int .i64 s6))] n r x := by
  unfold laws_lwPlus_c2_r_ob at hob
  refine Ht.seq (c1 := (nav (bodyOf (Try.f49)) [1, 0, 1, 0, 0, 0])) (c2 := (nav (bodyOf (Try.f49)) [1, 0, 1, 0, 0, 1])) (by kernel_rfl) ?_
  refine Ht.seq (c1 := (nav (bodyOf (Try.f49)) [1, 0, 1, 0, 0, 0, 0])) (c2 := (nav (bodyOf (Try.f49)) [1, 0, 1, 0, 0, 0, 1])) (by kernel_rfl) ?_
  refine Ht.reg G (keep := [0, 3, 7]) (e' := [(0, .v .sh (.lst .item x2)), (3, .v .fr (.int .i64 s6)), (7, .v .fr (.bool (cmp .lss s6 (lenI .item x2))))]) (obs := []) (by kernel_rfl) hob.1 ?_
  refine Ht.cond (o := .tmp 7) (c1 := (nav (bodyOf (Try.f49)) [1, 0, 1, 0, 0, 0, 1, 0])) (c2 := (nav (bodyOf (Try.f49)) [1, 0, 1, 0, 0, 0, 1, 1])) (b := (cmp .lss s6 (lenI .item x2))) (by kernel_rfl) (by kernel_rfl) (fun h7 => ?_) (fun h7 => ?_)
  · have hb := hob.2.1 h7
    refine Ht.skip (by kernel_rfl) ?_
    refine Ht.seq (c1 := (nav (bodyOf (Try.f49)) [1, 0, 1, 0, 0, 1, 0])) (c2 := (nav (bodyOf (Try.f49)) [1, 0, 1, 0, 0, 1, 1])) (by kernel_rfl) ?_
    refine Ht.block (id := 1) (c1 := (nav (bodyOf (Try.f49)) [1, 0, 1, 0, 0, 1, 0, 0])) (by kernel_rfl) ?_
    refine Ht.seq (c1 := (nav (bodyOf (Try.f49)) [1, 0, 1, 0, 0, 1, 0, 0, 0])) (c2 := (nav (bodyOf (Try.f49)) [1, 0, 1, 0, 0, 1, 0, 0, 1])) (by kernel_rfl) ?_
    refine Ht.reg G (keep := [0, 3, 15]) (e' := [(0, .v .sh (.lst .item x2)), (3, .v .fr (.int .i64 s6)), (15, .v .fr (.bool (cmp .lss (rd .item x2 s6).Count 0)))]) (obs := [inb s6 (lenI .item x2)]) (by kernel_rfl) hb.1 ?_
    refine Ht.cond (o := .tmp 15) (c1 := (nav (bodyOf (Try.f49)) [1, 0, 1, 0, 0, 1, 0, 0, 1, 0])) (c2 := (nav (bodyOf (Try.f49)) [1, 0, 1, 0, 0, 1, 0, 0, 1, 1])) (b := (cmp .lss (rd .item x2 s6).Count 0)) (by kernel_rfl) (by kernel_rfl) (fun h8 => ?_) (fun h8 => ?_)
    · have hb := hb.2.1 h8
      refine Ht.seq (c1 := (nav (bodyOf (Try.f49)) [1, 0, 1, 0, 0, 1, 0, 0, 1, 0, 0])) (c2 := (nav (bodyOf (Try.f49)) [1, 0, 1, 0, 0, 1, 0, 0, 1, 0, 1])) (by kernel_rfl) ?_
      refine Ht.reg G (keep := [2]) (e' := [(2, .v .fr (.bool false))]) (obs := []) (by kernel_rfl) hb.1 ?_
      refine Ht.ret (by kernel_rfl) ?_
      exact hr false (by simp only [laws_lwPlus_c2_r, h7, h8]) _ (by kernel_rfl)
    · have hb := hb.2.2 h8
      refine Ht.skip (by kernel_rfl) ?_
      refine Ht.reg G (keep := [0, 3]) (e' := [(0, .v .sh (.lst .item x2)), (3, .v .fr (.int .i64 (ar .add .i64 s6 1)))]) (obs := []) (by kernel_rfl) hb.1 ?_
      exact hn (ar .add .i64 s6 1) (by simp only [laws_lwPlus_c2_r, h7, h8]) _ (Weak.cast (pat := [(0, .sh), (3, .fr)]) (by kernel_rfl) (by kernel_rfl))
  · have hb := hob.2.2 h7
    refine Ht.exit (i := 0) (by kernel_rfl) ?_
    exact hx (by simp only [laws_lwPlus_c2_r, h7]) _ (Weak.cast (pat := []) (by kernel_rfl) (by kernel_rfl))

noncomputable def laws_lwPlus_c2 (x2 : List Item) : Oc Empty Bool Unit Empty Empty := lpV (fun s => ocLp ((fun (s : Int) => laws_lwPlus_c2_r x2 s) s)) 0
def laws_lwPlus_c2_ob (x2 : List Item) : Prop := LpT (fun s => ocLp ((fun (s : Int) => laws_lwPlus_c2_r x2 s) s)) (fun s => laws_lwPlus_c2_r_ob x2 s) 0
set_option maxRecDepth 100000 in
theorem laws_lwPlus_c2_ok (G : Good Try.prog tt sp_laws_lwPlus) {fr : Fr} (x2 : List Item) (hob : laws_lwPlus_c2_ob x2) {n r : Env → Prop} {x : Nat → Env → Prop}
    (hr : ∀ q, (laws_lwPlus_c2 x2) = .r q → ∀ e, retAv tt e [.tmp 2] (.one .fr .bool) = some (RT.av (.one .fr .bool) q) → r e)
    (hx : (laws_lwPlus_c2 x2) = .x () → ∀ e, Weak e [] → x 0 e) :
    Ht Try.prog ⟨(Try.f49).ntmps, none, []⟩ fr (nav (bodyOf (Try.f49)) [1, 0, 1, 0]) [(0, .v .sh (.lst .item x2)), (3, .v .fr (.int .i64 0))] n r x := by
  unfold laws_lwPlus_c2_ob at hob
  refine Ht.weak (e' := (fun (s : Int) => [(0, .v .sh (.lst .item x2)), (3, .v .fr (.int .i64 s))]) 0) (Weak.cast (pat := [(0, .sh), (3, .fr)]) (by kernel_rfl) (by kernel_rfl)) ?_
  refine Ht.loopOc (c1 := (nav (bodyOf (Try.f49)) [1, 0, 1, 0, 0])) (by kernel_rfl) (fun (s : Int) => [(0, .v .sh (.lst .item x2)), (3, .v .fr (.int .i64 s))]) (fun (s : Int) => laws_lwPlus_c2_r x2 s) hob (RP := fun q e => retAv tt e [.tmp 2] (.one .fr .bool) = some (RT.av (.one .fr .bool) q)) (XP := (fun i _ e => i = 0 ∧ Weak e [])) (YP := (fun _ _ _ => False)) (ZP := (fun _ _ _ => False)) (fun s hs => ?_) ?_ ?_ ?_ ?_
  · refine laws_lwPlus_c2_r_ok G x2 s hs (fun q10 h e hw => ⟨q10, h, hw⟩) (fun q h e he => ⟨q, h, he⟩) (fun h e hw => .inl ⟨(), h, rfl, hw⟩)
  · exact fun q e h he => hr q h e he
  · rintro i q e h ⟨rfl, hw⟩
    exact hx h e hw
  · exact fun _ _ _ _ h => h.elim
  · exact fun _ _ _ _ h => h.elim


noncomputable def laws_lwPlus_c1 (x1 : List Item) : Oc Unit Bool Empty Empty Empty :=
  match (laws_lwPlus_c2 x1) with
  | .r q11 =>
    .r q11
  | .x () =>
    .n ()
  | .n q => q.elim
  | .y q => q.elim
  | .z q => q.elim
def laws_lwPlus_c1_ob (x1 : List Item) : Prop :=
  ((True)) ∧
  (laws_lwPlus_c2_ob x1) ∧
  ((laws_lwPlus_c2 x1) = .x () →
    True)
set_option maxRecDepth 100000 in
theorem laws_lwPlus_c1_ok (G : Good Try.prog tt sp_laws_lwPlus) {fr : Fr} (x1 : List Item) (hob : laws_lwPlus_c1_ob x1) {n r : Env → Prop} {x : Nat → Env → Prop}
    (hn : (laws_lwPlus_c1 x1) = .n () → ∀ e, Weak e [] → n e)
    (hr : ∀ q, (laws_lwPlus_c1 x1) = .r q → ∀ e, retAv tt e [.tmp 2] (.one .fr .bool) = some (RT.av (.one .fr .bool) q) → r e) :
    Ht Try.prog ⟨(Try.f49).ntmps, none, []⟩ fr (nav (bodyOf (Try.f49)) [1, 0]) [(0, .v .sh (.lst .item x1))] n r x := by
  unfold laws_lwPlus_c1_ob at hob
  refine Ht.seq (c1 := (nav (bodyOf (Try.f49)) [1, 0, 0])) (c2 := (nav (bodyOf (Try.f49)) [1, 0, 1])) (by kernel_rfl) ?_
  refine Ht.reg G (keep := [0, 3]) (e' := [(0, .v .sh (.lst .item x1)), (3, .v .fr (.int .i64 0))]) (obs := []) (by kernel_rfl) hob.1 ?_
  refine Ht.block (id := 0) (c1 := (nav (bodyOf (Try.f49)) [1, 0, 1, 0])) (by kernel_rfl) ?_
  refine Ht.weak (e' := [(0, .v .sh (.lst .item x1)), (3, .v .fr (.int .i64 0))]) (Weak.cast (pat := [(0, .same), (3, .same)]) (by kernel_rfl) (by kernel_rfl)) ?_
  refine laws_lwPlus_c2_ok G x1 hob.2.1 (fun q h12 e he => hr q (by simp only [laws_lwPlus_c1, h12]) e he) (fun h13 e hw => ?_)
  · have hb := hob.2.2 h13
    exact hn (by simp only [laws_lwPlus_c1, h13]) e (hw.trans (Weak.cast (pat := []) (by kernel_rfl) (by kernel_rfl)))

noncomputable def laws_lwPlus_b (a0 : List Item) : Oc Empty Bool Empty Empty Empty :=
  match (laws_lwPlus_c1 a0) with
  | .n () =>
    .r true
  | .r q15 =>
    .r q15
  | .x q => q.elim
  | .y q => q.elim
  | .z q => q.elim
def laws_lwPlus_b_ob (a0 : List Item) : Prop :=
  ((True)) ∧
  (laws_lwPlus_c1_ob a0) ∧
  ((laws_lwPlus_c1 a0) = .n () →
    ((True)) ∧
    True)
set_option maxRecDepth 100000 in
theorem laws_lwPlus_b_ok (G : Good Try.prog tt sp_laws_lwPlus) {fr : Fr} (a0 : List Item) (hob : laws_lwPlus_b_ob a0) {n r : Env → Prop} {x : Nat → Env → Prop}
    (hr : ∀ q, (laws_lwPlus_b a0) = .r q → ∀ e, retAv tt e [.tmp 2] (.one .fr .bool) = some (RT.av (.one .fr .bool) q) → r e) :
    Ht Try.prog ⟨(Try.f49).ntmps, none, []⟩ fr (nav (bodyOf (Try.f49)) []) [(0, .v .sh (.lst .item a0))] n r x := by
  unfold laws_lwPlus_b_ob at hob
  refine Ht.seq (c1 := (nav (bodyOf (Try.f49)) [0])) (c2 := (nav (bodyOf (Try.f49)) [1])) (by kernel_rfl) ?_
  refine Ht.reg G (keep := [0]) (e' := [(0, .v .sh (.lst .item a0))]) (obs := []) (by kernel_rfl) hob.1 ?_
  refine Ht.seq (c1 := (nav (bodyOf (Try.f49)) [1, 0])) (c2 := (nav (bodyOf (Try.f49)) [1, 1])) (by kernel_rfl) ?_
  refine Ht.weak (e' := [(0, .v .sh (.lst .item a0))]) (Weak.cast (pat := [(0, .same)]) (by kernel_rfl) (by kernel_rfl)) ?_
  refine laws_lwPlus_c1_ok G a0 hob.2.1 (fun h14 e hw => ?_) (fun q h16 e he => hr q (by simp only [laws_lwPlus_b, h16]) e he)
  · have hb := hob.2.2 h14
    refine Ht.weak hw ?_
    refine Ht.seq (c1 := (nav (bodyOf (Try.f49)) [1, 1, 0])) (c2 := (nav (bodyOf (Try.f49)) [1, 1, 1])) (by kernel_rfl) ?_
    refine Ht.reg G (keep := [2]) (e' := [(2, .v .fr (.bool true))]) (obs := []) (by kernel_rfl) hb.1 ?_
    refine Ht.ret (by kernel_rfl) ?_
    exact hr true (by simp only [laws_lwPlus_b, h14]) _ (by kernel_rfl)

noncomputable def v_laws_lwPlus (a0 : List Item) : Bool := ocR (laws_lwPlus_b a0)
def p_laws_lwPlus (a0 : List Item) : Prop := laws_lwPlus_b_ob a0
noncomputable def s_laws_lwPlus : Spec := ⟨[(.lst .item)], .one .fr .bool, false, fun x => (v_laws_lwPlus x.1, 0), fun x => p_laws_lwPlus x.1⟩
theorem con_laws_lwPlus (G : Good Try.prog tt sp_laws_lwPlus) : Con Try.prog 49 s_laws_lwPlus :=
  con_of G.htt (fn := Try.f49) (c := bodyOf Try.f49) (by kernel_rfl) (by kernel_rfl) (by kernel_rfl) (rs := [.tmp 2]) (by kernel_rfl) (by kernel_rfl) (fun _ => rfl) fun x hp fr _ _ _ =>
    laws_lwPlus_b_ok G (fr := fr) x.1 hp
      (fun q h e he => ⟨by rw [show (s_laws_lwPlus.val x).1 = q from congrArg ocR h]; exact he, trivial⟩)

noncomputable def sp_laws_FnLoopFour : SP := [(48, s_spec_DrawLoopSet), (43, s_impl_LoopSet), (42, s_spec_LoopSet), (45, s_laws_lwItems), (46, s_spec_SetOk), (49, s_laws_lwPlus)]
noncomputable def laws_FnLoopFour_b (a0 : List Int) : Oc Empty Bool Empty Empty Empty :=
  match (cmp .gtr (lenI .byte a0) 1048576) with
  | true =>
    .r true
  | false =>
    match (cond (cond (cond (cond (!(v_laws_lwItems (v_impl_LoopSet (v_spec_DrawLoopSet a0).1 (v_spec_DrawLoopSet a0).2.1 (v_spec_DrawLoopSet a0).2.2.1) (v_spec_LoopSet (v_spec_DrawLoopSet a0).1 (v_spec_DrawLoopSet a0).2.1 (v_spec_DrawLoopSet a0).2.2.1))) true (!(v_spec_SetOk (v_spec_DrawLoopSet a0).1))) true (!(v_spec_SetOk (v_spec_DrawLoopSet a0).2.1))) true (!(v_laws_lwPlus (v_spec_DrawLoopSet a0).1))) true (!(v_laws_lwPlus (v_spec_DrawLoopSet a0).2.1))) with
    | true =>
      .r (v_laws_lwItems (v_impl_LoopSet (v_spec_DrawLoopSet a0).1 (v_spec_DrawLoopSet a0).2.1 (v_spec_DrawLoopSet a0).2.2.1) (v_spec_LoopSet (v_spec_DrawLoopSet a0).1 (v_spec_DrawLoopSet a0).2.1 (v_spec_DrawLoopSet a0).2.2.1))
    | false =>
      .r (v_laws_lwItems (v_impl_LoopSet (v_spec_DrawLoopSet a0).1 (v_spec_DrawLoopSet a0).2.1 4) (v_impl_LoopSet (v_spec_DrawLoopSet a0).1 (v_spec_DrawLoopSet a0).2.1 6))
def laws_FnLoopFour_b_ob (a0 : List Int) : Prop :=
  ((True)) ∧
  ((True)) ∧
  ((cmp .gtr (lenI .byte a0) 1048576) = true →
    ((True)) ∧
    True) ∧ ((cmp .gtr (lenI .byte a0) 1048576) = false →
    (((p_spec_DrawLoopSet a0)) ∧ (True)) ∧
    (((p_impl_LoopSet (v_spec_DrawLoopSet a0).1 (v_spec_DrawLoopSet a0).2.1 (v_spec_DrawLoopSet a0).2.2.1)) ∧ (True)) ∧
    (((p_spec_LoopSet (v_spec_DrawLoopSet a0).1 (v_spec_DrawLoopSet a0).2.1 (v_spec_DrawLoopSet a0).2.2.1)) ∧ ((p_laws_lwItems (v_impl_LoopSet (v_spec_DrawLoopSet a0).1 (v_spec_DrawLoopSet a0).2.1 (v_spec_DrawLoopSet a0).2.2.1) (v_spec_LoopSet (v_spec_DrawLoopSet a0).1 (v_spec_DrawLoopSet a0).2.1 (v_spec_DrawLoopSet a0).2.2.1))) ∧ ((((!(!(v_laws_lwItems (v_impl_LoopSet (v_spec_DrawLoopSet a0).1 (v_spec_DrawLoopSet a0).2.1 (v_spec_DrawLoopSet a0).2.2.1) (v_spec_LoopSet (v_spec_DrawLoopSet a0).1 (v_spec_DrawLoopSet a0).2.1 (v_spec_DrawLoopSet a0).2.2.1)))) && true) = true → (p_spec_SetOk (v_spec_DrawLoopSet a0).1))) ∧ ((((!(cond (!(v_laws_lwItems (v_impl_LoopSet (v_spec_DrawLoopSet a0).1 (v_spec_DrawLoopSet a0).2.1 (v_spec_DrawLoopSet a0).2.2.1) (v_spec_LoopSet (v_spec_DrawLoopSet a0).1 (v_spec_DrawLoopSet a0).2.1 (v_spec_DrawLoopSet a0).2.2.1))) true (!(v_spec_SetOk (v_spec_DrawLoopSet a0).1)))) && true) = true → (p_spec_SetOk (v_spec_DrawLoopSet a0).2.1))) ∧ ((((!(cond (cond (!(v_laws_lwItems (v_impl_LoopSet (v_spec_DrawLoopSet a0).1 (v_spec_DrawLoopSet a0).2.1 (v_spec_DrawLoopSet a0).2.2.1) (v_spec_LoopSet (v_spec_DrawLoopSet a0).1 (v_spec_DrawLoopSet a0).2.1 (v_spec_DrawLoopSet a0).2.2.1))) true (!(v_spec_SetOk (v_spec_DrawLoopSet a0).1))) true (!(v_spec_SetOk (v_spec_DrawLoopSet a0).2.1)))) && true) = true → (p_laws_lwPlus (v_spec_DrawLoopSet a0).1))) ∧ ((((!(cond (cond (cond (!(v_laws_lwItems (v_impl_LoopSet (v_spec_DrawLoopSet a0).1 (v_spec_DrawLoopSet a0).2.1 (v_spec_DrawLoopSet a0).2.2.1) (v_spec_LoopSet (v_spec_DrawLoopSet a0).1 (v_spec_DrawLoopSet a0).2.1 (v_spec_DrawLoopSet a0).2.2.1))) true (!(v_spec_SetOk (v_spec_DrawLoopSet a0).1))) true (!(v_spec_SetOk (v_spec_DrawLoopSet a0).2.1))) true (!(v_laws_lwPlus (v_spec_DrawLoopSet a0).1)))) && true) = true → (p_laws_lwPlus (v_spec_DrawLoopSet a0).2.1))) ∧ (True)) ∧
    ((cond (cond (cond (cond (!(v_laws_lwItems (v_impl_LoopSet (v_spec_DrawLoopSet a0).1 (v_spec_DrawLoopSet a0).2.1 (v_spec_DrawLoopSet a0).2.2.1) (v_spec_LoopSet (v_spec_DrawLoopSet a0).1 (v_spec_DrawLoopSet a0).2.1 (v_spec_DrawLoopSet a0).2.2.1))) true (!(v_spec_SetOk (v_spec_DrawLoopSet a0).1))) true (!(v_spec_SetOk (v_spec_DrawLoopSet a0).2.1))) true (!(v_laws_lwPlus (v_spec_DrawLoopSet a0).1))) true (!(v_laws_lwPlus (v_spec_DrawLoopSet a0).2.1))) = true →
      (((p_spec_LoopSet (v_spec_DrawLoopSet a0).1 (v_spec_DrawLoopSet a0).2.1 (v_spec_DrawLoopSet a0).2.2.1)) ∧ ((p_laws_lwItems (v_impl_LoopSet (v_spec_DrawLoopSet a0).1 (v_spec_DrawLoopSet a0).2.1 (v_spec_DrawLoopSet a0).2.2.1) (v_spec_LoopSet (v_spec_DrawLoopSet a0).1 (v_spec_DrawLoopSet a0).2.1 (v_spec_DrawLoopSet a0).2.2.1))) ∧ (True)) ∧
      True) ∧ ((cond (cond (cond (cond (!(v_laws_lwItems (v_impl_LoopSet (v_spec_DrawLoopSet a0).1 (v_spec_DrawLoopSet a0).2.1 (v_spec_DrawLoopSet a0).2.2.1) (v_spec_LoopSet (v_spec_DrawLoopSet a0).1 (v_spec_DrawLoopSet a0).2.1 (v_spec_DrawLoopSet a0).2.2.1))) true (!(v_spec_SetOk (v_spec_DrawLoopSet a0).1))) true (!(v_spec_SetOk (v_spec_DrawLoopSet a0).2.1))) true (!(v_laws_lwPlus (v_spec_DrawLoopSet a0).1))) true (!(v_laws_lwPlus (v_spec_DrawLoopSet a0).2.1))) = false →
      (((p_impl_LoopSet (v_spec_DrawLoopSet a0).1 (v_spec_DrawLoopSet a0).2.1 4)) ∧ ((p_impl_LoopSet (v_spec_DrawLoopSet a0).1 (v_spec_DrawLoopSet a0).2.1 6)) ∧ ((p_laws_lwItems (v_impl_LoopSet (v_spec_DrawLoopSet a0).1 (v_spec_DrawLoopSet a0).2.1 4) (v_impl_LoopSet (v_spec_DrawLoopSet a0).1 (v_spec_DrawLoopSet a0).2.1 6))) ∧ (True)) ∧
      True))
set_option maxRecDepth 100000 in
theorem laws_FnLoopFour_b_ok (G : Good Try.prog tt sp_laws_FnLoopFour) {fr : Fr} (a0 : List Int) (hob : laws_FnLoopFour_b_ob a0) {n r : Env → Prop} {x : Nat → Env → Prop}
    (hr : ∀ q, (laws_FnLoopFour_b a0) = .r q → ∀ e, retAv tt e [.tmp 2] (.one .fr .bool) = some (RT.av (.one .fr .bool) q) → r e) :
    Ht Try.prog ⟨(Try.f9).ntmps, none, []⟩ fr (nav (bodyOf (Try.f9)) []) [(0, .v .sh (.lst .byte a0))] n r x := by
  unfold laws_FnLoopFour_b_ob at hob
  refine Ht.seq (c1 := (nav (bodyOf (Try.f9)) [0])) (c2 := (nav (bodyOf (Try.f9)) [1])) (by kernel_rfl) ?_
  refine Ht.reg G (keep := [0]) (e' := [(0, .v .sh (.lst .byte a0))]) (obs := []) (by kernel_rfl) hob.1 ?_
  refine Ht.seq (c1 := (nav (bodyOf (Try.f9)) [1, 0])) (c2 := (nav (bodyOf (Try.f9)) [1, 1])) (by kernel_rfl) ?_
  refine Ht.seq (c1 := (nav (bodyOf (Try.f9)) [1, 0, 0])) (c2 := (nav (bodyOf (Try.f9)) [1, 0, 1])) (by kernel_rfl) ?_
  refine Ht.reg G (keep := [0, 9]) (e' := [(0, .v .sh (.lst .byte a0)), (9, .v .fr (.bool (cmp .gtr (lenI .byte a0) 1048576)))]) (obs := []) (by kernel_rfl) hob.2.1 ?_
  refine Ht.cond (o := .tmp 9) (c1 := (nav (bodyOf (Try.f9)) [1, 0, 1, 0])) (c2 := (nav (bodyOf (Try.f9)) [1, 0, 1, 1])) (b := (cmp .gtr (lenI .byte a0) 1048576)) (by kernel_rfl) (by kernel_rfl) (fun h1 => ?_) (fun h1 => ?_)
  · have hb := hob.2.2.1 h1
    refine Ht.seq (c1 := (nav (bodyOf (Try.f9)) [1, 0, 1, 0, 0])) (c2 := (nav (bodyOf (Try.f9)) [1, 0, 1, 0, 1])) (by kernel_rfl) ?_
    refine Ht.reg G (keep := [2]) (e' := [(2, .v .fr (.bool true))]) (obs := []) (by kernel_rfl) hb.1 ?_
    refine Ht.ret (by kernel_rfl) ?_
    exact hr true (by simp only [laws_FnLoopFour_b, h1]) _ (by kernel_rfl)
  · have hb := hob.2.2.2 h1
    refine Ht.skip (by kernel_rfl) ?_
    refine Ht.seq (c1 := (nav (bodyOf (Try.f9)) [1, 1, 0])) (c2 := (nav (bodyOf (Try.f9)) [1, 1, 1])) (by kernel_rfl) ?_
    refine Ht.reg G (keep := [3, 4, 5]) (e' := [(3, .v .sh (.lst .item (v_spec_DrawLoopSet a0).1)), (4, .v .sh (.lst .item (v_spec_DrawLoopSet a0).2.1)), (5, .v .fr (.int .i64 (v_spec_DrawLoopSet a0).2.2.1))]) (obs := [(p_spec_DrawLoopSet a0)]) (by kernel_rfl) hb.1 ?_
    refine Ht.seq (c1 := (nav (bodyOf (Try.f9)) [1, 1, 1, 0])) (c2 := (nav (bodyOf (Try.f9)) [1, 1, 1, 1])) (by kernel_rfl) ?_
    refine Ht.reg G (keep := [3, 4, 5, 6]) (e' := [(3, .v .sh (.lst .item (v_spec_DrawLoopSet a0).1)), (4, .v .sh (.lst .item (v_spec_DrawLoopSet a0).2.1)), (5, .v .fr (.int .i64 (v_spec_DrawLoopSet a0).2.2.1)), (6, .v .fr (.lst .item (v_impl_LoopSet (v_spec_DrawLoopSet a0).1 (v_spec_DrawLoopSet a0).2.1 (v_spec_DrawLoopSet a0).2.2.1)))]) (obs := [(p_impl_LoopSet (v_spec_DrawLoopSet a0).1 (v_spec_DrawLoopSet a0).2.1 (v_spec_DrawLoopSet a0).2.2.1)]) (by kernel_rfl) hb.2.1 ?_
    refine Ht.seq (c1 := (nav (bodyOf (Try.f9)) [1, 1, 1, 1, 0])) (c2 := (nav (bodyOf (Try.f9)) [1, 1, 1, 1, 1])) (by kernel_rfl) ?_
    refine Ht.seq (c1 := (nav (bodyOf (Try.f9)) [1, 1, 1, 1, 0, 0])) (c2 := (nav (bodyOf (Try.f9)) [1, 1, 1, 1, 0, 1])) (by kernel_rfl) ?_
    refine Ht.reg G (keep := [3, 4, 5, 6, 46]) (e' := [(3, .v .sh (.lst .item (v_spec_DrawLoopSet a0).1)), (4, .v .sh (.lst .item (v_spec_DrawLoopSet a0).2.1)), (5, .v .fr (.int .i64 (v_spec_DrawLoopSet a0).2.2.1)), (6, .v .fr (.lst .item (v_impl_LoopSet (v_spec_DrawLoopSet a0).1 (v_spec_DrawLoopSet a0).2.1 (v_spec_DrawLoopSet a0).2.2.1))), (46, .v .fr (.bool (cond (cond (cond (cond (!(v_laws_lwItems (v_impl_LoopSet (v_spec_DrawLoopSet a0).1 (v_spec_DrawLoopSet a0).2.1 (v_spec_DrawLoopSet a0).2.2.1) (v_spec_LoopSet (v_spec_DrawLoopSet a0).1 (v_spec_DrawLoopSet a0).2.1 (v_spec_DrawLoopSet a0).2.2.1))) true (!(v_spec_SetOk (v_spec_DrawLoopSet a0).1))) true (!(v_spec_SetOk (v_spec_DrawLoopSet a0).2.1))) true (!(v_laws_lwPlus (v_spec_DrawLoopSet a0).1))) true (!(v_laws_lwPlus (v_spec_DrawLoopSet a0).2.1)))))]) (obs := [(p_spec_LoopSet (v_spec_DrawLoopSet a0).1 (v_spec_DrawLoopSet a0).2.1 (v_spec_DrawLoopSet a0).2.2.1), (p_laws_lwItems (v_impl_LoopSet (v_spec_DrawLoopSet a0).1 (v_spec_DrawLoopSet a0).2.1 (v_spec_DrawLoopSet a0).2.2.1) (v_spec_LoopSet (v_spec_DrawLoopSet a0).1 (v_spec_DrawLoopSet a0).2.1 (v_spec_DrawLoopSet a0).2.2.1)), (((!(!(v_laws_lwItems (v_impl_LoopSet (v_spec_DrawLoopSet a0).1 (v_spec_DrawLoopSet a0).2.1 (v_spec_DrawLoopSet a0).2.2.1) (v_spec_LoopSet (v_spec_DrawLoopSet a0).1 (v_spec_DrawLoopSet a0).2.1 (v_spec_DrawLoopSet a0).2.2.1)))) && true) = true → (p_spec_SetOk (v_spec_DrawLoopSet a0).1)), (((!(cond (!(v_laws_lwItems (v_impl_LoopSet (v_spec_DrawLoopSet a0).1 (v_spec_DrawLoopSet a0).2.1 (v_spec_DrawLoopSet a0).2.2.1) (v_spec_LoopSet (v_spec_DrawLoopSet a0).1 (v_spec_DrawLoopSet a0).2.1 (v_spec_DrawLoopSet a0).2.2.1))) true (!(v_spec_SetOk (v_spec_DrawLoopSet a0).1)))) && true) = true → (p_spec_SetOk (v_spec_DrawLoopSet a0).2.1)), (((!(cond (cond (!(v_laws_lwItems (v_impl_LoopSet (v_spec_DrawLoopSet a0).1 (v_spec_DrawLoopSet a0).2.1 (v_spec_DrawLoopSet a0).2.2.1) (v_spec_LoopSet (v_spec_DrawLoopSet a0).1 (v_spec_DrawLoopSet a0).2.1 (v_spec_DrawLoopSet a0).2.2.1))) true (!(v_spec_SetOk (v_spec_DrawLoopSet a0).1))) true (!(v_spec_SetOk (v_spec_DrawLoopSet a0).2.1)))) && true) = true → (p_laws_lwPlus (v_spec_DrawLoopSet a0).1)), (((!(cond (cond (cond (!(v_laws_lwItems (v_impl_LoopSet (v_spec_DrawLoopSet a0).1 (v_spec_DrawLoopSet a0).2.1 (v_spec_DrawLoopSet a0).2.2.1) (v_spec_LoopSet (v_spec_DrawLoopSet a0).1 (v_spec_DrawLoopSet a0).2.1 (v_spec_DrawLoopSet a0).2.2.1))) true (!(v_spec_SetOk (v_spec_DrawLoopSet a0).1))) true (!(v_spec_SetOk (v_spec_DrawLoopSet a0).2.1))) true (!(v_laws_lwPlus (v_spec_DrawLoopSet a0).1)))) && true) = true → (p_laws_lwPlus (v_spec_DrawLoopSet a0).2.1))]) (by kernel_rfl) hb.2.2.1 ?_
    refine Ht.cond (o := .tmp 46) (c1 := (nav (bodyOf (Try.f9)) [1, 1, 1, 1, 0, 1, 0])) (c2 := (nav (bodyOf (Try.f9)) [1, 1, 1, 1, 0, 1, 1])) (b := (cond (cond (cond (cond (!(v_laws_lwItems (v_impl_LoopSet (v_spec_DrawLoopSet a0).1 (v_spec_DrawLoopSet a0).2.1 (v_spec_DrawLoopSet a0).2.2.1) (v_spec_LoopSet (v_spec_DrawLoopSet a0).1 (v_spec_DrawLoopSet a0).2.1 (v_spec_DrawLoopSet a0).2.2.1))) true (!(v_spec_SetOk (v_spec_DrawLoopSet a0).1))) true (!(v_spec_SetOk (v_spec_DrawLoopSet a0).2.1))) true (!(v_laws_lwPlus (v_spec_DrawLoopSet a0).1))) true (!(v_laws_lwPlus (v_spec_DrawLoopSet a0).2.1)))) (by kernel_rfl) (by kernel_rfl) (fun h2 => ?_) (fun h2 => ?_)
    · have hb := hb.2.2.2.1 h2
      refine Ht.seq (c1 := (nav (bodyOf (Try.f9)) [1, 1, 1, 1, 0, 1, 0, 0])) (c2 := (nav (bodyOf (Try.f9)) [1, 1, 1, 1, 0, 1, 0, 1])) (by kernel_rfl) ?_
      refine Ht.reg G (keep := [2]) (e' := [(2, .v .fr (.bool (v_laws_lwItems (v_impl_LoopSet (v_spec_DrawLoopSet a0).1 (v_spec_DrawLoopSet a0).2.1 (v_spec_DrawLoopSet a0).2.2.1) (v_spec_LoopSet (v_spec_DrawLoopSet a0).1 (v_spec_DrawLoopSet a0).2.1 (v_spec_DrawLoopSet a0).2.2.1))))]) (obs := [(p_spec_LoopSet (v_spec_DrawLoopSet a0).1 (v_spec_DrawLoopSet a0).2.1 (v_spec_DrawLoopSet a0).2.2.1), (p_laws_lwItems (v_impl_LoopSet (v_spec_DrawLoopSet a0).1 (v_spec_DrawLoopSet a0).2.1 (v_spec_DrawLoopSet a0).2.2.1) (v_spec_LoopSet (v_spec_DrawLoopSet a0).1 (v_spec_DrawLoopSet a0).2.1 (v_spec_DrawLoopSet a0).2.2.1))]) (by kernel_rfl) hb.1 ?_
      refine Ht.ret (by kernel_rfl) ?_
      exact hr (v_laws_lwItems (v_impl_LoopSet (v_spec_DrawLoopSet a0).1 (v_spec_DrawLoopSet a0).2.1 (v_spec_DrawLoopSet a0).2.2.1) (v_spec_LoopSet (v_spec_DrawLoopSet a0).1 (v_spec_DrawLoopSet a0).2.1 (v_spec_DrawLoopSet a0).2.2.1)) (by simp only [laws_FnLoopFour_b, h1, h2]) _ (by kernel_rfl)
    · have hb := hb.2.2.2.2 h2
      refine Ht.skip (by kernel_rfl) ?_
      refine Ht.seq (c1 := (nav (bodyOf (Try.f9)) [1, 1, 1, 1, 1, 0])) (c2 := (nav (bodyOf (Try.f9)) [1, 1, 1, 1, 1, 1])) (by kernel_rfl) ?_
      refine Ht.reg G (keep := [2]) (e' := [(2, .v .fr (.bool (v_laws_lwItems (v_impl_LoopSet (v_spec_DrawLoopSet a0).1 (v_spec_DrawLoopSet a0).2.1 4) (v_impl_LoopSet (v_spec_DrawLoopSet a0).1 (v_spec_DrawLoopSet a0).2.1 6))))]) (obs := [(p_impl_LoopSet (v_spec_DrawLoopSet a0).1 (v_spec_DrawLoopSet a0).2.1 4), (p_impl_LoopSet (v_spec_DrawLoopSet a0).1 (v_spec_DrawLoopSet a0).2.1 6), (p_laws_lwItems (v_impl_LoopSet (v_spec_DrawLoopSet a0).1 (v_spec_DrawLoopSet a0).2.1 4) (v_impl_LoopSet (v_spec_DrawLoopSet a0).1 (v_spec_DrawLoopSet a0).2.1 6))]) (by kernel_rfl) hb.1 ?_
      refine Ht.ret (by kernel_rfl) ?_
      exact hr (v_laws_lwItems (v_impl_LoopSet (v_spec_DrawLoopSet a0).1 (v_spec_DrawLoopSet a0).2.1 4) (v_impl_LoopSet (v_spec_DrawLoopSet a0).1 (v_spec_DrawLoopSet a0).2.1 6)) (by simp only [laws_FnLoopFour_b, h1, h2]) _ (by kernel_rfl)

noncomputable def v_laws_FnLoopFour (a0 : List Int) : Bool := ocR (laws_FnLoopFour_b a0)
def p_laws_FnLoopFour (a0 : List Int) : Prop := laws_FnLoopFour_b_ob a0
noncomputable def s_laws_FnLoopFour : Spec := ⟨[(.lst .byte)], .one .fr .bool, false, fun x => (v_laws_FnLoopFour x.1, 0), fun x => p_laws_FnLoopFour x.1⟩
theorem con_laws_FnLoopFour (G : Good Try.prog tt sp_laws_FnLoopFour) : Con Try.prog 9 s_laws_FnLoopFour :=
  con_of G.htt (fn := Try.f9) (c := bodyOf Try.f9) (by kernel_rfl) (by kernel_rfl) (by kernel_rfl) (rs := [.tmp 2]) (by kernel_rfl) (by kernel_rfl) (fun _ => rfl) fun x hp fr _ _ _ =>
    laws_FnLoopFour_b_ok G (fr := fr) x.1 hp
      (fun q h e he => ⟨by rw [show (s_laws_FnLoopFour.val x).1 = q from congrArg ocR h]; exact he, trivial⟩)


end Go.Proofs.Ytopcofkpggefkaa
