/-
  Printed by a program: what functions compute, and their contracts (part 1). No statement is proved here.
-/
import Derived.Test.YtopcofkpggefkaaC3
import Derived.Test.YtopcofkpggefkaaProg

namespace Go.Proofs.Ytopcofkpggefkaa
open Go
def tt : TT := [(2, ⟨.scalar, 1, [.int .i64 0], some .int, false⟩),
  (3, ⟨.scalar, 1, [.int .i64 0], some .int, false⟩),
  (4, ⟨.scalar, 1, [.bool false], some .bool, false⟩),
  (5, ⟨.scalar, 1, [.int .u8 0], some .byte, false⟩),
  (6, ⟨.scalar, 1, [.int .u8 0], some .byte, false⟩),
  (7, ⟨(.struct [(0, 1), (1, 1), (2, 1), (3, 1)]), 4, [.int .i64 0, .int .i64 0, .bool false, .int .u8 0], none, false⟩),
  (8, ⟨(.struct [(0, 1), (1, 1), (2, 1), (3, 1)]), 4, [.int .i64 0, .int .i64 0, .bool false, .int .u8 0], none, false⟩),
  (9, ⟨.scalar, 1, [.str ByteArray.empty], some .str, false⟩),
  (10, ⟨.scalar, 1, [.str ByteArray.empty], some .str, false⟩),
  (11, ⟨.scalar, 1, [.str ByteArray.empty], some .str, false⟩),
  (12, ⟨.scalar, 1, [.int .u64 0], none, false⟩),
  (13, ⟨(.struct [(0, 1), (1, 1)]), 2, [.str ByteArray.empty, .int .u64 0], none, false⟩),
  (14, ⟨(.struct [(0, 1), (1, 1)]), 2, [.str ByteArray.empty, .int .u64 0], none, false⟩),
  (21, ⟨.scalar, 1, [.int .i32 0], none, false⟩),
  (22, ⟨(.slice 24), 1, [.nl .plan], none, false⟩),
  (23, ⟨(.struct [(0, 1), (1, 1), (2, 1)]), 3, [.int .i64 0, .int .i64 0, .nl .plan], some .plan, false⟩),
  (24, ⟨(.struct [(0, 1), (1, 1), (2, 1)]), 3, [.int .i64 0, .int .i64 0, .nl .plan], some .plan, false⟩),
  (26, ⟨(.slice 28), 1, [.nl .plan], none, false⟩),
  (27, ⟨(.struct [(0, 1), (1, 1), (2, 1)]), 3, [.int .i64 0, .int .i64 0, .nl .plan], some .plan, false⟩),
  (28, ⟨(.struct [(0, 1), (1, 1), (2, 1)]), 3, [.int .i64 0, .int .i64 0, .nl .plan], some .plan, false⟩),
  (29, ⟨(.slice 31), 1, [.nl .lrow], none, false⟩),
  (30, ⟨(.slice 74), 1, [.nl .time], none, false⟩),
  (31, ⟨(.slice 76), 1, [.nl .row], some .lrow, false⟩),
  (42, ⟨(.slice 100), 1, [.nl .item], some .litem, false⟩),
  (44, ⟨(.slice 64), 1, [.nl .item], some .litem, false⟩),
  (50, ⟨(.slice 106), 1, [.nl .row], some .lrow, false⟩),
  (59, ⟨(.slice 5), 1, [.nl .byte], none, false⟩),
  (63, ⟨(.struct [(0, 1), (1, 1), (2, 1)]), 3, [.int .i64 0, .int .i64 0, .int .i64 0], some .item, true⟩),
  (64, ⟨(.struct [(0, 1), (1, 1), (2, 1)]), 3, [.int .i64 0, .int .i64 0, .int .i64 0], some .item, true⟩),
  (73, ⟨(.struct [(0, 1), (1, 1)]), 2, [.int .i64 0, .int .i64 0], some .time, true⟩),
  (74, ⟨(.struct [(0, 1), (1, 1)]), 2, [.int .i64 0, .int .i64 0], some .time, true⟩),
  (75, ⟨(.struct [(0, 1), (1, 1), (2, 2), (4, 1)]), 5, [.int .i64 0, .int .i64 0, .int .i64 0, .int .i64 0, .int .i64 0], some .row, true⟩),
  (76, ⟨(.struct [(0, 1), (1, 1), (2, 2), (4, 1)]), 5, [.int .i64 0, .int .i64 0, .int .i64 0, .int .i64 0, .int .i64 0], some .row, true⟩),
  (100, ⟨(.struct [(0, 1), (1, 1), (2, 1)]), 3, [.int .i64 0, .int .i64 0, .int .i64 0], some .item, true⟩),
  (104, ⟨(.struct [(0, 1), (1, 1)]), 2, [.int .i64 0, .int .i64 0], some .time, true⟩),
  (105, ⟨(.struct [(0, 1), (1, 1), (2, 2), (4, 1)]), 5, [.int .i64 0, .int .i64 0, .int .i64 0, .int .i64 0, .int .i64 0], some .row, true⟩),
  (106, ⟨(.struct [(0, 1), (1, 1), (2, 2), (4, 1)]), 5, [.int .i64 0, .int .i64 0, .int .i64 0, .int .i64 0, .int .i64 0], some .row, true⟩),
  (116, ⟨(.slice 3), 1, [.nl .int], none, false⟩),
  (131, ⟨(.struct [(0, 1), (1, 1)]), 2, [.nl .byte, .int .i64 0], none, false⟩),
  (132, ⟨(.struct [(0, 1), (1, 1)]), 2, [.nl .byte, .int .i64 0], none, false⟩),
  (145, ⟨.scalar, 1, [.int .u64 0], none, false⟩),
  (152, ⟨.scalar, 1, [.int .u64 0], none, false⟩),
  (164, ⟨.scalar, 1, [.int .u32 0], none, false⟩),
  (166, ⟨.scalar, 1, [.int .u64 0], none, false⟩),
  (168, ⟨.scalar, 1, [.int .i64 0], some .int, false⟩),
  (180, ⟨.scalar, 1, [.int .u64 0], none, false⟩),
  (197, ⟨.scalar, 1, [.int .u8 0], some .byte, false⟩),
  (198, ⟨.scalar, 1, [.int .u8 0], some .byte, false⟩),
  (201, ⟨.scalar, 1, [.int .i32 0], none, false⟩),
  (202, ⟨.scalar, 1, [.int .i32 0], none, false⟩),
  (205, ⟨(.struct [(0, 1), (1, 1)]), 2, [.str ByteArray.empty, .int .u8 0], none, false⟩),
  (206, ⟨(.struct [(0, 1), (1, 1)]), 2, [.str ByteArray.empty, .int .u8 0], none, false⟩)]
noncomputable def sp_spec_l6Open : SP := []
noncomputable def spec_l6Open_c1 (x1 : List Int) : Oc ((List Int)) ((List Int × Int)) Empty Empty Empty :=
  match (cmp .gtr (lenI .byte x1) 2000) with
  | true =>
    .n (List.drop (Int.toNat 0) (List.take (Int.toNat 2000) x1))
  | false =>
    .n x1
def spec_l6Open_c1_ob (x1 : List Int) : Prop :=
  ((True)) ∧
  ((cmp .gtr (lenI .byte x1) 2000) = true →
    ((le3 0 2000 (lenI .byte x1)) ∧ (True)) ∧
    True) ∧ ((cmp .gtr (lenI .byte x1) 2000) = false →
    True)
set_option maxRecDepth 100000 in
theorem spec_l6Open_c1_ok (G : Good Try.prog tt sp_spec_l6Open) {fr : Fr} (x1 : List Int) (hob : spec_l6Open_c1_ob x1) {n r : Env → Prop} {x : Nat → Env → Prop}
    (hn : ∀ (q3 : List Int), (spec_l6Open_c1 x1) = .n q3 → ∀ e, Weak e [(0, .v .sh (.lst .byte q3))] → n e)
    (_hr : ∀ q, (spec_l6Open_c1 x1) = .r q → ∀ e, retAv tt e [.tmp 2] (.rdr) = some (RT.av (.rdr) q) → r e) :
    Ht Try.prog ⟨(Try.f94).ntmps, none, []⟩ fr (nav (bodyOf (Try.f94)) [1, 0]) [(0, .v .sh (.lst .byte x1))] n r x := by
  unfold spec_l6Open_c1_ob at hob
  refine Ht.seq (c1 := (nav (bodyOf (Try.f94)) [1, 0, 0])) (c2 := (nav (bodyOf (Try.f94)) [1, 0, 1])) (by kernel_rfl) ?_
  refine Ht.reg G (keep := [0, 5]) (e' := [(0, .v .sh (.lst .byte x1)), (5, .v .fr (.bool (cmp .gtr (lenI .byte x1) 2000)))]) (obs := []) (by kernel_rfl) hob.1 ?_
  refine Ht.cond (o := .tmp 5) (c1 := (nav (bodyOf (Try.f94)) [1, 0, 1, 0])) (c2 := (nav (bodyOf (Try.f94)) [1, 0, 1, 1])) (b := (cmp .gtr (lenI .byte x1) 2000)) (by kernel_rfl) (by kernel_rfl) (fun h2 => ?_) (fun h2 => ?_)
  · have hb := hob.2.1 h2
    refine Ht.reg G (keep := [0]) (e' := [(0, .v .sh (.lst .byte (List.drop (Int.toNat 0) (List.take (Int.toNat 2000) x1))))]) (obs := [le3 0 2000 (lenI .byte x1)]) (by kernel_rfl) hb.1 ?_
    exact hn (List.drop (Int.toNat 0) (List.take (Int.toNat 2000) x1)) (by simp only [spec_l6Open_c1, h2]) _ (Weak.cast (pat := [(0, .sh)]) (by kernel_rfl) (by kernel_rfl))
  · have hb := hob.2.2 h2
    refine Ht.skip (by kernel_rfl) ?_
    exact hn x1 (by simp only [spec_l6Open_c1, h2]) _ (Weak.cast (pat := [(0, .sh)]) (by kernel_rfl) (by kernel_rfl))

noncomputable def spec_l6Open_b (a0 : List Int) : Oc Empty ((List Int × Int)) Empty Empty Empty :=
  match (spec_l6Open_c1 a0) with
  | .n q4 =>
    .r (q4, 0)
  | .r q6 =>
    .r q6
  | .x q => q.elim
  | .y q => q.elim
  | .z q => q.elim
def spec_l6Open_b_ob (a0 : List Int) : Prop :=
  ((True)) ∧
  (spec_l6Open_c1_ob a0) ∧
  (∀ (q4 : List Int), (spec_l6Open_c1 a0) = .n q4 →
    ((True)) ∧
    True)
set_option maxRecDepth 100000 in
theorem spec_l6Open_b_ok (G : Good Try.prog tt sp_spec_l6Open) {fr : Fr} (a0 : List Int) (hob : spec_l6Open_b_ob a0) {n r : Env → Prop} {x : Nat → Env → Prop}
    (hr : ∀ q, (spec_l6Open_b a0) = .r q → ∀ e, retAv tt e [.tmp 2] (.rdr) = some (RT.av (.rdr) q) → r e) :
    Ht Try.prog ⟨(Try.f94).ntmps, none, []⟩ fr (nav (bodyOf (Try.f94)) []) [(0, .v .sh (.lst .byte a0))] n r x := by
  unfold spec_l6Open_b_ob at hob
  refine Ht.seq (c1 := (nav (bodyOf (Try.f94)) [0])) (c2 := (nav (bodyOf (Try.f94)) [1])) (by kernel_rfl) ?_
  refine Ht.reg G (keep := [0]) (e' := [(0, .v .sh (.lst .byte a0))]) (obs := []) (by kernel_rfl) hob.1 ?_
  refine Ht.seq (c1 := (nav (bodyOf (Try.f94)) [1, 0])) (c2 := (nav (bodyOf (Try.f94)) [1, 1])) (by kernel_rfl) ?_
  refine Ht.weak (e' := [(0, .v .sh (.lst .byte a0))]) (Weak.cast (pat := [(0, .same)]) (by kernel_rfl) (by kernel_rfl)) ?_
  refine spec_l6Open_c1_ok G a0 hob.2.1 (fun q4 h5 e hw => ?_) (fun q h7 e he => hr q (by simp only [spec_l6Open_b, h7]) e he)
  · have hb := hob.2.2 q4 h5
    refine Ht.weak hw ?_
    refine Ht.seq (c1 := (nav (bodyOf (Try.f94)) [1, 1, 0])) (c2 := (nav (bodyOf (Try.f94)) [1, 1, 1])) (by kernel_rfl) ?_
    refine Ht.reg G (keep := [2]) (e' := [(2, .box [(.sh, .lst .byte q4), (.fr, .int .i64 0)])]) (obs := []) (by kernel_rfl) hb.1 ?_
    refine Ht.ret (by kernel_rfl) ?_
    exact hr (q4, 0) (by simp only [spec_l6Open_b, h5]) _ (by kernel_rfl)

noncomputable def v_spec_l6Open (a0 : List Int) : (List Int × Int) := ocR (spec_l6Open_b a0)
def p_spec_l6Open (a0 : List Int) : Prop := spec_l6Open_b_ob a0
noncomputable def s_spec_l6Open : Spec := ⟨[(.lst .byte)], .rdr, false, fun x => (v_spec_l6Open x.1, 0), fun x => p_spec_l6Open x.1⟩
theorem con_spec_l6Open (G : Good Try.prog tt sp_spec_l6Open) : Con Try.prog 94 s_spec_l6Open :=
  con_of G.htt (fn := Try.f94) (c := bodyOf Try.f94) (by kernel_rfl) (by kernel_rfl) (by kernel_rfl) (rs := [.tmp 2]) (by kernel_rfl) (by kernel_rfl) (fun _ => rfl) fun x hp fr _ _ _ =>
    spec_l6Open_b_ok G (fr := fr) x.1 hp
      (fun q h e he => ⟨by rw [show (s_spec_l6Open.val x).1 = q from congrArg ocR h]; exact he, trivial⟩)

noncomputable def sp_spec_l6Rd_pick : SP := []
noncomputable def spec_l6Rd_pick_b (a0 : (List Int × Int)) (a1 : Int) : Oc Empty (Int × Int) Empty Empty Empty :=
  match (cond (cmp .lss a1 1) true (cmp .eql (lenI .byte a0.1) 0)) with
  | true =>
    .r (0, (ar .add .i64 a0.2 1))
  | false =>
    match (cmp .lss (ar .sub .i64 (ar .add .i64 a0.2 1) 1) (lenI .byte a0.1)) with
    | true =>
      .r ((ar .rem .i64 (IntKind.wrap .i64 (rd .byte a0.1 (ar .sub .i64 (ar .add .i64 a0.2 1) 1))) a1), (ar .add .i64 a0.2 1))
    | false =>
      .r ((ar .rem .i64 (xr .i64 (ar .add .i64 (ar .add .i64 (ar .add .i64 (ar .mul .i64 (IntKind.wrap .i64 (rd .byte a0.1 (ar .rem .i64 (ar .sub .i64 (ar .add .i64 a0.2 1) 1) (lenI .byte a0.1)))) 131) (ar .mul .i64 (IntKind.wrap .i64 (rd .byte a0.1 (ar .rem .i64 (ar .add .i64 (ar .mul .i64 (ar .sub .i64 (ar .add .i64 a0.2 1) 1) 7) 3) (lenI .byte a0.1)))) 1117)) (ar .mul .i64 (ar .sub .i64 (ar .add .i64 a0.2 1) 1) 29)) (ar .mul .i64 (ar .quo .i64 (ar .sub .i64 (ar .add .i64 a0.2 1) 1) (lenI .byte a0.1)) 53)) (ar .quo .i64 (ar .add .i64 (ar .add .i64 (ar .add .i64 (ar .mul .i64 (IntKind.wrap .i64 (rd .byte a0.1 (ar .rem .i64 (ar .sub .i64 (ar .add .i64 a0.2 1) 1) (lenI .byte a0.1)))) 131) (ar .mul .i64 (IntKind.wrap .i64 (rd .byte a0.1 (ar .rem .i64 (ar .add .i64 (ar .mul .i64 (ar .sub .i64 (ar .add .i64 a0.2 1) 1) 7) 3) (lenI .byte a0.1)))) 1117)) (ar .mul .i64 (ar .sub .i64 (ar .add .i64 a0.2 1) 1) 29)) (ar .mul .i64 (ar .quo .i64 (ar .sub .i64 (ar .add .i64 a0.2 1) 1) (lenI .byte a0.1)) 53)) 64)) a1), (ar .add .i64 a0.2 1))
def spec_l6Rd_pick_b_ob (a0 : (List Int × Int)) (a1 : Int) : Prop :=
  ((True)) ∧
  ((True)) ∧
  ((True)) ∧
  ((cond (cmp .lss a1 1) true (cmp .eql (lenI .byte a0.1) 0)) = true →
    ((True)) ∧
    True) ∧ ((cond (cmp .lss a1 1) true (cmp .eql (lenI .byte a0.1) 0)) = false →
    ((True)) ∧
    ((True)) ∧
    ((cmp .lss (ar .sub .i64 (ar .add .i64 a0.2 1) 1) (lenI .byte a0.1)) = true →
      ((inb (ar .sub .i64 (ar .add .i64 a0.2 1) 1) (lenI .byte a0.1)) ∧ ((a1 : Int) ≠ 0) ∧ (True)) ∧
      True) ∧ ((cmp .lss (ar .sub .i64 (ar .add .i64 a0.2 1) 1) (lenI .byte a0.1)) = false →
      ((((lenI .byte a0.1) : Int) ≠ 0) ∧ (inb (ar .rem .i64 (ar .sub .i64 (ar .add .i64 a0.2 1) 1) (lenI .byte a0.1)) (lenI .byte a0.1)) ∧ (((lenI .byte a0.1) : Int) ≠ 0) ∧ (inb (ar .rem .i64 (ar .add .i64 (ar .mul .i64 (ar .sub .i64 (ar .add .i64 a0.2 1) 1) 7) 3) (lenI .byte a0.1)) (lenI .byte a0.1)) ∧ (((lenI .byte a0.1) : Int) ≠ 0) ∧ (True)) ∧
      (((64 : Int) ≠ 0) ∧ (True)) ∧
      (((a1 : Int) ≠ 0) ∧ (True)) ∧
      True))
set_option maxRecDepth 100000 in
theorem spec_l6Rd_pick_b_ok (G : Good Try.prog tt sp_spec_l6Rd_pick) {fr : Fr} (a0 : (List Int × Int)) (a1 : Int) (hob : spec_l6Rd_pick_b_ob a0 a1) {n r : Env → Prop} {x : Nat → Env → Prop}
    (hr : ∀ q, (spec_l6Rd_pick_b a0 a1) = .r q → ∀ e, retAv tt e [.tmp 4] (.one .fr (.int .i64)) = some (RT.av (.one .fr (.int .i64)) q.1) ∧ getE e 0 = .box [(.sh, .lst .byte a0.1), (.fr, .int .i64 q.2)] → r e) :
    Ht Try.prog ⟨(Try.f98).ntmps, some 0, []⟩ fr (nav (bodyOf (Try.f98)) []) [(0, .box [(.sh, .lst .byte a0.1), (.fr, .int .i64 a0.2)]), (1, .v .fr (.int .i64 a1))] n r x := by
  unfold spec_l6Rd_pick_b_ob at hob
  refine Ht.seq (c1 := (nav (bodyOf (Try.f98)) [0])) (c2 := (nav (bodyOf (Try.f98)) [1])) (by kernel_rfl) ?_
  refine Ht.reg G (keep := [0, 1]) (e' := [(0, .box [(.sh, .lst .byte a0.1), (.fr, .int .i64 a0.2)]), (1, .v .fr (.int .i64 a1))]) (obs := []) (by kernel_rfl) hob.1 ?_
  refine Ht.seq (c1 := (nav (bodyOf (Try.f98)) [1, 0])) (c2 := (nav (bodyOf (Try.f98)) [1, 1])) (by kernel_rfl) ?_
  refine Ht.reg G (keep := [0, 1]) (e' := [(0, .box [(.sh, .lst .byte a0.1), (.fr, .int .i64 (ar .add .i64 a0.2 1))]), (1, .v .fr (.int .i64 a1))]) (obs := []) (by kernel_rfl) hob.2.1 ?_
  refine Ht.seq (c1 := (nav (bodyOf (Try.f98)) [1, 1, 0])) (c2 := (nav (bodyOf (Try.f98)) [1, 1, 1])) (by kernel_rfl) ?_
  refine Ht.seq (c1 := (nav (bodyOf (Try.f98)) [1, 1, 0, 0])) (c2 := (nav (bodyOf (Try.f98)) [1, 1, 0, 1])) (by kernel_rfl) ?_
  refine Ht.reg G (keep := [0, 1, 24]) (e' := [(0, .box [(.sh, .lst .byte a0.1), (.fr, .int .i64 (ar .add .i64 a0.2 1))]), (1, .v .fr (.int .i64 a1)), (24, .v .fr (.bool (cond (cmp .lss a1 1) true (cmp .eql (lenI .byte a0.1) 0))))]) (obs := []) (by kernel_rfl) hob.2.2.1 ?_
  refine Ht.cond (o := .tmp 24) (c1 := (nav (bodyOf (Try.f98)) [1, 1, 0, 1, 0])) (c2 := (nav (bodyOf (Try.f98)) [1, 1, 0, 1, 1])) (b := (cond (cmp .lss a1 1) true (cmp .eql (lenI .byte a0.1) 0))) (by kernel_rfl) (by kernel_rfl) (fun h1 => ?_) (fun h1 => ?_)
  · have hb := hob.2.2.2.1 h1
    refine Ht.seq (c1 := (nav (bodyOf (Try.f98)) [1, 1, 0, 1, 0, 0])) (c2 := (nav (bodyOf (Try.f98)) [1, 1, 0, 1, 0, 1])) (by kernel_rfl) ?_
    refine Ht.reg G (keep := [0, 4]) (e' := [(0, .box [(.sh, .lst .byte a0.1), (.fr, .int .i64 (ar .add .i64 a0.2 1))]), (4, .v .fr (.int .i64 0))]) (obs := []) (by kernel_rfl) hb.1 ?_
    refine Ht.ret (by kernel_rfl) ?_
    exact hr (0, (ar .add .i64 a0.2 1)) (by simp only [spec_l6Rd_pick_b, h1]) _ ⟨by kernel_rfl, by kernel_rfl⟩
  · have hb := hob.2.2.2.2 h1
    refine Ht.skip (by kernel_rfl) ?_
    refine Ht.seq (c1 := (nav (bodyOf (Try.f98)) [1, 1, 1, 0])) (c2 := (nav (bodyOf (Try.f98)) [1, 1, 1, 1])) (by kernel_rfl) ?_
    refine Ht.reg G (keep := [0, 1, 5]) (e' := [(0, .box [(.sh, .lst .byte a0.1), (.fr, .int .i64 (ar .add .i64 a0.2 1))]), (1, .v .fr (.int .i64 a1)), (5, .v .fr (.int .i64 (ar .sub .i64 (ar .add .i64 a0.2 1) 1)))]) (obs := []) (by kernel_rfl) hb.1 ?_
    refine Ht.seq (c1 := (nav (bodyOf (Try.f98)) [1, 1, 1, 1, 0])) (c2 := (nav (bodyOf (Try.f98)) [1, 1, 1, 1, 1])) (by kernel_rfl) ?_
    refine Ht.seq (c1 := (nav (bodyOf (Try.f98)) [1, 1, 1, 1, 0, 0])) (c2 := (nav (bodyOf (Try.f98)) [1, 1, 1, 1, 0, 1])) (by kernel_rfl) ?_
    refine Ht.reg G (keep := [0, 1, 5, 36]) (e' := [(0, .box [(.sh, .lst .byte a0.1), (.fr, .int .i64 (ar .add .i64 a0.2 1))]), (1, .v .fr (.int .i64 a1)), (5, .v .fr (.int .i64 (ar .sub .i64 (ar .add .i64 a0.2 1) 1))), (36, .v .fr (.bool (cmp .lss (ar .sub .i64 (ar .add .i64 a0.2 1) 1) (lenI .byte a0.1))))]) (obs := []) (by kernel_rfl) hb.2.1 ?_
    refine Ht.cond (o := .tmp 36) (c1 := (nav (bodyOf (Try.f98)) [1, 1, 1, 1, 0, 1, 0])) (c2 := (nav (bodyOf (Try.f98)) [1, 1, 1, 1, 0, 1, 1])) (b := (cmp .lss (ar .sub .i64 (ar .add .i64 a0.2 1) 1) (lenI .byte a0.1))) (by kernel_rfl) (by kernel_rfl) (fun h2 => ?_) (fun h2 => ?_)
    · have hb := hb.2.2.1 h2
      refine Ht.seq (c1 := (nav (bodyOf (Try.f98)) [1, 1, 1, 1, 0, 1, 0, 0])) (c2 := (nav (bodyOf (Try.f98)) [1, 1, 1, 1, 0, 1, 0, 1])) (by kernel_rfl) ?_
      refine Ht.reg G (keep := [0, 4]) (e' := [(0, .box [(.sh, .lst .byte a0.1), (.fr, .int .i64 (ar .add .i64 a0.2 1))]), (4, .v .fr (.int .i64 (ar .rem .i64 (IntKind.wrap .i64 (rd .byte a0.1 (ar .sub .i64 (ar .add .i64 a0.2 1) 1))) a1)))]) (obs := [inb (ar .sub .i64 (ar .add .i64 a0.2 1) 1) (lenI .byte a0.1), (a1 : Int) ≠ 0]) (by kernel_rfl) hb.1 ?_
      refine Ht.ret (by kernel_rfl) ?_
      exact hr ((ar .rem .i64 (IntKind.wrap .i64 (rd .byte a0.1 (ar .sub .i64 (ar .add .i64 a0.2 1) 1))) a1), (ar .add .i64 a0.2 1)) (by simp only [spec_l6Rd_pick_b, h1, h2]) _ ⟨by kernel_rfl, by kernel_rfl⟩
    · have hb := hb.2.2.2 h2
      refine Ht.skip (by kernel_rfl) ?_
      refine Ht.seq (c1 := (nav (bodyOf (Try.f98)) [1, 1, 1, 1, 1, 0])) (c2 := (nav (bodyOf (Try.f98)) [1, 1, 1, 1, 1, 1])) (by kernel_rfl) ?_
      refine Ht.reg G (keep := [0, 1, 6]) (e' := [(0, .box [(.sh, .lst .byte a0.1), (.fr, .int .i64 (ar .add .i64 a0.2 1))]), (1, .v .fr (.int .i64 a1)), (6, .v .fr (.int .i64 (ar .add .i64 (ar .add .i64 (ar .add .i64 (ar .mul .i64 (IntKind.wrap .i64 (rd .byte a0.1 (ar .rem .i64 (ar .sub .i64 (ar .add .i64 a0.2 1) 1) (lenI .byte a0.1)))) 131) (ar .mul .i64 (IntKind.wrap .i64 (rd .byte a0.1 (ar .rem .i64 (ar .add .i64 (ar .mul .i64 (ar .sub .i64 (ar .add .i64 a0.2 1) 1) 7) 3) (lenI .byte a0.1)))) 1117)) (ar .mul .i64 (ar .sub .i64 (ar .add .i64 a0.2 1) 1) 29)) (ar .mul .i64 (ar .quo .i64 (ar .sub .i64 (ar .add .i64 a0.2 1) 1) (lenI .byte a0.1)) 53))))]) (obs := [((lenI .byte a0.1) : Int) ≠ 0, inb (ar .rem .i64 (ar .sub .i64 (ar .add .i64 a0.2 1) 1) (lenI .byte a0.1)) (lenI .byte a0.1), ((lenI .byte a0.1) : Int) ≠ 0, inb (ar .rem .i64 (ar .add .i64 (ar .mul .i64 (ar .sub .i64 (ar .add .i64 a0.2 1) 1) 7) 3) (lenI .byte a0.1)) (lenI .byte a0.1), ((lenI .byte a0.1) : Int) ≠ 0]) (by kernel_rfl) hb.1 ?_
      refine Ht.seq (c1 := (nav (bodyOf (Try.f98)) [1, 1, 1, 1, 1, 1, 0])) (c2 := (nav (bodyOf (Try.f98)) [1, 1, 1, 1, 1, 1, 1])) (by kernel_rfl) ?_
      refine Ht.reg G (keep := [0, 1, 6]) (e' := [(0, .box [(.sh, .lst .byte a0.1), (.fr, .int .i64 (ar .add .i64 a0.2 1))]), (1, .v .fr (.int .i64 a1)), (6, .v .fr (.int .i64 (xr .i64 (ar .add .i64 (ar .add .i64 (ar .add .i64 (ar .mul .i64 (IntKind.wrap .i64 (rd .byte a0.1 (ar .rem .i64 (ar .sub .i64 (ar .add .i64 a0.2 1) 1) (lenI .byte a0.1)))) 131) (ar .mul .i64 (IntKind.wrap .i64 (rd .byte a0.1 (ar .rem .i64 (ar .add .i64 (ar .mul .i64 (ar .sub .i64 (ar .add .i64 a0.2 1) 1) 7) 3) (lenI .byte a0.1)))) 1117)) (ar .mul .i64 (ar .sub .i64 (ar .add .i64 a0.2 1) 1) 29)) (ar .mul .i64 (ar .quo .i64 (ar .sub .i64 (ar .add .i64 a0.2 1) 1) (lenI .byte a0.1)) 53)) (ar .quo .i64 (ar .add .i64 (ar .add .i64 (ar .add .i64 (ar .mul .i64 (IntKind.wrap .i64 (rd .byte a0.1 (ar .rem .i64 (ar .sub .i64 (ar .add .i64 a0.2 1) 1) (lenI .byte a0.1)))) 131) (ar .mul .i64 (IntKind.wrap .i64 (rd .byte a0.1 (ar .rem .i64 (ar .add .i64 (ar .mul .i64 (ar .sub .i64 (ar .add .i64 a0.2 1) 1) 7) 3) (lenI .byte a0.1)))) 1117)) (ar .mul .i64 (ar .sub .i64 (ar .add .i64 a0.2 1) 1) 29)) (ar .mul .i64 (ar .quo .i64 (ar .sub .i64 (ar .add .i64 a0.2 1) 1) (lenI .byte a0.1)) 53)) 64))))]) (obs := [(64 : Int) ≠ 0]) (by kernel_rfl) hb.2.1 ?_
      refine Ht.seq (c1 := (nav (bodyOf (Try.f98)) [1, 1, 1, 1, 1, 1, 1, 0])) (c2 := (nav (bodyOf (Try.f98)) [1, 1, 1, 1, 1, 1, 1, 1])) (by kernel_rfl) ?_
      refine Ht.reg G (keep := [0, 4]) (e' := [(0, .box [(.sh, .lst .byte a0.1), (.fr, .int .i64 (ar .add .i64 a0.2 1))]), (4, .v .fr (.int .i64 (ar .rem .i64 (xr .i64 (ar .add .i64 (ar .add .i64 (ar .add .i64 (ar .mul .i64 (IntKind.wrap .i64 (rd .byte a0.1 (ar .rem .i64 (ar .sub .i64 (ar .add .i64 a0.2 1) 1) (lenI .byte a0.1)))) 131) (ar .mul .i64 (IntKind.wrap .i64 (rd .byte a0.1 (ar .rem .i64 (ar .add .i64 (ar .mul .i64 (ar .sub .i64 (ar .add .i64 a0.2 1) 1) 7) 3) (lenI .byte a0.1)))) 1117)) (ar .mul .i64 (ar .sub .i64 (ar .add .i64 a0.2 1) 1) 29)) (ar .mul .i64 (ar .quo .i64 (ar .sub .i64 (ar .add .i64 a0.2 1) 1) (lenI .byte a0.1)) 53)) (ar .quo .i64 (ar .add .i64 (ar .add .i64 (ar .add .i64 (ar .mul .i64 (IntKind.wrap .i64 (rd .byte a0.1 (ar .rem .i64 (ar .sub .i64 (ar .add .i64 a0.2 1) 1) (lenI .byte a0.1)))) 131) (ar .mul .i64 (IntKind.wrap .i64 (rd .byte a0.1 (ar .rem .i64 (ar .add .i64 (ar .mul .i64 (ar .sub .i64 (ar .add .i64 a0.2 1) 1) 7) 3) (lenI .byte a0.1)))) 1117)) (ar .mul .i64 (ar .sub .i64 (ar .add .i64 a0.2 1) 1) 29)) (ar .mul .i64 (ar .quo .i64 (ar .sub .i64 (ar .add .i64 a0.2 1) 1) (lenI .byte a0.1)) 53)) 64)) a1)))]) (obs := [(a1 : Int) ≠ 0]) (by kernel_rfl) hb.2.2.1 ?_
      refine Ht.ret (by kernel_rfl) ?_
      exact hr ((ar .rem .i64 (xr .i64 (ar .add .i64 (ar .add .i64 (ar .add .i64 (ar .mul .i64 (IntKind.wrap .i64 (rd .byte a0.1 (ar .rem .i64 (ar .sub .i64 (ar .add .i64 a0.2 1) 1) (lenI .byte a0.1)))) 131) (ar .mul .i64 (IntKind.wrap .i64 (rd .byte a0.1 (ar .rem .i64 (ar .add .i64 (ar .mul .i64 (ar .sub .i64 (ar .add .i64 a0.2 1) 1) 7) 3) (lenI .byte a0.1)))) 1117)) (ar .mul .i64 (ar .sub .i64 (ar .add .i64 a0.2 1) 1) 29)) (ar .mul .i64 (ar .quo .i64 (ar .sub .i64 (ar .add .i64 a0.2 1) 1) (lenI .byte a0.1)) 53)) (ar .quo .i64 (ar .add .i64 (ar .add .i64 (ar .add .i64 (ar .mul .i64 (IntKind.wrap .i64 (rd .byte a0.1 (ar .rem .i64 (ar .sub .i64 (ar .add .i64 a0.2 1) 1) (lenI .byte a0.1)))) 131) (ar .mul .i64 (IntKind.wrap .i64 (rd .byte a0.1 (ar .rem .i64 (ar .add .i64 (ar .mul .i64 (ar .sub .i64 (ar .add .i64 a0.2 1) 1) 7) 3) (lenI .byte a0.1)))) 1117)) (ar .mul .i64 (ar .sub .i64 (ar .add .i64 a0.2 1) 1) 29)) (ar .mul .i64 (ar .quo .i64 (ar .sub .i64 (ar .add .i64 a0.2 1) 1) (lenI .byte a0.1)) 53)) 64)) a1), (ar .add .i64 a0.2 1)) (by simp only [spec_l6Rd_pick_b, h1, h2]) _ ⟨by kernel_rfl, by kernel_rfl⟩

noncomputable def v_spec_l6Rd_pick (a0 : (List Int × Int)) (a1 : Int) : Int × Int := ocR (spec_l6Rd_pick_b a0 a1)
def p_spec_l6Rd_pick (a0 : (List Int × Int)) (a1 : Int) : Prop := spec_l6Rd_pick_b_ob a0 a1
noncomputable def s_spec_l6Rd_pick : Spec := ⟨[.rdr, (.int .i64)], .one .fr (.int .i64), true, fun x => v_spec_l6Rd_pick x.1 x.2.1, fun x => p_spec_l6Rd_pick x.1 x.2.1⟩
theorem con_spec_l6Rd_pick (G : Good Try.prog tt sp_spec_l6Rd_pick) : Con Try.prog 98 s_spec_l6Rd_pick :=
  con_of G.htt (fn := Try.f98) (c := bodyOf Try.f98) (by kernel_rfl) (by kernel_rfl) (by kernel_rfl) (rs := [.tmp 4]) (by kernel_rfl) (by kernel_rfl) (fun h => Bool.noConfusion h) fun x hp fr _ _ _ =>
    spec_l6Rd_pick_b_ok G (fr := fr) x.1 x.2.1 hp
      (fun q h e he => ⟨by rw [show (s_spec_l6Rd_pick.val x).1 = q.1 from congrArg (fun o => (ocR o).1) h]; exact he.1, by rw [show (s_spec_l6Rd_pick.val x).2 = q.2 from congrArg (fun o => (ocR o).2) h]; exact he.2⟩)

noncomputable def sp_spec_l71Time : SP := [(98, s_spec_l6Rd_pick)]
noncomputable def spec_l71Time_b (a0 : (List Int × Int)) : Oc Empty (Time × Int) Empty Empty Empty :=
  match (cmp .eql (v_spec_l6Rd_pick (a0.1, a0.2) 10).1 0) with
  | true =>
    .r ((Time.mk (v_spec_l6Rd_pick (a0.1, (v_spec_l6Rd_pick (a0.1, a0.2) 10).2) 8).1 (v_spec_l6Rd_pick (a0.1, (v_spec_l6Rd_pick (a0.1, (v_spec_l6Rd_pick (a0.1, a0.2) 10).2) 8).2) 8).1), (v_spec_l6Rd_pick (a0.1, (v_spec_l6Rd_pick (a0.1, (v_spec_l6Rd_pick (a0.1, a0.2) 10).2) 8).2) 8).2)
  | false =>
    .r ((Time.mk (v_spec_l6Rd_pick (a0.1, (v_spec_l6Rd_pick (a0.1, a0.2) 10).2) 4).1 (v_spec_l6Rd_pick (a0.1, (v_spec_l6Rd_pick (a0.1, (v_spec_l6Rd_pick (a0.1, a0.2) 10).2) 4).2) 4).1), (v_spec_l6Rd_pick (a0.1, (v_spec_l6Rd_pick (a0.1, (v_spec_l6Rd_pick (a0.1, a0.2) 10).2) 4).2) 4).2)
def spec_l71Time_b_ob (a0 : (List Int × Int)) : Prop :=
  ((True)) ∧
  (((p_spec_l6Rd_pick (a0.1, a0.2) 10)) ∧ (True)) ∧
  ((cmp .eql (v_spec_l6Rd_pick (a0.1, a0.2) 10).1 0) = true →
    (((p_spec_l6Rd_pick (a0.1, (v_spec_l6Rd_pick (a0.1, a0.2) 10).2) 8)) ∧ ((p_spec_l6Rd_pick (a0.1, (v_spec_l6Rd_pick (a0.1, (v_spec_l6Rd_pick (a0.1, a0.2) 10).2) 8).2) 8)) ∧ (True)) ∧
    True) ∧ ((cmp .eql (v_spec_l6Rd_pick (a0.1, a0.2) 10).1 0) = false →
    (((p_spec_l6Rd_pick (a0.1, (v_spec_l6Rd_pick (a0.1, a0.2) 10).2) 4)) ∧ ((p_spec_l6Rd_pick (a0.1, (v_spec_l6Rd_pick (a0.1, (v_spec_l6Rd_pick (a0.1, a0.2) 10).2) 4).2) 4)) ∧ (True)) ∧
    True)
set_option maxRecDepth 100000 in
theorem spec_l71Time_b_ok (G : Good Try.prog tt sp_spec_l71Time) {fr : Fr} (a0 : (List Int × Int)) (hob : spec_l71Time_b_ob a0) {n r : Env → Prop} {x : Nat → Env → Prop}
    (hr : ∀ q, (spec_l71Time_b a0) = .r q → ∀ e, retAv tt e [.cell 2 74] (.one .fr (.st .time)) = some (RT.av (.one .fr (.st .time)) q.1) ∧ getE e 0 = .box [(.sh, .lst .byte a0.1), (.fr, .int .i64 q.2)] → r e) :
    Ht Try.prog ⟨(Try.f157).ntmps, some 0, []⟩ fr (nav (bodyOf (Try.f157)) []) [(0, .box [(.sh, .lst .byte a0.1), (.fr, .int .i64 a0.2)])] n r x := by
  unfold spec_l71Time_b_ob at hob
  refine Ht.seq (c1 := (nav (bodyOf (Try.f157)) [0])) (c2 := (nav (bodyOf (Try.f157)) [1])) (by kernel_rfl) ?_
  refine Ht.reg G (keep := [0, 2]) (e' := [(0, .box [(.sh, .lst .byte a0.1), (.fr, .int .i64 a0.2)]), (2, .box [(.fr, .int .i64 0), (.fr, .int .i64 0)])]) (obs := []) (by kernel_rfl) hob.1 ?_
  refine Ht.seq (c1 := (nav (bodyOf (Try.f157)) [1, 0])) (c2 := (nav (bodyOf (Try.f157)) [1, 1])) (by kernel_rfl) ?_
  refine Ht.seq (c1 := (nav (bodyOf (Try.f157)) [1, 0, 0])) (c2 := (nav (bodyOf (Try.f157)) [1, 0, 1])) (by kernel_rfl) ?_
  refine Ht.reg G (keep := [0, 2, 5]) (e' := [(0, .box [(.sh, .lst .byte a0.1), (.fr, .int .i64 (v_spec_l6Rd_pick (a0.1, a0.2) 10).2)]), (2, .box [(.fr, .int .i64 0), (.fr, .int .i64 0)]), (5, .v .fr (.bool (cmp .eql (v_spec_l6Rd_pick (a0.1, a0.2) 10).1 0)))]) (obs := [(p_spec_l6Rd_pick (a0.1, a0.2) 10)]) (by kernel_rfl) hob.2.1 ?_
  refine Ht.cond (o := .tmp 5) (c1 := (nav (bodyOf (Try.f157)) [1, 0, 1, 0])) (c2 := (nav (bodyOf (Try.f157)) [1, 0, 1, 1])) (b := (cmp .eql (v_spec_l6Rd_pick (a0.1, a0.2) 10).1 0)) (by kernel_rfl) (by kernel_rfl) (fun h1 => ?_) (fun h1 => ?_)
  · have hb := hob.2.2.1 h1
    refine Ht.seq (c1 := (nav (bodyOf (Try.f157)) [1, 0, 1, 0, 0])) (c2 := (nav (bodyOf (Try.f157)) [1, 0, 1, 0, 1])) (by kernel_rfl) ?_
    refine Ht.reg G (keep := [0, 2]) (e' := [(0, .box [(.sh, .lst .byte a0.1), (.fr, .int .i64 (v_spec_l6Rd_pick (a0.1, (v_spec_l6Rd_pick (a0.1, (v_spec_l6Rd_pick (a0.1, a0.2) 10).2) 8).2) 8).2)]), (2, .box [(.fr, .int .i64 (v_spec_l6Rd_pick (a0.1, (v_spec_l6Rd_pick (a0.1, a0.2) 10).2) 8).1), (.fr, .int .i64 (v_spec_l6Rd_pick (a0.1, (v_spec_l6Rd_pick (a0.1, (v_spec_l6Rd_pick (a0.1, a0.2) 10).2) 8).2) 8).1)])]) (obs := [(p_spec_l6Rd_pick (a0.1, (v_spec_l6Rd_pick (a0.1, a0.2) 10).2) 8), (p_spec_l6Rd_pick (a0.1, (v_spec_l6Rd_pick (a0.1, (v_spec_l6Rd_pick (a0.1, a0.2) 10).2) 8).2) 8)]) (by kernel_rfl) hb.1 ?_
    refine Ht.ret (by kernel_rfl) ?_
    exact hr ((Time.mk (v_spec_l6Rd_pick (a0.1, (v_spec_l6Rd_pick (a0.1, a0.2) 10).2) 8).1 (v_spec_l6Rd_pick (a0.1, (v_spec_l6Rd_pick (a0.1, (v_spec_l6Rd_pick (a0.1, a0.2) 10).2) 8).2) 8).1), (v_spec_l6Rd_pick (a0.1, (v_spec_l6Rd_pick (a0.1, (v_spec_l6Rd_pick (a0.1, a0.2) 10).2) 8).2) 8).2) (by simp only [spec_l71Time_b, h1]) _ ⟨by kernel_rfl, by kernel_rfl⟩
  · have hb := hob.2.2.2 h1
    refine Ht.skip (by kernel_rfl) ?_
    refine Ht.seq (c1 := (nav (bodyOf (Try.f157)) [1, 1, 0])) (c2 := (nav (bodyOf (Try.f157)) [1, 1, 1])) (by kernel_rfl) ?_
    refine Ht.reg G (keep := [0, 2]) (e' := [(0, .box [(.sh, .lst .byte a0.1), (.fr, .int .i64 (v_spec_l6Rd_pick (a0.1, (v_spec_l6Rd_pick (a0.1, (v_spec_l6Rd_pick (a0.1, a0.2) 10).2) 4).2) 4).2)]), (2, .box [(.fr, .int .i64 (v_spec_l6Rd_pick (a0.1, (v_spec_l6Rd_pick (a0.1, a0.2) 10).2) 4).1), (.fr, .int .i64 (v_spec_l6Rd_pick (a0.1, (v_spec_l6Rd_pick (a0.1, (v_spec_l6Rd_pick (a0.1, a0.2) 10).2) 4).2) 4).1)])]) (obs := [(p_spec_l6Rd_pick (a0.1, (v_spec_l6Rd_pick (a0.1, a0.2) 10).2) 4), (p_spec_l6Rd_pick (a0.1, (v_spec_l6Rd_pick (a0.1, (v_spec_l6Rd_pick (a0.1, a0.2) 10).2) 4).2) 4)]) (by kernel_rfl) hb.1 ?_
    refine Ht.ret (by kernel_rfl) ?_
    exact hr ((Time.mk (v_spec_l6Rd_pick (a0.1, (v_spec_l6Rd_pick (a0.1, a0.2) 10).2) 4).1 (v_spec_l6Rd_pick (a0.1, (v_spec_l6Rd_pick (a0.1, (v_spec_l6Rd_pick (a0.1, a0.2) 10).2) 4).2) 4).1), (v_spec_l6Rd_pick (a0.1, (v_spec_l6Rd_pick (a0.1, (v_spec_l6Rd_pick (a0.1, a0.2) 10).2) 4).2) 4).2) (by simp only [spec_l71Time_b, h1]) _ ⟨by kernel_rfl, by kernel_rfl⟩

noncomputable def v_spec_l71Time (a0 : (List Int × Int)) : Time × Int := ocR (spec_l71Time_b a0)
def p_spec_l71Time (a0 : (List Int × Int)) : Prop := spec_l71Time_b_ob a0
noncomputable def s_spec_l71Time : Spec := ⟨[.rdr], .one .fr (.st .time), true, fun x => v_spec_l71Time x.1, fun x => p_spec_l71Time x.1⟩
theorem con_spec_l71Time (G : Good Try.prog tt sp_spec_l71Time) : Con Try.prog 157 s_spec_l71Time :=
  con_of G.htt (fn := Try.f157) (c := bodyOf Try.f157) (by kernel_rfl) (by kernel_rfl) (by kernel_rfl) (rs := [.cell 2 74]) (by kernel_rfl) (by kernel_rfl) (fun h => Bool.noConfusion h) fun x hp fr _ _ _ =>
    spec_l71Time_b_ok G (fr := fr) x.1 hp
      (fun q h e he => ⟨by rw [show (s_spec_l71Time.val x).1 = q.1 from congrArg (fun o => (ocR o).1) h]; exact he.1, by rw [show (s_spec_l71Time.val x).2 = q.2 from congrArg (fun o => (ocR o).2) h]; exact he.2⟩)

noncomputable def sp_spec_l71Row : SP := [(98, s_spec_l6Rd_pick), (157, s_spec_l71Time)]
noncomputable def spec_l71Row_b (a0 : (List Int × Int)) : Oc Empty (Row × Int) Empty Empty Empty :=
  .r ((Row.mk (v_spec_l6Rd_pick (a0.1, a0.2) 4).1 (rd .int [0, 1, 2, 3, 4, 9, 10, 57, 99] (v_spec_l6Rd_pick (a0.1, (v_spec_l6Rd_pick (a0.1, a0.2) 4).2) 9).1) (v_spec_l71Time (a0.1, (v_spec_l6Rd_pick (a0.1, (v_spec_l6Rd_pick (a0.1, a0.2) 4).2) 9).2)).1 (rd .int [1, 1, 1, 2, (-1), (-1), 3, 0] (v_spec_l6Rd_pick (a0.1, (v_spec_l71Time (a0.1, (v_spec_l6Rd_pick (a0.1, (v_spec_l6Rd_pick (a0.1, a0.2) 4).2) 9).2)).2) 8).1)), (v_spec_l6Rd_pick (a0.1, (v_spec_l71Time (a0.1, (v_spec_l6Rd_pick (a0.1, (v_spec_l6Rd_pick (a0.1, a0.2) 4).2) 9).2)).2) 8).2)
def spec_l71Row_b_ob (a0 : (List Int × Int)) : Prop :=
  ((True)) ∧
  (((p_spec_l6Rd_pick (a0.1, a0.2) 4)) ∧ ((p_spec_l6Rd_pick (a0.1, (v_spec_l6Rd_pick (a0.1, a0.2) 4).2) 9)) ∧ (inb (v_spec_l6Rd_pick (a0.1, (v_spec_l6Rd_pick (a0.1, a0.2) 4).2) 9).1 (lenI .int [0, 1, 2, 3, 4, 9, 10, 57, 99])) ∧ ((p_spec_l71Time (a0.1, (v_spec_l6Rd_pick (a0.1, (v_spec_l6Rd_pick (a0.1, a0.2) 4).2) 9).2))) ∧ ((p_spec_l6Rd_pick (a0.1, (v_spec_l71Time (a0.1, (v_spec_l6Rd_pick (a0.1, (v_spec_l6Rd_pick (a0.1, a0.2) 4).2) 9).2)).2) 8)) ∧ (inb (v_spec_l6Rd_pick (a0.1, (v_spec_l71Time (a0.1, (v_spec_l6Rd_pick (a0.1, (v_spec_l6Rd_pick (a0.1, a0.2) 4).2) 9).2)).2) 8).1 (lenI .int [1, 1, 1, 2, (-1), (-1), 3, 0])) ∧ (True)) ∧
  True
set_option maxRecDepth 100000 in
theorem spec_l71Row_b_ok (G : Good Try.prog tt sp_spec_l71Row) {fr : Fr} (a0 : (List Int × Int)) (hob : spec_l71Row_b_ob a0) {n r : Env → Prop} {x : Nat → Env → Prop}
    (hr : ∀ q, (spec_l71Row_b a0) = .r q → ∀ e, retAv tt e [.cell 2 76] (.one .fr (.st .row)) = some (RT.av (.one .fr (.st .row)) q.1) ∧ getE e 0 = .box [(.sh, .lst .byte a0.1), (.fr, .int .i64 q.2)] → r e) :
    Ht Try.prog ⟨(Try.f144).ntmps, some 0, []⟩ fr (nav (bodyOf (Try.f144)) []) [(0, .box [(.sh, .lst .byte a0.1), (.fr, .int .i64 a0.2)])] n r x := by
  unfold spec_l71Row_b_ob at hob
  refine Ht.seq (c1 := (nav (bodyOf (Try.f144)) [0])) (c2 := (nav (bodyOf (Try.f144)) [1])) (by kernel_rfl) ?_
  refine Ht.reg G (keep := [0, 2]) (e' := [(0, .box [(.sh, .lst .byte a0.1), (.fr, .int .i64 a0.2)]), (2, .box [(.fr, .int .i64 0), (.fr, .int .i64 0), (.fr, .int .i64 0), (.fr, .int .i64 0), (.fr, .int .i64 0)])]) (obs := []) (by kernel_rfl) hob.1 ?_
  refine Ht.seq (c1 := (nav (bodyOf (Try.f144)) [1, 0])) (c2 := (nav (bodyOf (Try.f144)) [1, 1])) (by kernel_rfl) ?_
  refine Ht.reg G (keep := [0, 2]) (e' := [(0, .box [(.sh, .lst .byte a0.1), (.fr, .int .i64 (v_spec_l6Rd_pick (a0.1, (v_spec_l71Time (a0.1, (v_spec_l6Rd_pick (a0.1, (v_spec_l6Rd_pick (a0.1, a0.2) 4).2) 9).2)).2) 8).2)]), (2, .box [(.fr, .int .i64 (v_spec_l6Rd_pick (a0.1, a0.2) 4).1), (.fr, .int .i64 (rd .int [0, 1, 2, 3, 4, 9, 10, 57, 99] (v_spec_l6Rd_pick (a0.1, (v_spec_l6Rd_pick (a0.1, a0.2) 4).2) 9).1)), (.fr, .int .i64 (v_spec_l71Time (a0.1, (v_spec_l6Rd_pick (a0.1, (v_spec_l6Rd_pick (a0.1, a0.2) 4).2) 9).2)).1.A), (.fr, .int .i64 (v_spec_l71Time (a0.1, (v_spec_l6Rd_pick (a0.1, (v_spec_l6Rd_pick (a0.1, a0.2) 4).2) 9).2)).1.B), (.fr, .int .i64 (rd .int [1, 1, 1, 2, (-1), (-1), 3, 0] (v_spec_l6Rd_pick (a0.1, (v_spec_l71Time (a0.1, (v_spec_l6Rd_pick (a0.1, (v_spec_l6Rd_pick (a0.1, a0.2) 4).2) 9).2)).2) 8).1))])]) (obs := [(p_spec_l6Rd_pick (a0.1, a0.2) 4), (p_spec_l6Rd_pick (a0.1, (v_spec_l6Rd_pick (a0.1, a0.2) 4).2) 9), inb (v_spec_l6Rd_pick (a0.1, (v_spec_l6Rd_pick (a0.1, a0.2) 4).2) 9).1 (lenI .int [0, 1, 2, 3, 4, 9, 10, 57, 99]), (p_spec_l71Time (a0.1, (v_spec_l6Rd_pick (a0.1, (v_spec_l6Rd_pick (a0.1, a0.2) 4).2) 9).2)), (p_spec_l6Rd_pick (a0.1, (v_spec_l71Time (a0.1, (v_spec_l6Rd_pick (a0.1, (v_spec_l6Rd_pick (a0.1, a0.2) 4).2) 9).2)).2) 8), inb (v_spec_l6Rd_pick (a0.1, (v_spec_l71Time (a0.1, (v_spec_l6Rd_pick (a0.1, (v_spec_l6Rd_pick (a0.1, a0.2) 4).2) 9).2)).2) 8).1 (lenI .int [1, 1, 1, 2, (-1), (-1), 3, 0])]) (by kernel_rfl) hob.2.1 ?_
  refine Ht.ret (by kernel_rfl) ?_
  exact hr ((Row.mk (v_spec_l6Rd_pick (a0.1, a0.2) 4).1 (rd .int [0, 1, 2, 3, 4, 9, 10, 57, 99] (v_spec_l6Rd_pick (a0.1, (v_spec_l6Rd_pick (a0.1, a0.2) 4).2) 9).1) (v_spec_l71Time (a0.1, (v_spec_l6Rd_pick (a0.1, (v_spec_l6Rd_pick (a0.1, a0.2) 4).2) 9).2)).1 (rd .int [1, 1, 1, 2, (-1), (-1), 3, 0] (v_spec_l6Rd_pick (a0.1, (v_spec_l71Time (a0.1, (v_spec_l6Rd_pick (a0.1, (v_spec_l6Rd_pick (a0.1, a0.2) 4).2) 9).2)).2) 8).1)), (v_spec_l6Rd_pick (a0.1, (v_spec_l71Time (a0.1, (v_spec_l6Rd_pick (a0.1, (v_spec_l6Rd_pick (a0.1, a0.2) 4).2) 9).2)).2) 8).2) (by simp only [spec_l71Row_b]) _ ⟨by kernel_rfl, by kernel_rfl⟩

noncomputable def v_spec_l71Row (a0 : (List Int × Int)) : Row × Int := ocR (spec_l71Row_b a0)
def p_spec_l71Row (a0 : (List Int × Int)) : Prop := spec_l71Row_b_ob a0
noncomputable def s_spec_l71Row : Spec := ⟨[.rdr], .one .fr (.st .row), true, fun x => v_spec_l71Row x.1, fun x => p_spec_l71Row x.1⟩
theorem con_spec_l71Row (G : Good Try.prog tt sp_spec_l71Row) : Con Try.prog 144 s_spec_l71Row :=
  con_of G.htt (fn := Try.f144) (c := bodyOf Try.f144) (by kernel_rfl) (by kernel_rfl) (by kernel_rfl) (rs := [.cell 2 76]) (by kernel_rfl) (by kernel_rfl) (fun h => Bool.noConfusion h) fun x hp fr _ _ _ =>
    spec_l71Row_b_ok G (fr := fr) x.1 hp
      (fun q h e he => ⟨by rw [show (s_spec_l71Row.val x).1 = q.1 from congrArg (fun o => (ocR o).1) h]; exact he.1, by rw [show (s_spec_l71Row.val x).2 = q.2 from congrArg (fun o => (ocR o).2) h]; exact he.2⟩)

noncomputable def sp_spec_l71Rows : SP := [(98, s_spec_l6Rd_pick), (144, s_spec_l71Row)]
noncomputable def spec_l71Rows_c4 (x46 : List Int) (x47 : Int) (x48 : List Row) (_x49 : Int) (x50 : Row) : Oc (Int × Int × Int × Int) ((List Row) × Int) Empty Empty Empty :=
  match (cond (cmp .gtr (lenI .row x48) 0) (cmp .eql (v_spec_l6Rd_pick (x46, x47) 3).1 0) false) with
  | true =>
    match (cmp .eql (v_spec_l6Rd_pick (x46, (v_spec_l6Rd_pick (x46, (cond ((cmp .gtr (lenI .row x48) 0) && true) (v_spec_l6Rd_pick (x46, x47) 3).2 x47)) (lenI .row x48)).2) 2).1 0) with
    | true =>
      .n ((v_spec_l6Rd_pick (x46, (v_spec_l6Rd_pick (x46, (cond ((cmp .gtr (lenI .row x48) 0) && true) (v_spec_l6Rd_pick (x46, x47) 3).2 x47)) (lenI .row x48)).2) 2).2, (rd .row x48 (v_spec_l6Rd_pick (x46, (cond ((cmp .gtr (lenI .row x48) 0) && true) (v_spec_l6Rd_pick (x46, x47) 3).2 x47)) (lenI .row x48)).1).Key, (rd .row x48 (v_spec_l6Rd_pick (x46, (cond ((cmp .gtr (lenI .row x48) 0) && true) (v_spec_l6Rd_pick (x46, x47) 3).2 x47)) (lenI .row x48)).1).Val, (IntKind.wrap .i64 (0 - (rd .row x48 (v_spec_l6Rd_pick (x46, (cond ((cmp .gtr (lenI .row x48) 0) && true) (v_spec_l6Rd_pick (x46, x47) 3).2 x47)) (lenI .row x48)).1).Diff)))
    | false =>
      .n ((v_spec_l6Rd_pick (x46, (v_spec_l6Rd_pick (x46, (cond ((cmp .gtr (lenI .row x48) 0) && true) (v_spec_l6Rd_pick (x46, x47) 3).2 x47)) (lenI .row x48)).2) 2).2, (rd .row x48 (v_spec_l6Rd_pick (x46, (cond ((cmp .gtr (lenI .row x48) 0) && true) (v_spec_l6Rd_pick (x46, x47) 3).2 x47)) (lenI .row x48)).1).Key, (rd .row x48 (v_spec_l6Rd_pick (x46, (cond ((cmp .gtr (lenI .row x48) 0) && true) (v_spec_l6Rd_pick (x46, x47) 3).2 x47)) (lenI .row x48)).1).Val, x50.Diff)
  | false =>
    .n ((cond ((cmp .gtr (lenI .row x48) 0) && true) (v_spec_l6Rd_pick (x46, x47) 3).2 x47), x50.Key, x50.Val, x50.Diff)
def spec_l71Rows_c4_ob (x46 : List Int) (x47 : Int) (x48 : List Row) (_x49 : Int) (_x50 : Row) : Prop :=
  (((((cmp .gtr (lenI .row x48) 0) && true) = true → (p_spec_l6Rd_pick (x46, x47) 3))) ∧ (True)) ∧
  ((cond (cmp .gtr (lenI .row x48) 0) (cmp .eql (v_spec_l6Rd_pick (x46, x47) 3).1 0) false) = true →
    (((p_spec_l6Rd_pick (x46, (cond ((cmp .gtr (lenI .row x48) 0) && true) (v_spec_l6Rd_pick (x46, x47) 3).2 x47)) (lenI .row x48))) ∧ (inb (v_spec_l6Rd_pick (x46, (cond ((cmp .gtr (lenI .row x48) 0) && true) (v_spec_l6Rd_pick (x46, x47) 3).2 x47)) (lenI .row x48)).1 (lenI .row x48)) ∧ (True)) ∧
    ((True)) ∧
    ((True)) ∧
    (((p_spec_l6Rd_pick (x46, (v_spec_l6Rd_pick (x46, (cond ((cmp .gtr (lenI .row x48) 0) && true) (v_spec_l6Rd_pick (x46, x47) 3).2 x47)) (lenI .row x48)).2) 2)) ∧ (True)) ∧
    ((cmp .eql (v_spec_l6Rd_pick (x46, (v_spec_l6Rd_pick (x46, (cond ((cmp .gtr (lenI .row x48) 0) && true) (v_spec_l6Rd_pick (x46, x47) 3).2 x47)) (lenI .row x48)).2) 2).1 0) = true →
      ((True)) ∧
      True) ∧ ((cmp .eql (v_spec_l6Rd_pick (x46, (v_spec_l6Rd_pick (x46, (cond ((cmp .gtr (lenI .row x48) 0) && true) (v_spec_l6Rd_pick (x46, x47) 3).2 x47)) (lenI .row x48)).2) 2).1 0) = false →
      True)) ∧ ((cond (cmp .gtr (lenI .row x48) 0) (cmp .eql (v_spec_l6Rd_pick (x46, x47) 3).1 0) false) = false →
    True)
set_option maxRecDepth 100000 in
theorem spec_l71Rows_c4_ok (G : Good Try.prog tt sp_spec_l71Rows) {fr : Fr} (x46 : List Int) (x47 : Int) (x48 : List Row) (x49 : Int) (x50 : Row) (hob : spec_l71Rows_c4_ob x46 x47 x48 x49 x50) {n r : Env → Prop} {x : Nat → Env → Prop}
    (hn : ∀ (q53 : Int) (q54 : Int) (q55 : Int) (q56 : Int), (spec_l71Rows_c4 x46 x47 x48 x49 x50) = .n (q53, q54, q55, q56) → ∀ e, Weak e [(0, .box [(.sh, .lst .byte x46), (.fr, .int .i64 q53)]), (5, .v (.acc true) (.lst .row x48)), (6, .v .fr (.int .i64 x49)), (7, .box [(.fr, .int .i64 q54), (.fr, .int .i64 q55), (.fr, .int .i64 x50.At.A), (.fr, .int .i64 x50.At.B), (.fr, .int .i64 q56)])] → n e)
    (_hr : ∀ q, (spec_l71Rows_c4 x46 x47 x48 x49 x50) = .r q → ∀ e, retAv tt e [.tmp 4] (.one (.acc true) (.lst .row)) = some (RT.av (.one (.acc true) (.lst .row)) q.1) ∧ getE e 0 = .box [(.sh, .lst .byte x46), (.fr, .int .i64 q.2)] → r e) :
    Ht Try.prog ⟨(Try.f129).ntmps, some 0, []⟩ fr (nav (bodyOf (Try.f129)) [1, 1, 0, 1, 0, 0, 1, 0, 0, 1, 0]) [(0, .box [(.sh, .lst .byte x46), (.fr, .int .i64 x47)]), (5, .v (.acc true) (.lst .row x48)), (6, .v .fr (.int .i64 x49)), (7, .box [(.fr, .int .i64 x50.Key), (.fr, .int .i64 x50.Val), (.fr, .int .i64 x50.At.A), (.fr, .int .i64 x50.At.B), (.fr, .int .i64 x50.Diff)])] n r x := by
  unfold spec_l71Rows_c4_ob at hob
  refine Ht.seq (c1 := (nav (bodyOf (Try.f129)) [1, 1, 0, 1, 0, 0, 1, 0, 0, 1, 0, 0])) (c2 := (nav (bodyOf (Try.f129)) [1, 1, 0, 1, 0, 0, 1, 0, 0, 1, 0, 1])) (by kernel_rfl) ?_
  refine Ht.reg G (keep := [0, 5, 6, 7, 27]) (e' := [(0, .box [(.sh, .lst .byte x46), (.fr, .int .i64 (cond ((cmp .gtr (lenI .row x48) 0) && true) (v_spec_l6Rd_pick (x46, x47) 3).2 x47))]), (5, .v (.acc true) (.lst .row x48)), (6, .v .fr (.int .i64 x49)), (7, .box [(.fr, .int .i64 x50.Key), (.fr, .int .i64 x50.Val), (.fr, .int .i64 x50.At.A), (.fr, .int .i64 x50.At.B), (.fr, .int .i64 x50.Diff)]), (27, .v .fr (.bool (cond (cmp .gtr (lenI .row x48) 0) (cmp .eql (v_spec_l6Rd_pick (x46, x47) 3).1 0) false)))]) (obs := [(((cmp .gtr (lenI .row x48) 0) && true) = true → (p_spec_l6Rd_pick (x46, x47) 3))]) (by kernel_rfl) hob.1 ?_
  refine Ht.cond (o := .tmp 27) (c1 := (nav (bodyOf (Try.f129)) [1, 1, 0, 1, 0, 0, 1, 0, 0, 1, 0, 1, 0])) (c2 := (nav (bodyOf (Try.f129)) [1, 1, 0, 1, 0, 0, 1, 0, 0, 1, 0, 1, 1])) (b := (cond (cmp .gtr (lenI .row x48) 0) (cmp .eql (v_spec_l6Rd_pick (x46, x47) 3).1 0) false)) (by kernel_rfl) (by kernel_rfl) (fun h51 => ?_) (fun h51 => ?_)
  · have hb := hob.2.1 h51
    refine Ht.seq (c1 := (nav (bodyOf (Try.f129)) [1, 1, 0, 1, 0, 0, 1, 0, 0, 1, 0, 1, 0, 0])) (c2 := (nav (bodyOf (Try.f129)) [1, 1, 0, 1, 0, 0, 1, 0, 0, 1, 0, 1, 0, 1])) (by kernel_rfl) ?_
    refine Ht.reg G (keep := [0, 5, 6, 7, 8]) (e' := [(0, .box [(.sh, .lst .byte x46), (.fr, .int .i64 (v_spec_l6Rd_pick (x46, (cond ((cmp .gtr (lenI .row x48) 0) && true) (v_spec_l6Rd_pick (x46, x47) 3).2 x47)) (lenI .row x48)).2)]), (5, .v (.acc true) (.lst .row x48)), (6, .v .fr (.int .i64 x49)), (7, .box [(.fr, .int .i64 x50.Key), (.fr, .int .i64 x50.Val), (.fr, .int .i64 x50.At.A), (.fr, .int .i64 x50.At.B), (.fr, .int .i64 x50.Diff)]), (8, .box [(.fr, .int .i64 (rd .row x48 (v_spec_l6Rd_pick (x46, (cond ((cmp .gtr (lenI .row x48) 0) && true) (v_spec_l6Rd_pick (x46, x47) 3).2 x47)) (lenI .row x48)).1).Key), (.fr, .int .i64 (rd .row x48 (v_spec_l6Rd_pick (x46, (cond ((cmp .gtr (lenI .row x48) 0) && true) (v_spec_l6Rd_pick (x46, x47) 3).2 x47)) (lenI .row x48)).1).Val), (.fr, .int .i64 (rd .row x48 (v_spec_l6Rd_pick (x46, (cond ((cmp .gtr (lenI .row x48) 0) && true) (v_spec_l6Rd_pick (x46, x47) 3).2 x47)) (lenI .row x48)).1).At.A), (.fr, .int .i64 (rd .row x48 (v_spec_l6Rd_pick (x46, (cond ((cmp .gtr (lenI .row x48) 0) && true) (v_spec_l6Rd_pick (x46, x47) 3).2 x47)) (lenI .row x48)).1).At.B), (.fr, .int .i64 (rd .row x48 (v_spec_l6Rd_pick (x46, (cond ((cmp .gtr (lenI .row x48) 0) && true) (v_spec_l6Rd_pick (x46, x47) 3).2 x47)) (lenI .row x48)).1).Diff)])]) (obs := [(p_spec_l6Rd_pick (x46, (cond ((cmp .gtr (lenI .row x48) 0) && true) (v_spec_l6Rd_pick (x46, x47) 3).2 x47)) (lenI .row x48)), inb (v_spec_l6Rd_pick (x46, (cond ((cmp .gtr (lenI .row x48) 0) && true) (v_spec_l6Rd_pick (x46, x47) 3).2 x47)) (lenI .row x48)).1 (lenI .row x48)]) (by kernel_rfl) hb.1 ?_
    refine Ht.seq (c1 := (nav (bodyOf (Try.f129)) [1, 1, 0, 1, 0, 0, 1, 0, 0, 1, 0, 1, 0, 1, 0])) (c2 := (nav (bodyOf (Try.f129)) [1, 1, 0, 1, 0, 0, 1, 0, 0, 1, 0, 1, 0, 1, 1])) (by kernel_rfl) ?_
    refine Ht.reg G (keep := [0, 5, 6, 7, 8]) (e' := [(0, .box [(.sh, .lst .byte x46), (.fr, .int .i64 (v_spec_l6Rd_pick (x46, (cond ((cmp .gtr (lenI .row x48) 0) && true) (v_spec_l6Rd_pick (x46, x47) 3).2 x47)) (lenI .row x48)).2)]), (5, .v (.acc true) (.lst .row x48)), (6, .v .fr (.int .i64 x49)), (7, .box [(.fr, .int .i64 (rd .row x48 (v_spec_l6Rd_pick (x46, (cond ((cmp .gtr (lenI .row x48) 0) && true) (v_spec_l6Rd_pick (x46, x47) 3).2 x47)) (lenI .row x48)).1).Key), (.fr, .int .i64 x50.Val), (.fr, .int .i64 x50.At.A), (.fr, .int .i64 x50.At.B), (.fr, .int .i64 x50.Diff)]), (8, .box [(.fr, .int .i64 (rd .row x48 (v_spec_l6Rd_pick (x46, (cond ((cmp .gtr (lenI .row x48) 0) && true) (v_spec_l6Rd_pick (x46, x47) 3).2 x47)) (lenI .row x48)).1).Key), (.fr, .int .i64 (rd .row x48 (v_spec_l6Rd_pick (x46, (cond ((cmp .gtr (lenI .row x48) 0) && true) (v_spec_l6Rd_pick (x46, x47) 3).2 x47)) (lenI .row x48)).1).Val), (.fr, .int .i64 (rd .row x48 (v_spec_l6Rd_pick (x46, (cond ((cmp .gtr (lenI .row x48) 0) && true) (v_spec_l6Rd_pick (x46, x47) 3).2 x47)) (lenI .row x48)).1).At.A), (.fr, .int .i64 (rd .row x48 (v_spec_l6Rd_pick (x46, (cond ((cmp .gtr (lenI .row x48) 0) && true) (v_spec_l6Rd_pick (x46, x47) 3).2 x47)) (lenI .row x48)).1).At.B), (.fr, .int .i64 (rd .row x48 (v_spec_l6Rd_pick (x46, (cond ((cmp .gtr (lenI .row x48) 0) && true) (v_spec_l6Rd_pick (x46, x47) 3).2 x47)) (lenI .row x48)).1).Diff)])]) (obs := []) (by kernel_rfl) hb.2.1 ?_
    refine Ht.seq (c1 := (nav (bodyOf (Try.f129)) [1, 1, 0, 1, 0, 0, 1, 0, 0, 1, 0, 1, 0, 1, 1, 0])) (c2 := (nav (bodyOf (Try.f129)) [1, 1, 0, 1, 0, 0, 1, 0, 0, 1, 0, 1, 0, 1, 1, 1])) (by kernel_rfl) ?_
    refine Ht.reg G (keep := [0, 5, 6, 7, 8]) (e' := [(0, .box [(.sh, .lst .byte x46), (.fr, .int .i64 (v_spec_l6Rd_pick (x46, (cond ((cmp .gtr (lenI .row x48) 0) && true) (v_spec_l6Rd_pick (x46, x47) 3).2 x47)) (lenI .row x48)).2)]), (5, .v (.acc true) (.lst .row x48)), (6, .v .fr (.int .i64 x49)), (7, .box [(.fr, .int .i64 (rd .row x48 (v_spec_l6Rd_pick (x46, (cond ((cmp .gtr (lenI .row x48) 0) && true) (v_spec_l6Rd_pick (x46, x47) 3).2 x47)) (lenI .row x48)).1).Key), (.fr, .int .i64 (rd .row x48 (v_spec_l6Rd_pick (x46, (cond ((cmp .gtr (lenI .row x48) 0) && true) (v_spec_l6Rd_pick (x46, x47) 3).2 x47)) (lenI .row x48)).1).Val), (.fr, .int .i64 x50.At.A), (.fr, .int .i64 x50.At.B), (.fr, .int .i64 x50.Diff)]), (8, .box [(.fr, .int .i64 (rd .row x48 (v_spec_l6Rd_pick (x46, (cond ((cmp .gtr (lenI .row x48) 0) && true) (v_spec_l6Rd_pick (x46, x47) 3).2 x47)) (lenI .row x48)).1).Key), (.fr, .int .i64 (rd .row x48 (v_spec_l6Rd_pick (x46, (cond ((cmp .gtr (lenI .row x48) 0) && true) (v_spec_l6Rd_pick (x46, x47) 3).2 x47)) (lenI .row x48)).1).Val), (.fr, .int .i64 (rd .row x48 (v_spec_l6Rd_pick (x46, (cond ((cmp .gtr (lenI .row x48) 0) && true) (v_spec_l6Rd_pick (x46, x47) 3).2 x47)) (lenI .row x48)).1).At.A), (.fr, .int .i64 (rd .row x48 (v_spec_l6Rd_pick (x46, (cond ((cmp .gtr (lenI .row x48) 0) && true) (v_spec_l6Rd_pick (x46, x47) 3).2 x47)) (lenI .row x48)).1).At.B), (.fr, .int .i64 (rd .row x48 (v_spec_l6Rd_pick (x46, (cond ((cmp .gtr (lenI .row x48) 0) && true) (v_spec_l6Rd_pick (x46, x47) 3).2 x47)) (lenI .row x48)).1).Diff)])]) (obs := []) (by kernel_rfl) hb.2.2.1 ?_
    refine Ht.seq (c1 := (nav (bodyOf (Try.f129)) [1, 1, 0, 1, 0, 0, 1, 0, 0, 1, 0, 1, 0, 1, 1, 1, 0])) (c2 := (nav (bodyOf (Try.f129)) [1, 1, 0, 1, 0, 0, 1, 0, 0, 1, 0, 1, 0, 1, 1, 1, 1])) (by kernel_rfl) ?_
    refine Ht.reg G (keep := [0, 5, 6, 7, 8, 43]) (e' := [(0, .box [(.sh, .lst .byte x46), (.fr, .int .i64 (v_spec_l6Rd_pick (x46, (v_spec_l6Rd_pick (x46, (cond ((cmp .gtr (lenI .row x48) 0) && true) (v_spec_l6Rd_pick (x46, x47) 3).2 x47)) (lenI .row x48)).2) 2).2)]), (5, .v (.acc true) (.lst .row x48)), (6, .v .fr (.int .i64 x49)), (7, .box [(.fr, .int .i64 (rd .row x48 (v_spec_l6Rd_pick (x46, (cond ((cmp .gtr (lenI .row x48) 0) && true) (v_spec_l6Rd_pick (x46, x47) 3).2 x47)) (lenI .row x48)).1).Key), (.fr, .int .i64 (rd .row x48 (v_spec_l6Rd_pick (x46, (cond ((cmp .gtr (lenI .row x48) 0) && true) (v_spec_l6Rd_pick (x46, x47) 3).2 x47)) (lenI .row x48)).1).Val), (.fr, .int .i64 x50.At.A), (.fr, .int .i64 x50.At.B), (.fr, .int .i64 x50.Diff)]), (8, .box [(.fr, .int .i64 (rd .row x48 (v_spec_l6Rd_pick (x46, (cond ((cmp .gtr (lenI .row x48) 0) && true) (v_spec_l6Rd_pick (x46, x47) 3).2 x47)) (lenI .row x48)).1).Key), (.fr, .int .i64 (rd .row x48 (v_spec_l6Rd_pick (x46, (cond ((cmp .gtr (lenI .row x48) 0) && true) (v_spec_l6Rd_pick (x46, x47) 3).2 x47)) (lenI .row x48)).1).Val), (.fr, .int .i64 (rd .row x48 (v_spec_l6Rd_pick (x46, (cond ((cmp .gtr (lenI .row x48) 0) && true) (v_spec_l6Rd_pick (x46, x47) 3).2 x47)) (lenI .row x48)).1).At.A), (.fr, .int .i64 (rd .row x48 (v_spec_l6Rd_pick (x46, (cond ((cmp .gtr (lenI .row x48) 0) && true) (v_spec_l6Rd_pick (x46, x47) 3).2 x47)) (lenI .row x48)).1).At.B), (.fr, .int .i64 (rd .row x48 (v_spec_l6Rd_pick (x46, (cond ((cmp .gtr (lenI .row x48) 0) && true) (v_spec_l6Rd_pick (x46, x47) 3).2 x47)) (lenI .row x48)).1).Diff)]), (43, .v .fr (.bool (cmp .eql (v_spec_l6Rd_pick (x46, (v_spec_l6Rd_pick (x46, (cond ((cmp .gtr (lenI .row x48) 0) && true) (v_spec_l6Rd_pick (x46, x47) 3).2 x47)) (lenI .row x48)).2) 2).1 0)))]) (obs := [(p_spec_l6Rd_pick (x46, (v_spec_l6Rd_pick (x46, (cond ((cmp .gtr (lenI .row x48) 0) && true) (v_spec_l6Rd_pick (x46, x47) 3).2 x47)) (lenI .row x48)).2) 2)]) (by kernel_rfl) hb.2.2.2.1 ?_
    refine Ht.cond (o := .tmp 43) (c1 := (nav (bodyOf (Try.f129)) [1, 1, 0, 1, 0, 0, 1, 0, 0, 1, 0, 1, 0, 1, 1, 1, 1, 0])) (c2 := (nav (bodyOf (Try.f129)) [1, 1, 0, 1, 0, 0, 1, 0, 0, 1, 0, 1, 0, 1, 1, 1, 1, 1])) (b := (cmp .eql (v_spec_l6Rd_pick (x46, (v_spec_l6Rd_pick (x46, (cond ((cmp .gtr (lenI .row x48) 0) && true) (v_spec_l6Rd_pick (x46, x47) 3).2 x47)) (lenI .row x48)).2) 2).1 0)) (by kernel_rfl) (by kernel_rfl) (fun h52 => ?_) (fun h52 => ?_)
    · have hb := hb.2.2.2.2.1 h52
      refine Ht.reg G (keep := [0, 5, 6, 7]) (e' := [(0, .box [(.sh, .lst .byte x46), (.fr, .int .i64 (v_spec_l6Rd_pick (x46, (v_spec_l6Rd_pick (x46, (cond ((cmp .gtr (lenI .row x48) 0) && true) (v_spec_l6Rd_pick (x46, x47) 3).2 x47)) (lenI .row x48)).2) 2).2)]), (5, .v (.acc true) (.lst .row x48)), (6, .v .fr (.int .i64 x49)), (7, .box [(.fr, .int .i64 (rd .row x48 (v_spec_l6Rd_pick (x46, (cond ((cmp .gtr (lenI .row x48) 0) && true) (v_spec_l6Rd_pick (x46, x47) 3).2 x47)) (lenI .row x48)).1).Key), (.fr, .int .i64 (rd .row x48 (v_spec_l6Rd_pick (x46, (cond ((cmp .gtr (lenI .row x48) 0) && true) (v_spec_l6Rd_pick (x46, x47) 3).2 x47)) (lenI .row x48)).1).Val), (.fr, .int .i64 x50.At.A), (.fr, .int .i64 x50.At.B), (.fr, .int .i64 (IntKind.wrap .i64 (0 - (rd .row x48 (v_spec_l6Rd_pick (x46, (cond ((cmp .gtr (lenI .row x48) 0) && true) (v_spec_l6Rd_pick (x46, x47) 3).2 x47)) (lenI .row x48)).1).Diff)))])]) (obs := []) (by kernel_rfl) hb.1 ?_
      exact hn (v_spec_l6Rd_pick (x46, (v_spec_l6Rd_pick (x46, (cond ((cmp .gtr (lenI .row x48) 0) && true) (v_spec_l6Rd_pick (x46, x47) 3).2 x47)) (lenI .row x48)).2) 2).2 (rd .row x48 (v_spec_l6Rd_pick (x46, (cond ((cmp .gtr (lenI .row x48) 0) && true) (v_spec_l6Rd_pick (x46, x47) 3).2 x47)) (lenI .row x48)).1).Key (rd .row x48 (v_spec_l6Rd_pick (x46, (cond ((cmp .gtr (lenI .row x48) 0) && true) (v_spec_l6Rd_pick (x46, x47) 3).2 x47)) (lenI .row x48)).1).Val (IntKind.wrap .i64 (0 - (rd .row x48 (v_spec_l6Rd_pick (x46, (cond ((cmp .gtr (lenI .row x48) 0) && true) (v_spec_l6Rd_pick (x46, x47) 3).2 x47)) (lenI .row x48)).1).Diff)) (by simp only [spec_l71Rows_c4, h51, h52]) _ (Weak.cast (pat := [(0, .same), (5, (.acc true)), (6, .fr), (7, .same)]) (by kernel_rfl) (by kernel_rfl))
    · have hb := hb.2.2.2.2.2 h52
      refine Ht.skip (by kernel_rfl) ?_
      exact hn (v_spec_l6Rd_pick (x46, (v_spec_l6Rd_pick (x46, (cond ((cmp .gtr (lenI .row x48) 0) && true) (v_spec_l6Rd_pick (x46, x47) 3).2 x47)) (lenI .row x48)).2) 2).2 (rd .row x48 (v_spec_l6Rd_pick (x46, (cond ((cmp .gtr (lenI .row x48) 0) && true) (v_spec_l6Rd_pick (x46, x47) 3).2 x47)) (lenI .row x48)).1).Key (rd .row x48 (v_spec_l6Rd_pick (x46, (cond ((cmp .gtr (lenI .row x48) 0) && true) (v_spec_l6Rd_pick (x46, x47) 3).2 x47)) (lenI .row x48)).1).Val x50.Diff (by simp only [spec_l71Rows_c4, h51, h52]) _ (Weak.cast (pat := [(0, .same), (5, (.acc true)), (6, .fr), (7, .same)]) (by kernel_rfl) (by kernel_rfl))
  · have hb := hob.2.2 h51
    refine Ht.skip (by kernel_rfl) ?_
    exact hn (cond ((cmp .gtr (lenI .row x48) 0) && true) (v_spec_l6Rd_pick (x46, x47) 3).2 x47) x50.Key x50.Val x50.Diff (by simp only [spec_l71Rows_c4, h51]) _ (Weak.cast (pat := [(0, .same), (5, (.acc true)), (6, .fr), (7, .same)]) (by kernel_rfl) (by kernel_rfl))

noncomputable def spec_l71Rows_c3 (x42 : List Int) (x43 : Int) (x44 : List Row) (x45 : Int) : Oc (Int × (List Row)) ((List Row) × Int) Empty Empty Empty :=
  match (spec_l71Rows_c4 x42 (v_spec_l71Row (x42, x43)).2 x44 x45 (v_spec_l71Row (x42, x43)).1) with
  | .n (q57, q58, q59, q60) =>
    .n (q57, (x44 ++ [(Row.mk q58 q59 (v_spec_l71Row (x42, x43)).1.At q60)]))
  | .r q62 =>
    .r q62
  | .x q => q.elim
  | .y q => q.elim
  | .z q => q.elim
def spec_l71Rows_c3_ob (x42 : List Int) (x43 : Int) (x44 : List Row) (x45 : Int) : Prop :=
  (((p_spec_l71Row (x42, x43))) ∧ (True)) ∧
  (spec_l71Rows_c4_ob x42 (v_spec_l71Row (x42, x43)).2 x44 x45 (v_spec_l71Row (x42, x43)).1) ∧
  (∀ (q57 : Int) (q58 : Int) (q59 : Int) (q60 : Int), (spec_l71Rows_c4 x42 (v_spec_l71Row (x42, x43)).2 x44 x45 (v_spec_l71Row (x42, x43)).1) = .n (q57, q58, q59, q60) →
    ((lim (lenI .row x44) (lenI .row [(Row.mk q58 q59 (v_spec_l71Row (x42, x43)).1.At q60)])) ∧ (True)) ∧
    True)
set_option maxRecDepth 100000 in
theorem spec_l71Rows_c3_ok (G : Good Try.prog tt sp_spec_l71Rows) {fr : Fr} (x42 : List Int) (x43 : Int) (x44 : List Row) (x45 : Int) (hob : spec_l71Rows_c3_ob x42 x43 x44 x45) {n r : Env → Prop} {x : Nat → Env → Prop}
    (hn : ∀ (q64 : Int) (q65 : List Row), (spec_l71Rows_c3 x42 x43 x44 x45) = .n (q64, q65) → ∀ e, Weak e [(0, .box [(.sh, .lst .byte x42), (.fr, .int .i64 q64)]), (5, .v (.acc true) (.lst .row q65)), (6, .v .fr (.int .i64 x45))] → n e)
    (hr : ∀ q, (spec_l71Rows_c3 x42 x43 x44 x45) = .r q → ∀ e, retAv tt e [.tmp 4] (.one (.acc true) (.lst .row)) = some (RT.av (.one (.acc true) (.lst .row)) q.1) ∧ getE e 0 = .box [(.sh, .lst .byte x42), (.fr, .int .i64 q.2)] → r e) :
    Ht Try.prog ⟨(Try.f129).ntmps, some 0, []⟩ fr (nav (bodyOf (Try.f129)) [1, 1, 0, 1, 0, 0, 1, 0]) [(0, .box [(.sh, .lst .byte x42), (.fr, .int .i64 x43)]), (5, .v (.acc true) (.lst .row x44)), (6, .v .fr (.int .i64 x45))] n r x := by
  unfold spec_l71Rows_c3_ob at hob
  refine Ht.block (id := 1) (c1 := (nav (bodyOf (Try.f129)) [1, 1, 0, 1, 0, 0, 1, 0, 0])) (by kernel_rfl) ?_
  refine Ht.seq (c1 := (nav (bodyOf (Try.f129)) [1, 1, 0, 1, 0, 0, 1, 0, 0, 0])) (c2 := (nav (bodyOf (Try.f129)) [1, 1, 0, 1, 0, 0, 1, 0, 0, 1])) (by kernel_rfl) ?_
  refine Ht.reg G (keep := [0, 5, 6, 7]) (e' := [(0, .box [(.sh, .lst .byte x42), (.fr, .int .i64 (v_spec_l71Row (x42, x43)).2)]), (5, .v (.acc true) (.lst .row x44)), (6, .v .fr (.int .i64 x45)), (7, .box [(.fr, .int .i64 (v_spec_l71Row (x42, x43)).1.Key), (.fr, .int .i64 (v_spec_l71Row (x42, x43)).1.Val), (.fr, .int .i64 (v_spec_l71Row (x42, x43)).1.At.A), (.fr, .int .i64 (v_spec_l71Row (x42, x43)).1.At.B), (.fr, .int .i64 (v_spec_l71Row (x42, x43)).1.Diff)])]) (obs := [(p_spec_l71Row (x42, x43))]) (by kernel_rfl) hob.1 ?_
  refine Ht.seq (c1 := (nav (bodyOf (Try.f129)) [1, 1, 0, 1, 0, 0, 1, 0, 0, 1, 0])) (c2 := (nav (bodyOf (Try.f129)) [1, 1, 0, 1, 0, 0, 1, 0, 0, 1, 1])) (by kernel_rfl) ?_
  refine Ht.weak (e' := [(0, .box [(.sh, .lst .byte x42), (.fr, .int .i64 (v_spec_l71Row (x42, x43)).2)]), (5, .v (.acc true) (.lst .row x44)), (6, .v .fr (.int .i64 x45)), (7, .box [(.fr, .int .i64 (v_spec_l71Row (x42, x43)).1.Key), (.fr, .int .i64 (v_spec_l71Row (x42, x43)).1.Val), (.fr, .int .i64 (v_spec_l71Row (x42, x43)).1.At.A), (.fr, .int .i64 (v_spec_l71Row (x42, x43)).1.At.B), (.fr, .int .i64 (v_spec_l71Row (x42, x43)).1.Diff)])]) (Weak.cast (pat := [(0, .same), (5, .same), (6, .same), (7, .same)]) (by kernel_rfl) (by kernel_rfl)) ?_
  refine spec_l71Rows_c4_ok G x42 (v_spec_l71Row (x42, x43)).2 x44 x45 (v_spec_l71Row (x42, x43)).1 hob.2.1 (fun q57 q58 q59 q60 h61 e hw => ?_) (fun q h63 e he => hr q (by simp only [spec_l71Rows_c3, h63]) e he)
  · have hb := hob.2.2 q57 q58 q59 q60 h61
    refine Ht.weak hw ?_
    refine Ht.reg G (keep := [0, 5, 6]) (e' := [(0, .box [(.sh, .lst .byte x42), (.fr, .int .i64 q57)]), (5, .v (.acc true) (.lst .row (x44 ++ [(Row.mk q58 q59 (v_spec_l71Row (x42, x43)).1.At q60)]))), (6, .v .fr (.int .i64 x45))]) (obs := [lim (lenI .row x44) (lenI .row [(Row.mk q58 q59 (v_spec_l71Row (x42, x43)).1.At q60)])]) (by kernel_rfl) hb.1 ?_
    exact hn q57 (x44 ++ [(Row.mk q58 q59 (v_spec_l71Row (x42, x43)).1.At q60)]) (by simp only [spec_l71Rows_c3, h61]) _ (Weak.cast (pat := [(0, .same), (5, (.acc true)), (6, .fr)]) (by kernel_rfl) (by kernel_rfl))

noncomputable def spec_l71Rows_c2_r (x4 : List Int) (_x5 : Int) (_x6 : Int) (s38 : Int) (s39 : List Row) (s40 : Int) : Oc (Int × (List Row) × Int) ((List Row) × Int) (Int × (List Row)) Empty Empty :=
  match (cmp .gtr s40 0) with
  | true =>
    match (spec_l71Rows_c3 x4 s38 s39 s40) with
    | .n (q66, q67) =>
      .n (q66, q67, (ar .sub .i64 s40 1))
    | .r q69 =>
      .r q69
    | .x q => q.elim
    | .y q => q.elim
    | .z q => q.elim
  | false =>
    .x (s38, s39)
def spec_l71Rows_c2_r_ob (x4 : List Int) (_x5 : Int) (_x6 : Int) (s38 : Int) (s39 : List Row) (s40 : Int) : Prop :=
  ((True)) ∧
  ((cmp .gtr s40 0) = true →
    (spec_l71Rows_c3_ob x4 s38 s39 s40) ∧
    (∀ (q66 : Int) (q67 : List Row), (spec_l71Rows_c3 x4 s38 s39 s40) = .n (q66, q67) →
      ((True)) ∧
      True)) ∧ ((cmp .gtr s40 0) = false →
    True)
set_option maxRecDepth 100000 in
theorem spec_l71Rows_c2_r_ok (G : Good Try.prog tt sp_spec_l71Rows) {fr : Fr} (x4 : List Int) (x5 : Int) (x6 : Int) (s38 : Int) (s39 : List Row) (s40 : Int) (hob : spec_l71Rows_c2_r_ob x4 x5 x6 s38 s39 s40) {n r : Env → Prop} {x : Nat → Env → Prop}
    (hn : ∀ (q76 : Int) (q77 : List Row) (q78 : Int), (spec_l71Rows_c2_r x4 x5 x6 s38 s39 s40) = .n (q76, q77, q78) → ∀ e, Weak e [(0, .box [(.sh, .lst .byte x4), (.fr, .int .i64 q76)]), (5, .v (.acc true) (.lst .row q77)), (6, .v .fr (.int .i64 q78))] → n e)
    (hr : ∀ q, (spec_l71Rows_c2_r x4 x5 x6 s38 s39 s40) = .r q → ∀ e, retAv tt e [.tmp 4] (.one (.acc true) (.lst .row)) = some (RT.av (.one (.acc true) (.lst .row)) q.1) ∧ getE e 0 = .box [(.sh, .lst .byte x4), (.fr, .int .i64 q.2)] → r e)
    (hx : ∀ (q74 : Int) (q75 : List Row), (spec_l71Rows_c2_r x4 x5 x6 s38 s39 s40) = .x (q74, q75) → ∀ e, Weak e [(0, .box [(.sh, .lst .byte x4), (.fr, .int .i64 q74)]), (5, .v (.acc true) (.lst .row q75))] → x 0 e) :
    Ht Try.prog ⟨(Try.f129).ntmps, some 0, []⟩ fr (nav (bodyOf (Try.f129)) [1, 1, 0, 1, 0, 0]) [(0, .box [(.sh, .lst .byte x4), (.fr, .int .i64 s38)]), (5, .v (.acc true) (.lst .row s39)), (6, .v .fr (.int .i64 s40))] n r x := by
  unfold spec_l71Rows_c2_r_ob at hob
  refine Ht.seq (c1 := (nav (bodyOf (Try.f129)) [1, 1, 0, 1, 0, 0, 0])) (c2 := (nav (bodyOf (Try.f129)) [1, 1, 0, 1, 0, 0, 1])) (by kernel_rfl) ?_
  refine Ht.seq (c1 := (nav (bodyOf (Try.f129)) [1, 1, 0, 1, 0, 0, 0, 0])) (c2 := (nav (bodyOf (Try.f129)) [1, 1, 0, 1, 0, 0, 0, 1])) (by kernel_rfl) ?_
  refine Ht.reg G (keep := [0, 5, 6, 15]) (e' := [(0, .box [(.sh, .lst .byte x4), (.fr, .int .i64 s38)]), (5, .v (.acc true) (.lst .row s39)), (6, .v .fr (.int .i64 s40)), (15, .v .fr (.bool (cmp .gtr s40 0)))]) (obs := []) (by kernel_rfl) hob.1 ?_
  refine Ht.cond (o := .tmp 15) (c1 := (nav (bodyOf (Try.f129)) [1, 1, 0, 1, 0, 0, 0, 1, 0])) (c2 := (nav (bodyOf (Try.f129)) [1, 1, 0, 1, 0, 0, 0, 1, 1])) (b := (cmp .gtr s40 0)) (by kernel_rfl) (by kernel_rfl) (fun h41 => ?_) (fun h41 => ?_)
  · have hb := hob.2.1 h41
    refine Ht.skip (by kernel_rfl) ?_
    refine Ht.seq (c1 := (nav (bodyOf (Try.f129)) [1, 1, 0, 1, 0, 0, 1, 0])) (c2 := (nav (bodyOf (Try.f129)) [1, 1, 0, 1, 0, 0, 1, 1])) (by kernel_rfl) ?_
    refine Ht.weak (e' := [(0, .box [(.sh, .lst .byte x4), (.fr, .int .i64 s38)]), (5, .v (.acc true) (.lst .row s39)), (6, .v .fr (.int .i64 s40))]) (Weak.cast (pat := [(0, .same), (5, .same), (6, .same)]) (by kernel_rfl) (by kernel_rfl)) ?_
    refine spec_l71Rows_c3_ok G x4 s38 s39 s40 hb.1 (fun q66 q67 h68 e hw => ?_) (fun q h70 e he => hr q (by simp only [spec_l71Rows_c2_r, h41, h70]) e he)
    · have hb := hb.2 q66 q67 h68
      refine Ht.weak hw ?_
      refine Ht.reg G (keep := [0, 5, 6]) (e' := [(0, .box [(.sh, .lst .byte x4), (.fr, .int .i64 q66)]), (5, .v (.acc true) (.lst .row q67)), (6, .v .fr (.int .i64 (ar .sub .i64 s40 1)))]) (obs := []) (by kernel_rfl) hb.1 ?_
      exact hn q66 q67 (ar .sub .i64 s40 1) (by simp only [spec_l71Rows_c2_r, h41, h68]) _ (Weak.cast (pat := [(0, .same), (5, (.acc true)), (6, .fr)]) (by kernel_rfl) (by kernel_rfl))
  · have hb := hob.2.2 h41
    refine Ht.exit (i := 0) (by kernel_rfl) ?_
    exact hx s38 s39 (by simp only [spec_l71Rows_c2_r, h41]) _ (Weak.cast (pat := [(0, .same), (5, (.acc true))]) (by kernel_rfl) (by kernel_rfl))

noncomputable def spec_l71Rows_c2 (x4 : List Int) (x5 : Int) (x6 : Int) : Oc Empty ((List Row) × Int) (Int × (List Row)) Empty Empty := lpV (fun s => ocLp ((fun (s : Int × (List Row) × Int) => spec_l71Rows_c2_r x4 x5 x6 s.1 s.2.1 s.2.2) s)) (x5, [], x6)
def spec_l71Rows_c2_ob (x4 : List Int) (x5 : Int) (x6 : Int) : Prop := LpT (fun s => ocLp ((fun (s : Int × (List Row) × Int) => spec_l71Rows_c2_r x4 x5 x6 s.1 s.2.1 s.2.2) s)) (fun s => spec_l71Rows_c2_r_ob x4 x5 x6 s.1 s.2.1 s.2.2) (x5, [], x6)
set_option maxRecDepth 100000 in
theorem spec_l71Rows_c2_ok (G : Good Try.prog tt sp_spec_l71Rows) {fr : Fr} (x4 : List Int) (x5 : Int) (x6 : Int) (hob : spec_l71Rows_c2_ob x4 x5 x6) {n r : Env → Prop} {x : Nat → Env → Prop}
    (hr : ∀ q, (spec_l71Rows_c2 x4 x5 x6) = .r q → ∀ e, retAv tt e [.tmp 4] (.one (.acc true) (.lst .row)) = some (RT.av (.one (.acc true) (.lst .row)) q.1) ∧ getE e 0 = .box [(.sh, .lst .byte x4), (.fr, .int .i64 q.2)] → r e)
    (hx : ∀ (q74 : Int) (q75 : List Row), (spec_l71Rows_c2 x4 x5 x6) = .x (q74, q75) → ∀ e, Weak e [(0, .box [(.sh, .lst .byte x4), (.fr, .int .i64 q74)]), (5, .v (.acc true) (.lst .row q75))] → x 0 e) :
    Ht Try.prog ⟨(Try.f129).ntmps, some 0, []⟩ fr (nav (bodyOf (Try.f129)) [1, 1, 0, 1, 0]) [(0, .box [(.sh, .lst .byte x4), (.fr, .int .i64 x5)]), (5, .v (.acc true) (.lst .row [])), (6, .v .fr (.int .i64 x6))] n r x := by
  unfold spec_l71Rows_c2_ob at hob
  refine Ht.weak (e' := (fun (s : Int × (List Row) × Int) => [(0, .box [(.sh, .lst .byte x4), (.fr, .int .i64 s.1)]), (5, .v (.acc true) (.lst .row s.2.1)), (6, .v .fr (.int .i64 s.2.2))]) (x5, [], x6)) (Weak.cast (pat := [(0, .same), (5, (.acc true)), (6, .fr)]) (by kernel_rfl) (by kernel_rfl)) ?_
  refine Ht.loopOc (c1 := (nav (bodyOf (Try.f129)) [1, 1, 0, 1, 0, 0])) (by kernel_rfl) (fun (s : Int × (List Row) × Int) => [(0, .box [(.sh, .lst .byte x4), (.fr, .int .i64 s.1)]), (5, .v (.acc true) (.lst .row s.2.1)), (6, .v .fr (.int .i64 s.2.2))]) (fun (s : Int × (List Row) × Int) => spec_l71Rows_c2_r x4 x5 x6 s.1 s.2.1 s.2.2) hob (RP := fun q e => retAv tt e [.tmp 4] (.one (.acc true) (.lst .row)) = some (RT.av (.one (.acc true) (.lst .row)) q.1) ∧ getE e 0 = .box [(.sh, .lst .byte x4), (.fr, .int .i64 q.2)]) (XP := (fun i q e => i = 0 ∧ Weak e [(0, .box [(.sh, .lst .byte x4), (.fr, .int .i64 q.1)]), (5, .v (.acc true) (.lst .row q.2))])) (YP := (fun _ _ _ => False)) (ZP := (fun _ _ _ => False)) (fun s hs => ?_) ?_ ?_ ?_ ?_
  · refine spec_l71Rows_c2_r_ok G x4 x5 x6 s.1 s.2.1 s.2.2 hs (fun q76 q77 q78 h e hw => ⟨(q76, q77, q78), h, hw⟩) (fun q h e he => ⟨q, h, he⟩) (fun q74 q75 h e hw => .inl ⟨(q74, q75), h, rfl, hw⟩)
  · exact fun q e h he => hr q h e he
  · rintro i q e h ⟨rfl, hw⟩
    exact hx q.1 q.2 h e hw
  · exact fun _ _ _ _ h => h.elim
  · exact fun _ _ _ _ h => h.elim


noncomputable def spec_l71Rows_c1 (x1 : List Int) (x2 : Int) (x3 : Int) : Oc (Int × (List Row)) ((List Row) × Int) Empty Empty Empty :=
  match (spec_l71Rows_c2 x1 (v_spec_l6Rd_pick (x1, x2) (ar .add .i64 x3 1)).2 (v_spec_l6Rd_pick (x1, x2) (ar .add .i64 x3 1)).1) with
  | .r q79 =>
    .r q79
  | .x (q81, q82) =>
    .n (q81, q82)
  | .n q => q.elim
  | .y q => q.elim
  | .z q => q.elim
def spec_l71Rows_c1_ob (x1 : List Int) (x2 : Int) (x3 : Int) : Prop :=
  (((p_spec_l6Rd_pick (x1, x2) (ar .add .i64 x3 1))) ∧ (True)) ∧
  (spec_l71Rows_c2_ob x1 (v_spec_l6Rd_pick (x1, x2) (ar .add .i64 x3 1)).2 (v_spec_l6Rd_pick (x1, x2) (ar .add .i64 x3 1)).1) ∧
  (∀ (q81 : Int) (q82 : List Row), (spec_l71Rows_c2 x1 (v_spec_l6Rd_pick (x1, x2) (ar .add .i64 x3 1)).2 (v_spec_l6Rd_pick (x1, x2) (ar .add .i64 x3 1)).1) = .x (q81, q82) →
    True)
set_option maxRecDepth 100000 in
theorem spec_l71Rows_c1_ok (G : Good Try.prog tt sp_spec_l71Rows) {fr : Fr} (x1 : List Int) (x2 : Int) (x3 : Int) (hob : spec_l71Rows_c1_ob x1 x2 x3) {n r : Env → Prop} {x : Nat → Env → Prop}
    (hn : ∀ (q84 : Int) (q85 : List Row), (spec_l71Rows_c1 x1 x2 x3) = .n (q84, q85) → ∀ e, Weak e [(0, .box [(.sh, .lst .byte x1), (.fr, .int .i64 q84)]), (5, .v (.acc true) (.lst .row q85))] → n e)
    (hr : ∀ q, (spec_l71Rows_c1 x1 x2 x3) = .r q → ∀ e, retAv tt e [.tmp 4] (.one (.acc true) (.lst .row)) = some (RT.av (.one (.acc true) (.lst .row)) q.1) ∧ getE e 0 = .box [(.sh, .lst .byte x1), (.fr, .int .i64 q.2)] → r e) :
    Ht Try.prog ⟨(Try.f129).ntmps, some 0, []⟩ fr (nav (bodyOf (Try.f129)) [1, 1, 0]) [(0, .box [(.sh, .lst .byte x1), (.fr, .int .i64 x2)]), (1, .v .fr (.int .i64 x3)), (5, .v (.acc true) (.lst .row []))] n r x := by
  unfold spec_l71Rows_c1_ob at hob
  refine Ht.seq (c1 := (nav (bodyOf (Try.f129)) [1, 1, 0, 0])) (c2 := (nav (bodyOf (Try.f129)) [1, 1, 0, 1])) (by kernel_rfl) ?_
  refine Ht.reg G (keep := [0, 5, 6]) (e' := [(0, .box [(.sh, .lst .byte x1), (.fr, .int .i64 (v_spec_l6Rd_pick (x1, x2) (ar .add .i64 x3 1)).2)]), (5, .v (.acc true) (.lst .row [])), (6, .v .fr (.int .i64 (v_spec_l6Rd_pick (x1, x2) (ar .add .i64 x3 1)).1))]) (obs := [(p_spec_l6Rd_pick (x1, x2) (ar .add .i64 x3 1))]) (by kernel_rfl) hob.1 ?_
  refine Ht.block (id := 0) (c1 := (nav (bodyOf (Try.f129)) [1, 1, 0, 1, 0])) (by kernel_rfl) ?_
  refine Ht.weak (e' := [(0, .box [(.sh, .lst .byte x1), (.fr, .int .i64 (v_spec_l6Rd_pick (x1, x2) (ar .add .i64 x3 1)).2)]), (5, .v (.acc true) (.lst .row [])), (6, .v .fr (.int .i64 (v_spec_l6Rd_pick (x1, x2) (ar .add .i64 x3 1)).1))]) (Weak.cast (pat := [(0, .same), (5, .same), (6, .same)]) (by kernel_rfl) (by kernel_rfl)) ?_
  refine spec_l71Rows_c2_ok G x1 (v_spec_l6Rd_pick (x1, x2) (ar .add .i64 x3 1)).2 (v_spec_l6Rd_pick (x1, x2) (ar .add .i64 x3 1)).1 hob.2.1 (fun q h80 e he => hr q (by simp only [spec_l71Rows_c1, h80]) e he) (fun q81 q82 h83 e hw => ?_)
  · have hb := hob.2.2 q81 q82 h83
    exact hn q81 q82 (by simp only [spec_l71Rows_c1, h83]) e (hw.trans (Weak.cast (pat := [(0, .same), (5, (.acc true))]) (by kernel_rfl) (by kernel_rfl)))

noncomputable def spec_l71Rows_b (a0 : (List Int × Int)) (a1 : Int) : Oc Empty ((List Row) × Int) Empty Empty Empty :=
  match (spec_l71Rows_c1 a0.1 a0.2 a1) with
  | .n (q86, q87) =>
    .r (q87, q86)
  | .r q89 =>
    .r q89
  | .x q => q.elim
  | .y q => q.elim
  | .z q => q.elim
def spec_l71Rows_b_ob (a0 : (List Int × Int)) (a1 : Int) : Prop :=
  ((True)) ∧
  ((True)) ∧
  (spec_l71Rows_c1_ob a0.1 a0.2 a1) ∧
  (∀ (q86 : Int) (q87 : List Row), (spec_l71Rows_c1 a0.1 a0.2 a1) = .n (q86, q87) →
    ((True)) ∧
    True)
set_option maxRecDepth 100000 in
theorem spec_l71Rows_b_ok (G : Good Try.prog tt sp_spec_l71Rows) {fr : Fr} (a0 : (List Int × Int)) (a1 : Int) (hob : spec_l71Rows_b_ob a0 a1) {n r : Env → Prop} {x : Nat → Env → Prop}
    (hr : ∀ q, (spec_l71Rows_b a0 a1) = .r q → ∀ e, retAv tt e [.tmp 4] (.one (.acc true) (.lst .row)) = some (RT.av (.one (.acc true) (.lst .row)) q.1) ∧ getE e 0 = .box [(.sh, .lst .byte a0.1), (.fr, .int .i64 q.2)] → r e) :
    Ht Try.prog ⟨(Try.f129).ntmps, some 0, []⟩ fr (nav (bodyOf (Try.f129)) []) [(0, .box [(.sh, .lst .byte a0.1), (.fr, .int .i64 a0.2)]), (1, .v .fr (.int .i64 a1))] n r x := by
  unfold spec_l71Rows_b_ob at hob
  refine Ht.seq (c1 := (nav (bodyOf (Try.f129)) [0])) (c2 := (nav (bodyOf (Try.f129)) [1])) (by kernel_rfl) ?_
  refine Ht.reg G (keep := [0, 1]) (e' := [(0, .box [(.sh, .lst .byte a0.1), (.fr, .int .i64 a0.2)]), (1, .v .fr (.int .i64 a1))]) (obs := []) (by kernel_rfl) hob.1 ?_
  refine Ht.seq (c1 := (nav (bodyOf (Try.f129)) [1, 0])) (c2 := (nav (bodyOf (Try.f129)) [1, 1])) (by kernel_rfl) ?_
  refine Ht.reg G (keep := [0, 1, 5]) (e' := [(0, .box [(.sh, .lst .byte a0.1), (.fr, .int .i64 a0.2)]), (1, .v .fr (.int .i64 a1)), (5, .v (.acc true) (.lst .row []))]) (obs := []) (by kernel_rfl) hob.2.1 ?_
  refine Ht.seq (c1 := (nav (bodyOf (Try.f129)) [1, 1, 0])) (c2 := (nav (bodyOf (Try.f129)) [1, 1, 1])) (by kernel_rfl) ?_
  refine Ht.weak (e' := [(0, .box [(.sh, .lst .byte a0.1), (.fr, .int .i64 a0.2)]), (1, .v .fr (.int .i64 a1)), (5, .v (.acc true) (.lst .row []))]) (Weak.cast (pat := [(0, .same), (1, .same), (5, .same)]) (by kernel_rfl) (by kernel_rfl)) ?_
  refine spec_l71Rows_c1_ok G a0.1 a0.2 a1 hob.2.2.1 (fun q86 q87 h88 e hw => ?_) (fun q h90 e he => hr q (by simp only [spec_l71Rows_b, h90]) e he)
  · have hb := hob.2.2.2 q86 q87 h88
    refine Ht.weak hw ?_
    refine Ht.seq (c1 := (nav (bodyOf (Try.f129)) [1, 1, 1, 0])) (c2 := (nav (bodyOf (Try.f129)) [1, 1, 1, 1])) (by kernel_rfl) ?_
    refine Ht.reg G (keep := [0, 4]) (e' := [(0, .box [(.sh, .lst .byte a0.1), (.fr, .int .i64 q86)]), (4, .v (.acc true) (.lst .row q87))]) (obs := []) (by kernel_rfl) hb.1 ?_
    refine Ht.ret (by kernel_rfl) ?_
    exact hr (q87, q86) (by simp only [spec_l71Rows_b, h88]) _ ⟨by kernel_rfl, by kernel_rfl⟩

noncomputable def v_spec_l71Rows (a0 : (List Int × Int)) (a1 : Int) : (List Row) × Int := ocR (spec_l71Rows_b a0 a1)
def p_spec_l71Rows (a0 : (List Int × Int)) (a1 : Int) : Prop := spec_l71Rows_b_ob a0 a1
noncomputable def s_spec_l71Rows : Spec := ⟨[.rdr, (.int .i64)], .one (.acc true) (.lst .row), true, fun x => v_spec_l71Rows x.1 x.2.1, fun x => p_spec_l71Rows x.1 x.2.1⟩
theorem con_spec_l71Rows (G : Good Try.prog tt sp_spec_l71Rows) : Con Try.prog 129 s_spec_l71Rows :=
  con_of G.htt (fn := Try.f129) (c := bodyOf Try.f129) (by kernel_rfl) (by kernel_rfl) (by kernel_rfl) (rs := [.tmp 4]) (by kernel_rfl) (by kernel_rfl) (fun h => Bool.noConfusion h) fun x hp fr _ _ _ =>
    spec_l71Rows_b_ok G (fr := fr) x.1 x.2.1 hp
      (fun q h e he => ⟨by rw [show (s_spec_l71Rows.val x).1 = q.1 from congrArg (fun o => (ocR o).1) h]; exact he.1, by rw [show (s_spec_l71Rows.val x).2 = q.2 from congrArg (fun o => (ocR o).2) h]; exact he.2⟩)

noncomputable def sp_spec_l6In : SP := []
noncomputable def spec_l6In_b (a0 : Int) (a1 : Int) (a2 : Int) : Oc Empty Bool Empty Empty Empty :=
  .r (cond (cmp .geq a0 a1) (cmp .leq a0 a2) false)
def spec_l6In_b_ob (_a0 : Int) (_a1 : Int) (_a2 : Int) : Prop :=
  ((True)) ∧
  ((True)) ∧
  True
set_option maxRecDepth 100000 in
theorem spec_l6In_b_ok (G : Good Try.prog tt sp_spec_l6In) {fr : Fr} (a0 : Int) (a1 : Int) (a2 : Int) (hob : spec_l6In_b_ob a0 a1 a2) {n r : Env → Prop} {x : Nat → Env → Prop}
    (hr : ∀ q, (spec_l6In_b a0 a1 a2) = .r q → ∀ e, retAv tt e [.tmp 6] (.one .fr .bool) = some (RT.av (.one .fr .bool) q) → r e) :
    Ht Try.prog ⟨(Try.f93).ntmps, none, []⟩ fr (nav (bodyOf (Try.f93)) []) [(0, .v .fr (.int .i64 a0)), (1, .v .fr (.int .i64 a1)), (2, .v .fr (.int .i64 a2))] n r x := by
  unfold spec_l6In_b_ob at hob
  refine Ht.seq (c1 := (nav (bodyOf (Try.f93)) [0])) (c2 := (nav (bodyOf (Try.f93)) [1])) (by kernel_rfl) ?_
  refine Ht.reg G (keep := [0, 1, 2]) (e' := [(0, .v .fr (.int .i64 a0)), (1, .v .fr (.int .i64 a1)), (2, .v .fr (.int .i64 a2))]) (obs := []) (by kernel_rfl) hob.1 ?_
  refine Ht.seq (c1 := (nav (bodyOf (Try.f93)) [1, 0])) (c2 := (nav (bodyOf (Try.f93)) [1, 1])) (by kernel_rfl) ?_
  refine Ht.reg G (keep := [6]) (e' := [(6, .v .fr (.bool (cond (cmp .geq a0 a1) (cmp .leq a0 a2) false)))]) (obs := []) (by kernel_rfl) hob.2.1 ?_
  refine Ht.ret (by kernel_rfl) ?_
  exact hr (cond (cmp .geq a0 a1) (cmp .leq a0 a2) false) (by simp only [spec_l6In_b]) _ (by kernel_rfl)

noncomputable def v_spec_l6In (a0 : Int) (a1 : Int) (a2 : Int) : Bool := ocR (spec_l6In_b a0 a1 a2)
def p_spec_l6In (a0 : Int) (a1 : Int) (a2 : Int) : Prop := spec_l6In_b_ob a0 a1 a2
noncomputable def s_spec_l6In : Spec := ⟨[(.int .i64), (.int .i64), (.int .i64)], .one .fr .bool, false, fun x => (v_spec_l6In x.1 x.2.1 x.2.2.1, 0), fun x => p_spec_l6In x.1 x.2.1 x.2.2.1⟩
theorem con_spec_l6In (G : Good Try.prog tt sp_spec_l6In) : Con Try.prog 93 s_spec_l6In :=
  con_of G.htt (fn := Try.f93) (c := bodyOf Try.f93) (by kernel_rfl) (by kernel_rfl) (by kernel_rfl) (rs := [.tmp 6]) (by kernel_rfl) (by kernel_rfl) (fun _ => rfl) fun x hp fr _ _ _ =>
    spec_l6In_b_ok G (fr := fr) x.1 x.2.1 x.2.2.1 hp
      (fun q h e he => ⟨by rw [show (s_spec_l6In.val x).1 = q from congrArg ocR h]; exact he, trivial⟩)

noncomputable def sp_spec_TimeOk : SP := [(93, s_spec_l6In)]
noncomputable def spec_TimeOk_b (a0 : Time) : Oc Empty Bool Empty Empty Empty :=
  .r (cond (v_spec_l6In a0.A 0 7) (v_spec_l6In a0.B 0 7) false)
def spec_TimeOk_b_ob (a0 : Time) : Prop :=
  ((True)) ∧
  (((p_spec_l6In a0.A 0 7)) ∧ ((((v_spec_l6In a0.A 0 7) && true) = true → (p_spec_l6In a0.B 0 7))) ∧ (True)) ∧
  True
set_option maxRecDepth 100000 in
theorem spec_TimeOk_b_ok (G : Good Try.prog tt sp_spec_TimeOk) {fr : Fr} (a0 : Time) (hob : spec_TimeOk_b_ob a0) {n r : Env → Prop} {x : Nat → Env → Prop}
    (hr : ∀ q, (spec_TimeOk_b a0) = .r q → ∀ e, retAv tt e [.tmp 2] (.one .fr .bool) = some (RT.av (.one .fr .bool) q) → r e) :
    Ht Try.prog ⟨(Try.f132).ntmps, none, []⟩ fr (nav (bodyOf (Try.f132)) []) [(0, .agg true [.int .i64 a0.A, .int .i64 a0.B])] n r x := by
  unfold spec_TimeOk_b_ob at hob
  refine Ht.seq (c1 := (nav (bodyOf (Try.f132)) [0])) (c2 := (nav (bodyOf (Try.f132)) [1])) (by kernel_rfl) ?_
  refine Ht.reg G (keep := [1]) (e' := [(1, .box [(.fr, .int .i64 a0.A), (.fr, .int .i64 a0.B)])]) (obs := []) (by kernel_rfl) hob.1 ?_
  refine Ht.seq (c1 := (nav (bodyOf (Try.f132)) [1, 0])) (c2 := (nav (bodyOf (Try.f132)) [1, 1])) (by kernel_rfl) ?_
  refine Ht.reg G (keep := [2]) (e' := [(2, .v .fr (.bool (cond (v_spec_l6In a0.A 0 7) (v_spec_l6In a0.B 0 7) false)))]) (obs := [(p_spec_l6In a0.A 0 7), (((v_spec_l6In a0.A 0 7) && true) = true → (p_spec_l6In a0.B 0 7))]) (by kernel_rfl) hob.2.1 ?_
  refine Ht.ret (by kernel_rfl) ?_
  exact hr (cond (v_spec_l6In a0.A 0 7) (v_spec_l6In a0.B 0 7) false) (by simp only [spec_TimeOk_b]) _ (by kernel_rfl)

noncomputable def v_spec_TimeOk (a0 : Time) : Bool := ocR (spec_TimeOk_b a0)
def p_spec_TimeOk (a0 : Time) : Prop := spec_TimeOk_b_ob a0
noncomputable def s_spec_TimeOk : Spec := ⟨[(.st .time)], .one .fr .bool, false, fun x => (v_spec_TimeOk x.1, 0), fun x => p_spec_TimeOk x.1⟩
theorem con_spec_TimeOk (G : Good Try.prog tt sp_spec_TimeOk) : Con Try.prog 132 s_spec_TimeOk :=
  con_of G.htt (fn := Try.f132) (c := bodyOf Try.f132) (by kernel_rfl) (by kernel_rfl) (by kernel_rfl) (rs := [.tmp 2]) (by kernel_rfl) (by kernel_rfl) (fun _ => rfl) fun x hp fr _ _ _ =>
    spec_TimeOk_b_ok G (fr := fr) x.1 hp
      (fun q h e he => ⟨by rw [show (s_spec_TimeOk.val x).1 = q from congrArg ocR h]; exact he, trivial⟩)

noncomputable def sp_spec_l2Row : SP := [(93, s_spec_l6In), (132, s_spec_TimeOk)]
noncomputable def spec_l2Row_b (a0 : Row) : Oc Empty Bool Empty Empty Empty :=
  .r (cond (cond (cond (v_spec_l6In a0.Key 0 3) (v_spec_l6In a0.Val 0 99) false) (v_spec_TimeOk a0.At) false) (v_spec_l6In a0.Diff (-99999) 99999) false)
def spec_l2Row_b_ob (a0 : Row) : Prop :=
  ((True)) ∧
  (((p_spec_l6In a0.Key 0 3)) ∧ ((((v_spec_l6In a0.Key 0 3) && true) = true → (p_spec_l6In a0.Val 0 99))) ∧ ((((cond (v_spec_l6In a0.Key 0 3) (v_spec_l6In a0.Val 0 99) false) && true) = true → (p_spec_TimeOk a0.At))) ∧ ((((cond (cond (v_spec_l6In a0.Key 0 3) (v_spec_l6In a0.Val 0 99) false) (v_spec_TimeOk a0.At) false) && true) = true → (p_spec_l6In a0.Diff (-99999) 99999))) ∧ (True)) ∧
  True
set_option maxRecDepth 100000 in
theorem spec_l2Row_b_ok (G : Good Try.prog tt sp_spec_l2Row) {fr : Fr} (a0 : Row) (hob : spec_l2Row_b_ob a0) {n r : Env → Prop} {x : Nat → Env → Prop}
    (hr : ∀ q, (spec_l2Row_b a0) = .r q → ∀ e, retAv tt e [.tmp 2] (.one .fr .bool) = some (RT.av (.one .fr .bool) q) → r e) :
    Ht Try.prog ⟨(Try.f109).ntmps, none, []⟩ fr (nav (bodyOf (Try.f109)) []) [(0, .agg true [.int .i64 a0.Key, .int .i64 a0.Val, .int .i64 a0.At.A, .int .i64 a0.At.B, .int .i64 a0.Diff])] n r x := by
  unfold spec_l2Row_b_ob at hob
  refine Ht.seq (c1 := (nav (bodyOf (Try.f109)) [0])) (c2 := (nav (bodyOf (Try.f109)) [1])) (by kernel_rfl) ?_
  refine Ht.reg G (keep := [1]) (e' := [(1, .box [(.fr, .int .i64 a0.Key), (.fr, .int .i64 a0.Val), (.fr, .int .i64 a0.At.A), (.fr, .int .i64 a0.At.B), (.fr, .int .i64 a0.Diff)])]) (obs := []) (by kernel_rfl) hob.1 ?_
  refine Ht.seq (c1 := (nav (bodyOf (Try.f109)) [1, 0])) (c2 := (nav (bodyOf (Try.f109)) [1, 1])) (by kernel_rfl) ?_
  refine Ht.reg G (keep := [2]) (e' := [(2, .v .fr (.bool (cond (cond (cond (v_spec_l6In a0.Key 0 3) (v_spec_l6In a0.Val 0 99) false) (v_spec_TimeOk a0.At) false) (v_spec_l6In a0.Diff (-99999) 99999) false)))]) (obs := [(p_spec_l6In a0.Key 0 3), (((v_spec_l6In a0.Key 0 3) && true) = true → (p_spec_l6In a0.Val 0 99)), (((cond (v_spec_l6In a0.Key 0 3) (v_spec_l6In a0.Val 0 99) false) && true) = true → (p_spec_TimeOk a0.At)), (((cond (cond (v_spec_l6In a0.Key 0 3) (v_spec_l6In a0.Val 0 99) false) (v_spec_TimeOk a0.At) false) && true) = true → (p_spec_l6In a0.Diff (-99999) 99999))]) (by kernel_rfl) hob.2.1 ?_
  refine Ht.ret (by kernel_rfl) ?_
  exact hr (cond (cond (cond (v_spec_l6In a0.Key 0 3) (v_spec_l6In a0.Val 0 99) false) (v_spec_TimeOk a0.At) false) (v_spec_l6In a0.Diff (-99999) 99999) false) (by simp only [spec_l2Row_b]) _ (by kernel_rfl)

noncomputable def v_spec_l2Row (a0 : Row) : Bool := ocR (spec_l2Row_b a0)
def p_spec_l2Row (a0 : Row) : Prop := spec_l2Row_b_ob a0
noncomputable def s_spec_l2Row : Spec := ⟨[(.st .row)], .one .fr .bool, false, fun x => (v_spec_l2Row x.1, 0), fun x => p_spec_l2Row x.1⟩
theorem con_spec_l2Row (G : Good Try.prog tt sp_spec_l2Row) : Con Try.prog 109 s_spec_l2Row :=
  con_of G.htt (fn := Try.f109) (c := bodyOf Try.f109) (by kernel_rfl) (by kernel_rfl) (by kernel_rfl) (rs := [.tmp 2]) (by kernel_rfl) (by kernel_rfl) (fun _ => rfl) fun x hp fr _ _ _ =>
    spec_l2Row_b_ok G (fr := fr) x.1 hp
      (fun q h e he => ⟨by rw [show (s_spec_l2Row.val x).1 = q from congrArg ocR h]; exact he, trivial⟩)

noncomputable def sp_spec_RowsOk : SP := [(109, s_spec_l2Row)]
noncomputable def spec_RowsOk_c2_r (x3 : List Row) (s7 : Int) : Oc (Int) Bool Unit Empty Empty :=
  match (cmp .lss s7 (lenI .row x3)) with
  | true =>
    match (!(v_spec_l2Row (rd .row x3 s7))) with
    | true =>
      .r false
    | false =>
      .n (ar .add .i64 s7 1)
  | false =>
    .x ()
def spec_RowsOk_c2_r_ob (x3 : List Row) (s7 : Int) : Prop :=
  ((True)) ∧
  ((cmp .lss s7 (lenI .row x3)) = true →
    ((inb s7 (lenI .row x3)) ∧ ((p_spec_l2Row (rd .row x3 s7))) ∧ (True)) ∧
    ((!(v_spec_l2Row (rd .row x3 s7))) = true →
      ((True)) ∧
      True) ∧ ((!(v_spec_l2Row (rd .row x3 s7))) = false →
      ((True)) ∧
      True)) ∧ ((cmp .lss s7 (lenI .row x3)) = false →
    True)
set_option maxRecDepth 100000 in
theorem spec_RowsOk_c2_r_ok (G : Good Try.prog tt sp_spec_RowsOk) {fr : Fr} (x3 : List Row) (s7 : Int) (hob : spec_RowsOk_c2_r_ob x3 s7) {n r : Env → Prop} {x : Nat → Env → Prop}
    (hn : ∀ (q11 : Int), (spec_RowsOk_c2_r x3 s7) = .n q11 → ∀ e, Weak e [(0, .v .sh (.lst .row x3)), (3, .v .fr (.int .i64 q11))] → n e)
    (hr : ∀ q, (spec_RowsOk_c2_r x3 s7) = .r q → ∀ e, retAv tt e [.tmp 2] (.one .fr .bool) = some (RT.av (.one .fr .bool) q) → r e)
    (hx : (spec_RowsOk_c2_r x3 s7) = .x () → ∀ e, Weak e [] → x 0 e) :
    Ht Try.prog ⟨(Try.f56).ntmps, none, []⟩ fr (nav (bodyOf (Try.f56)) [1, 1, 0, 1, 0, 0]) [(0, .v .sh (.lst .row x3)), (3, .v .fr (.int .i64 s7))] n r x := by
  unfold spec_RowsOk_c2_r_ob at hob
  refine Ht.seq (c1 := (nav (bodyOf (Try.f56)) [1, 1, 0, 1, 0, 0, 0])) (c2 := (nav (bodyOf (Try.f56)) [1, 1, 0, 1, 0, 0, 1])) (by kernel_rfl) ?_
  refine Ht.seq (c1 := (nav (bodyOf (Try.f56)) [1, 1, 0, 1, 0, 0, 0, 0])) (c2 := (nav (bodyOf (Try.f56)) [1, 1, 0, 1, 0, 0, 0, 1])) (by kernel_rfl) ?_
  refine Ht.reg G (keep := [0, 3, 10]) (e' := [(0, .v .sh (.lst .row x3)), (3, .v .fr (.int .i64 s7)), (10, .v .fr (.bool (cmp .lss s7 (lenI .row x3))))]) (obs := []) (by kernel_rfl) hob.1 ?_
  refine Ht.cond (o := .tmp 10) (c1 := (nav (bodyOf (Try.f56)) [1, 1, 0, 1, 0, 0, 0, 1, 0])) (c2 := (nav (bodyOf (Try.f56)) [1, 1, 0, 1, 0, 0, 0, 1, 1])) (b := (cmp .lss s7 (lenI .row x3))) (by kernel_rfl) (by kernel_rfl) (fun h8 => ?_) (fun h8 => ?_)
  · have hb := hob.2.1 h8
    refine Ht.skip (by kernel_rfl) ?_
    refine Ht.seq (c1 := (nav (bodyOf (Try.f56)) [1, 1, 0, 1, 0, 0, 1, 0])) (c2 := (nav (bodyOf (Try.f56)) [1, 1, 0, 1, 0, 0, 1, 1])) (by kernel_rfl) ?_
    refine Ht.block (id := 1) (c1 := (nav (bodyOf (Try.f56)) [1, 1, 0, 1, 0, 0, 1, 0, 0])) (by kernel_rfl) ?_
    refine Ht.seq (c1 := (nav (bodyOf (Try.f56)) [1, 1, 0, 1, 0, 0, 1, 0, 0, 0])) (c2 := (nav (bodyOf (Try.f56)) [1, 1, 0, 1, 0, 0, 1, 0, 0, 1])) (by kernel_rfl) ?_
    refine Ht.reg G (keep := [0, 3, 18]) (e' := [(0, .v .sh (.lst .row x3)), (3, .v .fr (.int .i64 s7)), (18, .v .fr (.bool (!(v_spec_l2Row (rd .row x3 s7)))))]) (obs := [inb s7 (lenI .row x3), (p_spec_l2Row (rd .row x3 s7))]) (by kernel_rfl) hb.1 ?_
    refine Ht.cond (o := .tmp 18) (c1 := (nav (bodyOf (Try.f56)) [1, 1, 0, 1, 0, 0, 1, 0, 0, 1, 0])) (c2 := (nav (bodyOf (Try.f56)) [1, 1, 0, 1, 0, 0, 1, 0, 0, 1, 1])) (b := (!(v_spec_l2Row (rd .row x3 s7)))) (by kernel_rfl) (by kernel_rfl) (fun h9 => ?_) (fun h9 => ?_)
    · have hb := hb.2.1 h9
      refine Ht.seq (c1 := (nav (bodyOf (Try.f56)) [1, 1, 0, 1, 0, 0, 1, 0, 0, 1, 0, 0])) (c2 := (nav (bodyOf (Try.f56)) [1, 1, 0, 1, 0, 0, 1, 0, 0, 1, 0, 1])) (by kernel_rfl) ?_
      refine Ht.reg G (keep := [2]) (e' := [(2, .v .fr (.bool false))]) (obs := []) (by kernel_rfl) hb.1 ?_
      refine Ht.ret (by kernel_rfl) ?_
      exact hr false (by simp only [spec_RowsOk_c2_r, h8, h9]) _ (by kernel_rfl)
    · have hb := hb.2.2 h9
      refine Ht.skip (by kernel_rfl) ?_
      refine Ht.reg G (keep := [0, 3]) (e' := [(0, .v .sh (.lst .row x3)), (3, .v .fr (.int .i64 (ar .add .i64 s7 1)))]) (obs := []) (by kernel_rfl) hb.1 ?_
      exact hn (ar .add .i64 s7 1) (by simp only [spec_RowsOk_c2_r, h8, h9]) _ (Weak.cast (pat := [(0, .sh), (3, .fr)]) (by kernel_rfl) (by kernel_rfl))
  · have hb := hob.2.2 h8
    refine Ht.exit (i := 0) (by kernel_rfl) ?_
    exact hx (by simp only [spec_RowsOk_c2_r, h8]) _ (Weak.cast (pat := []) (by kernel_rfl) (by kernel_rfl))

noncomputable def spec_RowsOk_c2 (x3 : List Row) : Oc Empty Bool Unit Empty Empty := lpV (fun s => ocLp ((fun (s : Int) => spec_RowsOk_c2_r x3 s) s)) 0
def spec_RowsOk_c2_ob (x3 : List Row) : Prop := LpT (fun s => ocLp ((fun (s : Int) => spec_RowsOk_c2_r x3 s) s)) (fun s => spec_RowsOk_c2_r_ob x3 s) 0
set_option maxRecDepth 100000 in
theorem spec_RowsOk_c2_ok (G : Good Try.prog tt sp_spec_RowsOk) {fr : Fr} (x3 : List Row) (hob : spec_RowsOk_c2_ob x3) {n r : Env → Prop} {x : Nat → Env → Prop}
    (hr : ∀ q, (spec_RowsOk_c2 x3) = .r q → ∀ e, retAv tt e [.tmp 2] (.one .fr .bool) = some (RT.av (.one .fr .bool) q) → r e)
    (hx : (spec_RowsOk_c2 x3) = .x () → ∀ e, Weak e [] → x 0 e) :
    Ht Try.prog ⟨(Try.f56).ntmps, none, []⟩ fr (nav (bodyOf (Try.f56)) [1, 1, 0, 1, 0]) [(0, .v .sh (.lst .row x3)), (3, .v .fr (.int .i64 0))] n r x := by
  unfold spec_RowsOk_c2_ob at hob
  refine Ht.weak (e' := (fun (s : Int) => [(0, .v .sh (.lst .row x3)), (3, .v .fr (.int .i64 s))]) 0) (Weak.cast (pat := [(0, .sh), (3, .fr)]) (by kernel_rfl) (by kernel_rfl)) ?_
  refine Ht.loopOc (c1 := (nav (bodyOf (Try.f56)) [1, 1, 0, 1, 0, 0])) (by kernel_rfl) (fun (s : Int) => [(0, .v .sh (.lst .row x3)), (3, .v .fr (.int .i64 s))]) (fun (s : Int) => spec_RowsOk_c2_r x3 s) hob (RP := fun q e => retAv tt e [.tmp 2] (.one .fr .bool) = some (RT.av (.one .fr .bool) q)) (XP := (fun i _ e => i = 0 ∧ Weak e [])) (YP := (fun _ _ _ => False)) (ZP := (fun _ _ _ => False)) (fun s hs => ?_) ?_ ?_ ?_ ?_
  · refine spec_RowsOk_c2_r_ok G x3 s hs (fun q11 h e hw => ⟨q11, h, hw⟩) (fun q h e he => ⟨q, h, he⟩) (fun h e hw => .inl ⟨(), h, rfl, hw⟩)
  · exact fun q e h he => hr q h e he
  · rintro i q e h ⟨rfl, hw⟩
    exact hx h e hw
  · exact fun _ _ _ _ h => h.elim
  · exact fun _ _ _ _ h => h.elim


noncomputable def spec_RowsOk_c1 (x2 : List Row) : Oc Unit Bool Empty Empty Empty :=
  match (spec_RowsOk_c2 x2) with
  | .r q12 =>
    .r q12
  | .x () =>
    .n ()
  | .n q => q.elim
  | .y q => q.elim
  | .z q => q.elim
def spec_RowsOk_c1_ob (x2 : List Row) : Prop :=
  ((True)) ∧
  (spec_RowsOk_c2_ob x2) ∧
  ((spec_RowsOk_c2 x2) = .x () →
    True)
set_option maxRecDepth 100000 in
theorem spec_RowsOk_c1_ok (G : Good Try.prog tt sp_spec_RowsOk) {fr : Fr} (x2 : List Row) (hob : spec_RowsOk_c1_ob x2) {n r : Env → Prop} {x : Nat → Env → Prop}
    (hn : (spec_RowsOk_c1 x2) = .n () → ∀ e, Weak e [] → n e)
    (hr : ∀ q, (spec_RowsOk_c1 x2) = .r q → ∀ e, retAv tt e [.tmp 2] (.one .fr .bool) = some (RT.av (.one .fr .bool) q) → r e) :
    Ht Try.prog ⟨(Try.f56).ntmps, none, []⟩ fr (nav (bodyOf (Try.f56)) [1, 1, 0]) [(0, .v .sh (.lst .row x2))] n r x := by
  unfold spec_RowsOk_c1_ob at hob
  refine Ht.seq (c1 := (nav (bodyOf (Try.f56)) [1, 1, 0, 0])) (c2 := (nav (bodyOf (Try.f56)) [1, 1, 0, 1])) (by kernel_rfl) ?_
  refine Ht.reg G (keep := [0, 3]) (e' := [(0, .v .sh (.lst .row x2)), (3, .v .fr (.int .i64 0))]) (obs := []) (by kernel_rfl) hob.1 ?_
  refine Ht.block (id := 0) (c1 := (nav (bodyOf (Try.f56)) [1, 1, 0, 1, 0])) (by kernel_rfl) ?_
  refine Ht.weak (e' := [(0, .v .sh (.lst .row x2)), (3, .v .fr (.int .i64 0))]) (Weak.cast (pat := [(0, .same), (3, .same)]) (by kernel_rfl) (by kernel_rfl)) ?_
  refine spec_RowsOk_c2_ok G x2 hob.2.1 (fun q h13 e he => hr q (by simp only [spec_RowsOk_c1, h13]) e he) (fun h14 e hw => ?_)
  · have hb := hob.2.2 h14
    exact hn (by simp only [spec_RowsOk_c1, h14]) e (hw.trans (Weak.cast (pat := []) (by kernel_rfl) (by kernel_rfl)))

noncomputable def spec_RowsOk_b (a0 : List Row) : Oc Empty Bool Empty Empty Empty :=
  match (cmp .gtr (lenI .row a0) 400) with
  | true =>
    .r false
  | false =>
    match (spec_RowsOk_c1 a0) with
    | .n () =>
      .r true
    | .r q16 =>
      .r q16
    | .x q => q.elim
    | .y q => q.elim
    | .z q => q.elim
def spec_RowsOk_b_ob (a0 : List Row) : Prop :=
  ((True)) ∧
  ((True)) ∧
  ((cmp .gtr (lenI .row a0) 400) = true →
    ((True)) ∧
    True) ∧ ((cmp .gtr (lenI .row a0) 400) = false →
    (spec_RowsOk_c1_ob a0) ∧
    ((spec_RowsOk_c1 a0) = .n () →
      ((True)) ∧
      True))
set_option maxRecDepth 100000 in
theorem spec_RowsOk_b_ok (G : Good Try.prog tt sp_spec_RowsOk) {fr : Fr} (a0 : List Row) (hob : spec_RowsOk_b_ob a0) {n r : Env → Prop} {x : Nat → Env → Prop}
    (hr : ∀ q, (spec_RowsOk_b a0) = .r q → ∀ e, retAv tt e [.tmp 2] (.one .fr .bool) = some (RT.av (.one .fr .bool) q) → r e) :
    Ht Try.prog ⟨(Try.f56).ntmps, none, []⟩ fr (nav (bodyOf (Try.f56)) []) [(0, .v .sh (.lst .row a0))] n r x := by
  unfold spec_RowsOk_b_ob at hob
  refine Ht.seq (c1 := (nav (bodyOf (Try.f56)) [0])) (c2 := (nav (bodyOf (Try.f56)) [1])) (by kernel_rfl) ?_
  refine Ht.reg G (keep := [0]) (e' := [(0, .v .sh (.lst .row a0))]) (obs := []) (by kernel_rfl) hob.1 ?_
  refine Ht.seq (c1 := (nav (bodyOf (Try.f56)) [1, 0])) (c2 := (nav (bodyOf (Try.f56)) [1, 1])) (by kernel_rfl) ?_
  refine Ht.seq (c1 := (nav (bodyOf (Try.f56)) [1, 0, 0])) (c2 := (nav (bodyOf (Try.f56)) [1, 0, 1])) (by kernel_rfl) ?_
  refine Ht.reg G (keep := [0, 6]) (e' := [(0, .v .sh (.lst .row a0)), (6, .v .fr (.bool (cmp .gtr (lenI .row a0) 400)))]) (obs := []) (by kernel_rfl) hob.2.1 ?_
  refine Ht.cond (o := .tmp 6) (c1 := (nav (bodyOf (Try.f56)) [1, 0, 1, 0])) (c2 := (nav (bodyOf (Try.f56)) [1, 0, 1, 1])) (b := (cmp .gtr (lenI .row a0) 400)) (by kernel_rfl) (by kernel_rfl) (fun h1 => ?_) (fun h1 => ?_)
  · have hb := hob.2.2.1 h1
    refine Ht.seq (c1 := (nav (bodyOf (Try.f56)) [1, 0, 1, 0, 0])) (c2 := (nav (bodyOf (Try.f56)) [1, 0, 1, 0, 1])) (by kernel_rfl) ?_
    refine Ht.reg G (keep := [2]) (e' := [(2, .v .fr (.bool false))]) (obs := []) (by kernel_rfl) hb.1 ?_
    refine Ht.ret (by kernel_rfl) ?_
    exact hr false (by simp only [spec_RowsOk_b, h1]) _ (by kernel_rfl)
  · have hb := hob.2.2.2 h1
    refine Ht.skip (by kernel_rfl) ?_
    refine Ht.seq (c1 := (nav (bodyOf (Try.f56)) [1, 1, 0])) (c2 := (nav (bodyOf (Try.f56)) [1, 1, 1])) (by kernel_rfl) ?_
    refine Ht.weak (e' := [(0, .v .sh (.lst .row a0))]) (Weak.cast (pat := [(0, .same)]) (by kernel_rfl) (by kernel_rfl)) ?_
    refine spec_RowsOk_c1_ok G a0 hb.1 (fun h15 e hw => ?_) (fun q h17 e he => hr q (by simp only [spec_RowsOk_b, h1, h17]) e he)
    · have hb := hb.2 h15
      refine Ht.weak hw ?_
      refine Ht.seq (c1 := (nav (bodyOf (Try.f56)) [1, 1, 1, 0])) (c2 := (nav (bodyOf (Try.f56)) [1, 1, 1, 1])) (by kernel_rfl) ?_
      refine Ht.reg G (keep := [2]) (e' := [(2, .v .fr (.bool true))]) (obs := []) (by kernel_rfl) hb.1 ?_
      refine Ht.ret (by kernel_rfl) ?_
      exact hr true (by simp only [spec_RowsOk_b, h1, h15]) _ (by kernel_rfl)

noncomputable def v_spec_RowsOk (a0 : List Row) : Bool := ocR (spec_RowsOk_b a0)
def p_spec_RowsOk (a0 : List Row) : Prop := spec_RowsOk_b_ob a0
noncomputable def s_spec_RowsOk : Spec := ⟨[(.lst .row)], .one .fr .bool, false, fun x => (v_spec_RowsOk x.1, 0), fun x => p_spec_RowsOk x.1⟩
theorem con_spec_RowsOk (G : Good Try.prog tt sp_spec_RowsOk) : Con Try.prog 56 s_spec_RowsOk :=
  con_of G.htt (fn := Try.f56) (c := bodyOf Try.f56) (by kernel_rfl) (by kernel_rfl) (by kernel_rfl) (rs := [.tmp 2]) (by kernel_rfl) (by kernel_rfl) (fun _ => rfl) fun x hp fr _ _ _ =>
    spec_RowsOk_b_ok G (fr := fr) x.1 hp
      (fun q h e he => ⟨by rw [show (s_spec_RowsOk.val x).1 = q from congrArg ocR h]; exact he, trivial⟩)

noncomputable def sp_spec_TimeLess : SP := [(132, s_spec_TimeOk)]
noncomputable def spec_TimeLess_b (a0 : Time) (a1 : Time) : Oc Empty Bool Empty Empty Empty :=
  .r (cond (cond (cond (v_spec_TimeOk a0) (v_spec_TimeOk a1) false) (cmp .leq a0.A a1.A) false) (cmp .leq a0.B a1.B) false)
def spec_TimeLess_b_ob (a0 : Time) (a1 : Time) : Prop :=
  ((True)) ∧
  (((p_spec_TimeOk a0)) ∧ ((((v_spec_TimeOk a0) && true) = true → (p_spec_TimeOk a1))) ∧ (True)) ∧
  True
set_option maxRecDepth 100000 in
theorem spec_TimeLess_b_ok (G : Good Try.prog tt sp_spec_TimeLess) {fr : Fr} (a0 : Time) (a1 : Time) (hob : spec_TimeLess_b_ob a0 a1) {n r : Env → Prop} {x : Nat → Env → Prop}
    (hr : ∀ q, (spec_TimeLess_b a0 a1) = .r q → ∀ e, retAv tt e [.tmp 4] (.one .fr .bool) = some (RT.av (.one .fr .bool) q) → r e) :
    Ht Try.prog ⟨(Try.f104).ntmps, none, []⟩ fr (nav (bodyOf (Try.f104)) []) [(0, .agg true [.int .i64 a0.A, .int .i64 a0.B]), (1, .agg true [.int .i64 a1.A, .int .i64 a1.B])] n r x := by
  unfold spec_TimeLess_b_ob at hob
  refine Ht.seq (c1 := (nav (bodyOf (Try.f104)) [0])) (c2 := (nav (bodyOf (Try.f104)) [1])) (by kernel_rfl) ?_
  refine Ht.reg G (keep := [2, 3]) (e' := [(2, .box [(.fr, .int .i64 a0.A), (.fr, .int .i64 a0.B)]), (3, .box [(.fr, .int .i64 a1.A), (.fr, .int .i64 a1.B)])]) (obs := []) (by kernel_rfl) hob.1 ?_
  refine Ht.seq (c1 := (nav (bodyOf (Try.f104)) [1, 0])) (c2 := (nav (bodyOf (Try.f104)) [1, 1])) (by kernel_rfl) ?_
  refine Ht.reg G (keep := [4]) (e' := [(4, .v .fr (.bool (cond (cond (cond (v_spec_TimeOk a0) (v_spec_TimeOk a1) false) (cmp .leq a0.A a1.A) false) (cmp .leq a0.B a1.B) false)))]) (obs := [(p_spec_TimeOk a0), (((v_spec_TimeOk a0) && true) = true → (p_spec_TimeOk a1))]) (by kernel_rfl) hob.2.1 ?_
  refine Ht.ret (by kernel_rfl) ?_
  exact hr (cond (cond (cond (v_spec_TimeOk a0) (v_spec_TimeOk a1) false) (cmp .leq a0.A a1.A) false) (cmp .leq a0.B a1.B) false) (by simp only [spec_TimeLess_b]) _ (by kernel_rfl)

noncomputable def v_spec_TimeLess (a0 : Time) (a1 : Time) : Bool := ocR (spec_TimeLess_b a0 a1)
def p_spec_TimeLess (a0 : Time) (a1 : Time) : Prop := spec_TimeLess_b_ob a0 a1
noncomputable def s_spec_TimeLess : Spec := ⟨[(.st .time), (.st .time)], .one .fr .bool, false, fun x => (v_spec_TimeLess x.1 x.2.1, 0), fun x => p_spec_TimeLess x.1 x.2.1⟩
theorem con_spec_TimeLess (G : Good Try.prog tt sp_spec_TimeLess) : Con Try.prog 104 s_spec_TimeLess :=
  con_of G.htt (fn := Try.f104) (c := bodyOf Try.f104) (by kernel_rfl) (by kernel_rfl) (by kernel_rfl) (rs := [.tmp 4]) (by kernel_rfl) (by kernel_rfl) (fun _ => rfl) fun x hp fr _ _ _ =>
    spec_TimeLess_b_ok G (fr := fr) x.1 x.2.1 hp
      (fun q h e he => ⟨by rw [show (s_spec_TimeLess.val x).1 = q from congrArg ocR h]; exact he, trivial⟩)

noncomputable def sp_spec_l2Comp : SP := []
noncomputable def spec_l2Comp_c2_r (x3 : List Int) (x4 : List Int) (s9 : Int) : Oc (Int) Int Unit Empty Empty :=
  match (cmp .lss s9 (lenI .int x3)) with
  | true =>
    match (cmp .lss (rd .int x3 s9) (rd .int x4 s9)) with
    | true =>
      .r (-1)
    | false =>
      match (cmp .gtr (rd .int x3 s9) (rd .int x4 s9)) with
      | true =>
        .r 1
      | false =>
        .n (ar .add .i64 s9 1)
  | false =>
    .x ()
def spec_l2Comp_c2_r_ob (x3 : List Int) (x4 : List Int) (s9 : Int) : Prop :=
  ((True)) ∧
  ((cmp .lss s9 (lenI .int x3)) = true →
    ((inb s9 (lenI .int x3)) ∧ (inb s9 (lenI .int x4)) ∧ (True)) ∧
    ((cmp .lss (rd .int x3 s9) (rd .int x4 s9)) = true →
      ((True)) ∧
      True) ∧ ((cmp .lss (rd .int x3 s9) (rd .int x4 s9)) = false →
      ((inb s9 (lenI .int x3)) ∧ (inb s9 (lenI .int x4)) ∧ (True)) ∧
      ((cmp .gtr (rd .int x3 s9) (rd .int x4 s9)) = true →
        ((True)) ∧
        True) ∧ ((cmp .gtr (rd .int x3 s9) (rd .int x4 s9)) = false →
        ((True)) ∧
        True))) ∧ ((cmp .lss s9 (lenI .int x3)) = false →
    True)
set_option maxRecDepth 100000 in
theorem spec_l2Comp_c2_r_ok (G : Good Try.prog tt sp_spec_l2Comp) {fr : Fr} (x3 : List Int) (x4 : List Int) (s9 : Int) (hob : spec_l2Comp_c2_r_ob x3 x4 s9) {n r : Env → Prop} {x : Nat → Env → Prop}
    (hn : ∀ (q14 : Int), (spec_l2Comp_c2_r x3 x4 s9) = .n q14 → ∀ e, Weak e [(5, .v (.acc true) (.lst .int x3)), (6, .v (.acc true) (.lst .int x4)), (7, .v .fr (.int .i64 q14))] → n e)
    (hr : ∀ q, (spec_l2Comp_c2_r x3 x4 s9) = .r q → ∀ e, retAv tt e [.tmp 4] (.one .fr (.int .i64)) = some (RT.av (.one .fr (.int .i64)) q) → r e)
    (hx : (spec_l2Comp_c2_r x3 x4 s9) = .x () → ∀ e, Weak e [] → x 0 e) :
    Ht Try.prog ⟨(Try.f131).ntmps, none, []⟩ fr (nav (bodyOf (Try.f131)) [1, 1, 1, 0, 1, 0, 0]) [(5, .v (.acc true) (.lst .int x3)), (6, .v (.acc true) (.lst .int x4)), (7, .v .fr (.int .i64 s9))] n r x := by
  unfold spec_l2Comp_c2_r_ob at hob
  refine Ht.seq (c1 := (nav (bodyOf (Try.f131)) [1, 1, 1, 0, 1, 0, 0, 0])) (c2 := (nav (bodyOf (Try.f131)) [1, 1, 1, 0, 1, 0, 0, 1])) (by kernel_rfl) ?_
  refine Ht.seq (c1 := (nav (bodyOf (Try.f131)) [1, 1, 1, 0, 1, 0, 0, 0, 0])) (c2 := (nav (bodyOf (Try.f131)) [1, 1, 1, 0, 1, 0, 0, 0, 1])) (by kernel_rfl) ?_
  refine Ht.reg G (keep := [5, 6, 7, 33]) (e' := [(5, .v (.acc true) (.lst .int x3)), (6, .v (.acc true) (.lst .int x4)), (7, .v .fr (.int .i64 s9)), (33, .v .fr (.bool (cmp .lss s9 (lenI .int x3))))]) (obs := []) (by kernel_rfl) hob.1 ?_
  refine Ht.cond (o := .tmp 33) (c1 := (nav (bodyOf (Try.f131)) [1, 1, 1, 0, 1, 0, 0, 0, 1, 0])) (c2 := (nav (bodyOf (Try.f131)) [1, 1, 1, 0, 1, 0, 0, 0, 1, 1])) (b := (cmp .lss s9 (lenI .int x3))) (by kernel_rfl) (by kernel_rfl) (fun h10 => ?_) (fun h10 => ?_)
  · have hb := hob.2.1 h10
    refine Ht.skip (by kernel_rfl) ?_
    refine Ht.seq (c1 := (nav (bodyOf (Try.f131)) [1, 1, 1, 0, 1, 0, 0, 1, 0])) (c2 := (nav (bodyOf (Try.f131)) [1, 1, 1, 0, 1, 0, 0, 1, 1])) (by kernel_rfl) ?_
    refine Ht.block (id := 1) (c1 := (nav (bodyOf (Try.f131)) [1, 1, 1, 0, 1, 0, 0, 1, 0, 0])) (by kernel_rfl) ?_
    refine Ht.seq (c1 := (nav (bodyOf (Try.f131)) [1, 1, 1, 0, 1, 0, 0, 1, 0, 0, 0])) (c2 := (nav (bodyOf (Try.f131)) [1, 1, 1, 0, 1, 0, 0, 1, 0, 0, 1])) (by kernel_rfl) ?_
    refine Ht.seq (c1 := (nav (bodyOf (Try.f131)) [1, 1, 1, 0, 1, 0, 0, 1, 0, 0, 0, 0])) (c2 := (nav (bodyOf (Try.f131)) [1, 1, 1, 0, 1, 0, 0, 1, 0, 0, 0, 1])) (by kernel_rfl) ?_
    refine Ht.reg G (keep := [5, 6, 7, 44]) (e' := [(5, .v (.acc true) (.lst .int x3)), (6, .v (.acc true) (.lst .int x4)), (7, .v .fr (.int .i64 s9)), (44, .v .fr (.bool (cmp .lss (rd .int x3 s9) (rd .int x4 s9))))]) (obs := [inb s9 (lenI .int x3), inb s9 (lenI .int x4)]) (by kernel_rfl) hb.1 ?_
    refine Ht.cond (o := .tmp 44) (c1 := (nav (bodyOf (Try.f131)) [1, 1, 1, 0, 1, 0, 0, 1, 0, 0, 0, 1, 0])) (c2 := (nav (bodyOf (Try.f131)) [1, 1, 1, 0, 1, 0, 0, 1, 0, 0, 0, 1, 1])) (b := (cmp .lss (rd .int x3 s9) (rd .int x4 s9))) (by kernel_rfl) (by kernel_rfl) (fun h11 => ?_) (fun h11 => ?_)
    · have hb := hb.2.1 h11
      refine Ht.seq (c1 := (nav (bodyOf (Try.f131)) [1, 1, 1, 0, 1, 0, 0, 1, 0, 0, 0, 1, 0, 0])) (c2 := (nav (bodyOf (Try.f131)) [1, 1, 1, 0, 1, 0, 0, 1, 0, 0, 0, 1, 0, 1])) (by kernel_rfl) ?_
      refine Ht.reg G (keep := [4]) (e' := [(4, .v .fr (.int .i64 (-1)))]) (obs := []) (by kernel_rfl) hb.1 ?_
      refine Ht.ret (by kernel_rfl) ?_
      exact hr (-1) (by simp only [spec_l2Comp_c2_r, h10, h11]) _ (by kernel_rfl)
    · have hb := hb.2.2 h11
      refine Ht.skip (by kernel_rfl) ?_
      refine Ht.seq (c1 := (nav (bodyOf (Try.f131)) [1, 1, 1, 0, 1, 0, 0, 1, 0, 0, 1, 0])) (c2 := (nav (bodyOf (Try.f131)) [1, 1, 1, 0, 1, 0, 0, 1, 0, 0, 1, 1])) (by kernel_rfl) ?_
      refine Ht.reg G (keep := [5, 6, 7, 53]) (e' := [(5, .v (.acc true) (.lst .int x3)), (6, .v (.acc true) (.lst .int x4)), (7, .v .fr (.int .i64 s9)), (53, .v .fr (.bool (cmp .gtr (rd .int x3 s9) (rd .int x4 s9))))]) (obs := [inb s9 (lenI .int x3), inb s9 (lenI .int x4)]) (by kernel_rfl) hb.1 ?_
      refine Ht.cond (o := .tmp 53) (c1 := (nav (bodyOf (Try.f131)) [1, 1, 1, 0, 1, 0, 0, 1, 0, 0, 1, 1, 0])) (c2 := (nav (bodyOf (Try.f131)) [1, 1, 1, 0, 1, 0, 0, 1, 0, 0, 1, 1, 1])) (b := (cmp .gtr (rd .int x3 s9) (rd .int x4 s9))) (by kernel_rfl) (by kernel_rfl) (fun h12 => ?_) (fun h12 => ?_)
      · have hb := hb.2.1 h12
        refine Ht.seq (c1 := (nav (bodyOf (Try.f131)) [1, 1, 1, 0, 1, 0, 0, 1, 0, 0, 1, 1, 0, 0])) (c2 := (nav (bodyOf (Try.f131)) [1, 1, 1, 0, 1, 0, 0, 1, 0, 0, 1, 1, 0, 1])) (by kernel_rfl) ?_
        refine Ht.reg G (keep := [4]) (e' := [(4, .v .fr (.int .i64 1))]) (obs := []) (by kernel_rfl) hb.1 ?_
        refine Ht.ret (by kernel_rfl) ?_
        exact hr 1 (by simp only [spec_l2Comp_c2_r, h10, h11, h12]) _ (by kernel_rfl)
      · have hb := hb.2.2 h12
        refine Ht.skip (by kernel_rfl) ?_
        refine Ht.reg G (keep := [5, 6, 7]) (e' := [(5, .v (.acc true) (.lst .int x3)), (6, .v (.acc true) (.lst .int x4)), (7, .v .fr (.int .i64 (ar .add .i64 s9 1)))]) (obs := []) (by kernel_rfl) hb.1 ?_
        exact hn (ar .add .i64 s9 1) (by simp only [spec_l2Comp_c2_r, h10, h11, h12]) _ (Weak.cast (pat := [(5, (.acc true)), (6, (.acc true)), (7, .fr)]) (by kernel_rfl) (by kernel_rfl))
  · have hb := hob.2.2 h10
    refine Ht.exit (i := 0) (by kernel_rfl) ?_
    exact hx (by simp only [spec_l2Comp_c2_r, h10]) _ (Weak.cast (pat := []) (by kernel_rfl) (by kernel_rfl))

noncomputable def spec_l2Comp_c2 (x3 : List Int) (x4 : List Int) : Oc Empty Int Unit Empty Empty := lpV (fun s => ocLp ((fun (s : Int) => spec_l2Comp_c2_r x3 x4 s) s)) 0
def spec_l2Comp_c2_ob (x3 : List Int) (x4 : List Int) : Prop := LpT (fun s => ocLp ((fun (s : Int) => spec_l2Comp_c2_r x3 x4 s) s)) (fun s => spec_l2Comp_c2_r_ob x3 x4 s) 0
set_option maxRecDepth 100000 in
theorem spec_l2Comp_c2_ok (G : Good Try.prog tt sp_spec_l2Comp) {fr : Fr} (x3 : List Int) (x4 : List Int) (hob : spec_l2Comp_c2_ob x3 x4) {n r : Env → Prop} {x : Nat → Env → Prop}
    (hr : ∀ q, (spec_l2Comp_c2 x3 x4) = .r q → ∀ e, retAv tt e [.tmp 4] (.one .fr (.int .i64)) = some (RT.av (.one .fr (.int .i64)) q) → r e)
    (hx : (spec_l2Comp_c2 x3 x4) = .x () → ∀ e, Weak e [] → x 0 e) :
    Ht Try.prog ⟨(Try.f131).ntmps, none, []⟩ fr (nav (bodyOf (Try.f131)) [1, 1, 1, 0, 1, 0]) [(5, .v (.acc true) (.lst .int x3)), (6, .v (.acc true) (.lst .int x4)), (7, .v .fr (.int .i64 0))] n r x := by
  unfold spec_l2Comp_c2_ob at hob
  refine Ht.weak (e' := (fun (s : Int) => [(5, .v (.acc true) (.lst .int x3)), (6, .v (.acc true) (.lst .int x4)), (7, .v .fr (.int .i64 s))]) 0) (Weak.cast (pat := [(5, (.acc true)), (6, (.acc true)), (7, .fr)]) (by kernel_rfl) (by kernel_rfl)) ?_
  refine Ht.loopOc (c1 := (nav (bodyOf (Try.f131)) [1, 1, 1, 0, 1, 0, 0])) (by kernel_rfl) (fun (s : Int) => [(5, .v (.acc true) (.lst .int x3)), (6, .v (.acc true) (.lst .int x4)), (7, .v .fr (.int .i64 s))]) (fun (s : Int) => spec_l2Comp_c2_r x3 x4 s) hob (RP := fun q e => retAv tt e [.tmp 4] (.one .fr (.int .i64)) = some (RT.av (.one .fr (.int .i64)) q)) (XP := (fun i _ e => i = 0 ∧ Weak e [])) (YP := (fun _ _ _ => False)) (ZP := (fun _ _ _ => False)) (fun s hs => ?_) ?_ ?_ ?_ ?_
  · refine spec_l2Comp_c2_r_ok G x3 x4 s hs (fun q14 h e hw => ⟨q14, h, hw⟩) (fun q h e he => ⟨q, h, he⟩) (fun h e hw => .inl ⟨(), h, rfl, hw⟩)
  · exact fun q e h he => hr q h e he
  · rintro i q e h ⟨rfl, hw⟩
    exact hx h e hw
  · exact fun _ _ _ _ h => h.elim
  · exact fun _ _ _ _ h => h.elim


noncomputable def spec_l2Comp_c1 (x1 : List Int) (x2 : List Int) : Oc Unit Int Empty Empty Empty :=
  match (spec_l2Comp_c2 x1 x2) with
  | .r q15 =>
    .r q15
  | .x () =>
    .n ()
  | .n q => q.elim
  | .y q => q.elim
  | .z q => q.elim
def spec_l2Comp_c1_ob (x1 : List Int) (x2 : List Int) : Prop :=
  ((True)) ∧
  (spec_l2Comp_c2_ob x1 x2) ∧
  ((spec_l2Comp_c2 x1 x2) = .x () →
    True)
set_option maxRecDepth 100000 in
theorem spec_l2Comp_c1_ok (G : Good Try.prog tt sp_spec_l2Comp) {fr : Fr} (x1 : List Int) (x2 : List Int) (hob : spec_l2Comp_c1_ob x1 x2) {n r : Env → Prop} {x : Nat → Env → Prop}
    (hn : (spec_l2Comp_c1 x1 x2) = .n () → ∀ e, Weak e [] → n e)
    (hr : ∀ q, (spec_l2Comp_c1 x1 x2) = .r q → ∀ e, retAv tt e [.tmp 4] (.one .fr (.int .i64)) = some (RT.av (.one .fr (.int .i64)) q) → r e) :
    Ht Try.prog ⟨(Try.f131).ntmps, none, []⟩ fr (nav (bodyOf (Try.f131)) [1, 1, 1, 0]) [(5, .v (.acc true) (.lst .int x1)), (6, .v (.acc true) (.lst .int x2))] n r x := by
  unfold spec_l2Comp_c1_ob at hob
  refine Ht.seq (c1 := (nav (bodyOf (Try.f131)) [1, 1, 1, 0, 0])) (c2 := (nav (bodyOf (Try.f131)) [1, 1, 1, 0, 1])) (by kernel_rfl) ?_
  refine Ht.reg G (keep := [5, 6, 7]) (e' := [(5, .v (.acc true) (.lst .int x1)), (6, .v (.acc true) (.lst .int x2)), (7, .v .fr (.int .i64 0))]) (obs := []) (by kernel_rfl) hob.1 ?_
  refine Ht.block (id := 0) (c1 := (nav (bodyOf (Try.f131)) [1, 1, 1, 0, 1, 0])) (by kernel_rfl) ?_
  refine Ht.weak (e' := [(5, .v (.acc true) (.lst .int x1)), (6, .v (.acc true) (.lst .int x2)), (7, .v .fr (.int .i64 0))]) (Weak.cast (pat := [(5, .same), (6, .same), (7, .same)]) (by kernel_rfl) (by kernel_rfl)) ?_
  refine spec_l2Comp_c2_ok G x1 x2 hob.2.1 (fun q h16 e he => hr q (by simp only [spec_l2Comp_c1, h16]) e he) (fun h17 e hw => ?_)
  · have hb := hob.2.2 h17
    exact hn (by simp only [spec_l2Comp_c1, h17]) e (hw.trans (Weak.cast (pat := []) (by kernel_rfl) (by kernel_rfl)))

noncomputable def spec_l2Comp_b (a0 : Row) (a1 : Row) : Oc Empty Int Empty Empty Empty :=
  match (spec_l2Comp_c1 [a0.Key, a0.Val, a0.At.A, a0.At.B] [a1.Key, a1.Val, a1.At.A, a1.At.B]) with
  | .n () =>
    .r 0
  | .r q19 =>
    .r q19
  | .x q => q.elim
  | .y q => q.elim
  | .z q => q.elim
def spec_l2Comp_b_ob (a0 : Row) (a1 : Row) : Prop :=
  ((True)) ∧
  ((True)) ∧
  ((True)) ∧
  (spec_l2Comp_c1_ob [a0.Key, a0.Val, a0.At.A, a0.At.B] [a1.Key, a1.Val, a1.At.A, a1.At.B]) ∧
  ((spec_l2Comp_c1 [a0.Key, a0.Val, a0.At.A, a0.At.B] [a1.Key, a1.Val, a1.At.A, a1.At.B]) = .n () →
    ((True)) ∧
    True)
set_option maxRecDepth 100000 in
theorem spec_l2Comp_b_ok (G : Good Try.prog tt sp_spec_l2Comp) {fr : Fr} (a0 : Row) (a1 : Row) (hob : spec_l2Comp_b_ob a0 a1) {n r : Env → Prop} {x : Nat → Env → Prop}
    (hr : ∀ q, (spec_l2Comp_b a0 a1) = .r q → ∀ e, retAv tt e [.tmp 4] (.one .fr (.int .i64)) = some (RT.av (.one .fr (.int .i64)) q) → r e) :
    Ht Try.prog ⟨(Try.f131).ntmps, none, []⟩ fr (nav (bodyOf (Try.f131)) []) [(0, .agg true [.int .i64 a0.Key, .int .i64 a0.Val, .int .i64 a0.At.A, .int .i64 a0.At.B, .int .i64 a0.Diff]), (1, .agg true [.int .i64 a1.Key, .int .i64 a1.Val, .int .i64 a1.At.A, .int .i64 a1.At.B, .int .i64 a1.Diff])] n r x := by
  unfold spec_l2Comp_b_ob at hob
  refine Ht.seq (c1 := (nav (bodyOf (Try.f131)) [0])) (c2 := (nav (bodyOf (Try.f131)) [1])) (by kernel_rfl) ?_
  refine Ht.reg G (keep := [2, 3]) (e' := [(2, .box [(.fr, .int .i64 a0.Key), (.fr, .int .i64 a0.Val), (.fr, .int .i64 a0.At.A), (.fr, .int .i64 a0.At.B), (.fr, .int .i64 a0.Diff)]), (3, .box [(.fr, .int .i64 a1.Key), (.fr, .int .i64 a1.Val), (.fr, .int .i64 a1.At.A), (.fr, .int .i64 a1.At.B), (.fr, .int .i64 a1.Diff)])]) (obs := []) (by kernel_rfl) hob.1 ?_
  refine Ht.seq (c1 := (nav (bodyOf (Try.f131)) [1, 0])) (c2 := (nav (bodyOf (Try.f131)) [1, 1])) (by kernel_rfl) ?_
  refine Ht.reg G (keep := [3, 5]) (e' := [(3, .box [(.fr, .int .i64 a1.Key), (.fr, .int .i64 a1.Val), (.fr, .int .i64 a1.At.A), (.fr, .int .i64 a1.At.B), (.fr, .int .i64 a1.Diff)]), (5, .v (.acc true) (.lst .int [a0.Key, a0.Val, a0.At.A, a0.At.B]))]) (obs := []) (by kernel_rfl) hob.2.1 ?_
  refine Ht.seq (c1 := (nav (bodyOf (Try.f131)) [1, 1, 0])) (c2 := (nav (bodyOf (Try.f131)) [1, 1, 1])) (by kernel_rfl) ?_
  refine Ht.reg G (keep := [5, 6]) (e' := [(5, .v (.acc true) (.lst .int [a0.Key, a0.Val, a0.At.A, a0.At.B])), (6, .v (.acc true) (.lst .int [a1.Key, a1.Val, a1.At.A, a1.At.B]))]) (obs := []) (by kernel_rfl) hob.2.2.1 ?_
  refine Ht.seq (c1 := (nav (bodyOf (Try.f131)) [1, 1, 1, 0])) (c2 := (nav (bodyOf (Try.f131)) [1, 1, 1, 1])) (by kernel_rfl) ?_
  refine Ht.weak (e' := [(5, .v (.acc true) (.lst .int [a0.Key, a0.Val, a0.At.A, a0.At.B])), (6, .v (.acc true) (.lst .int [a1.Key, a1.Val, a1.At.A, a1.At.B]))]) (Weak.cast (pat := [(5, .same), (6, .same)]) (by kernel_rfl) (by kernel_rfl)) ?_
  refine spec_l2Comp_c1_ok G [a0.Key, a0.Val, a0.At.A, a0.At.B] [a1.Key, a1.Val, a1.At.A, a1.At.B] hob.2.2.2.1 (fun h18 e hw => ?_) (fun q h20 e he => hr q (by simp only [spec_l2Comp_b, h20]) e he)
  · have hb := hob.2.2.2.2 h18
    refine Ht.weak hw ?_
    refine Ht.seq (c1 := (nav (bodyOf (Try.f131)) [1, 1, 1, 1, 0])) (c2 := (nav (bodyOf (Try.f131)) [1, 1, 1, 1, 1])) (by kernel_rfl) ?_
    refine Ht.reg G (keep := [4]) (e' := [(4, .v .fr (.int .i64 0))]) (obs := []) (by kernel_rfl) hb.1 ?_
    refine Ht.ret (by kernel_rfl) ?_
    exact hr 0 (by simp only [spec_l2Comp_b, h18]) _ (by kernel_rfl)

noncomputable def v_spec_l2Comp (a0 : Row) (a1 : Row) : Int := ocR (spec_l2Comp_b a0 a1)
def p_spec_l2Comp (a0 : Row) (a1 : Row) : Prop := spec_l2Comp_b_ob a0 a1
noncomputable def s_spec_l2Comp : Spec := ⟨[(.st .row), (.st .row)], .one .fr (.int .i64), false, fun x => (v_spec_l2Comp x.1 x.2.1, 0), fun x => p_spec_l2Comp x.1 x.2.1⟩
theorem con_spec_l2Comp (G : Good Try.prog tt sp_spec_l2Comp) : Con Try.prog 131 s_spec_l2Comp :=
  con_of G.htt (fn := Try.f131) (c := bodyOf Try.f131) (by kernel_rfl) (by kernel_rfl) (by kernel_rfl) (rs := [.tmp 4]) (by kernel_rfl) (by kernel_rfl) (fun _ => rfl) fun x hp fr _ _ _ =>
    spec_l2Comp_b_ok G (fr := fr) x.1 x.2.1 hp
      (fun q h e he => ⟨by rw [show (s_spec_l2Comp.val x).1 = q from congrArg ocR h]; exact he, trivial⟩)

noncomputable def sp_spec_l2Put : SP := [(131, s_spec_l2Comp)]
noncomputable def spec_l2Put_c4 (_x47 : List Row) (x48 : Int) (x49 : Int) (x50 : Int) (x51 : Int) (x52 : Int) (x53 : List Row) (x54 : Bool) (_x55 : Int) (x56 : Int) : Oc ((List Row) × Bool) (List Row) Empty Empty Empty :=
  match (cond (!x54) (cmp .gtr x56 0) false) with
  | true =>
    .n ((x53 ++ [(Row.mk x48 x49 (Time.mk x50 x51) x52)]), true)
  | false =>
    .n (x53, x54)
def spec_l2Put_c4_ob (_x47 : List Row) (x48 : Int) (x49 : Int) (x50 : Int) (x51 : Int) (x52 : Int) (x53 : List Row) (x54 : Bool) (_x55 : Int) (x56 : Int) : Prop :=
  ((True)) ∧
  ((cond (!x54) (cmp .gtr x56 0) false) = true →
    ((lim (lenI .row x53) (lenI .row [(Row.mk x48 x49 (Time.mk x50 x51) x52)])) ∧ (True)) ∧
    ((True)) ∧
    True) ∧ ((cond (!x54) (cmp .gtr x56 0) false) = false →
    True)
set_option maxRecDepth 100000 in
theorem spec_l2Put_c4_ok (G : Good Try.prog tt sp_spec_l2Put) {fr : Fr} (x47 : List Row) (x48 : Int) (x49 : Int) (x50 : Int) (x51 : Int) (x52 : Int) (x53 : List Row) (x54 : Bool) (x55 : Int) (x56 : Int) (hob : spec_l2Put_c4_ob x47 x48 x49 x50 x51 x52 x53 x54 x55 x56) {n r : Env → Prop} {x : Nat → Env → Prop}
    (hn : ∀ (q58 : List Row) (q59 : Bool), (spec_l2Put_c4 x47 x48 x49 x50 x51 x52 x53 x54 x55 x56) = .n (q58, q59) → ∀ e, Weak e [(0, .v .sh (.lst .row x47)), (3, .box [(.fr, .int .i64 x48), (.fr, .int .i64 x49), (.fr, .int .i64 x50), (.fr, .int .i64 x51), (.fr, .int .i64 x52)]), (5, .v (.acc true) (.lst .row q58)), (6, .v .fr (.bool q59)), (7, .v .fr (.int .i64 x55)), (8, .v .fr (.int .i64 x56))] → n e)
    (_hr : ∀ q, (spec_l2Put_c4 x47 x48 x49 x50 x51 x52 x53 x54 x55 x56) = .r q → ∀ e, retAv tt e [.tmp 4] (.one (.acc true) (.lst .row)) = some (RT.av (.one (.acc true) (.lst .row)) q) → r e) :
    Ht Try.prog ⟨(Try.f126).ntmps, none, []⟩ fr (nav (bodyOf (Try.f126)) [1, 1, 1, 0, 1, 0, 0, 1, 0, 0, 1, 0]) [(0, .v .sh (.lst .row x47)), (3, .box [(.fr, .int .i64 x48), (.fr, .int .i64 x49), (.fr, .int .i64 x50), (.fr, .int .i64 x51), (.fr, .int .i64 x52)]), (5, .v (.acc true) (.lst .row x53)), (6, .v .fr (.bool x54)), (7, .v .fr (.int .i64 x55)), (8, .v .fr (.int .i64 x56))] n r x := by
  unfold spec_l2Put_c4_ob at hob
  refine Ht.seq (c1 := (nav (bodyOf (Try.f126)) [1, 1, 1, 0, 1, 0, 0, 1, 0, 0, 1, 0, 0])) (c2 := (nav (bodyOf (Try.f126)) [1, 1, 1, 0, 1, 0, 0, 1, 0, 0, 1, 0, 1])) (by kernel_rfl) ?_
  refine Ht.reg G (keep := [0, 3, 5, 6, 7, 8, 27]) (e' := [(0, .v .sh (.lst .row x47)), (3, .box [(.fr, .int .i64 x48), (.fr, .int .i64 x49), (.fr, .int .i64 x50), (.fr, .int .i64 x51), (.fr, .int .i64 x52)]), (5, .v (.acc true) (.lst .row x53)), (6, .v .fr (.bool x54)), (7, .v .fr (.int .i64 x55)), (8, .v .fr (.int .i64 x56)), (27, .v .fr (.bool (cond (!x54) (cmp .gtr x56 0) false)))]) (obs := []) (by kernel_rfl) hob.1 ?_
  refine Ht.cond (o := .tmp 27) (c1 := (nav (bodyOf (Try.f126)) [1, 1, 1, 0, 1, 0, 0, 1, 0, 0, 1, 0, 1, 0])) (c2 := (nav (bodyOf (Try.f126)) [1, 1, 1, 0, 1, 0, 0, 1, 0, 0, 1, 0, 1, 1])) (b := (cond (!x54) (cmp .gtr x56 0) false)) (by kernel_rfl) (by kernel_rfl) (fun h57 => ?_) (fun h57 => ?_)
  · have hb := hob.2.1 h57
    refine Ht.seq (c1 := (nav (bodyOf (Try.f126)) [1, 1, 1, 0, 1, 0, 0, 1, 0, 0, 1, 0, 1, 0, 0])) (c2 := (nav (bodyOf (Try.f126)) [1, 1, 1, 0, 1, 0, 0, 1, 0, 0, 1, 0, 1, 0, 1])) (by kernel_rfl) ?_
    refine Ht.reg G (keep := [0, 3, 5, 7, 8]) (e' := [(0, .v .sh (.lst .row x47)), (3, .box [(.fr, .int .i64 x48), (.fr, .int .i64 x49), (.fr, .int .i64 x50), (.fr, .int .i64 x51), (.fr, .int .i64 x52)]), (5, .v (.acc true) (.lst .row (x53 ++ [(Row.mk x48 x49 (Time.mk x50 x51) x52)]))), (7, .v .fr (.int .i64 x55)), (8, .v .fr (.int .i64 x56))]) (obs := [lim (lenI .row x53) (lenI .row [(Row.mk x48 x49 (Time.mk x50 x51) x52)])]) (by kernel_rfl) hb.1 ?_
    refine Ht.reg G (keep := [0, 3, 5, 6, 7, 8]) (e' := [(0, .v .sh (.lst .row x47)), (3, .box [(.fr, .int .i64 x48), (.fr, .int .i64 x49), (.fr, .int .i64 x50), (.fr, .int .i64 x51), (.fr, .int .i64 x52)]), (5, .v (.acc true) (.lst .row (x53 ++ [(Row.mk x48 x49 (Time.mk x50 x51) x52)]))), (6, .v .fr (.bool true)), (7, .v .fr (.int .i64 x55)), (8, .v .fr (.int .i64 x56))]) (obs := []) (by kernel_rfl) hb.2.1 ?_
    exact hn (x53 ++ [(Row.mk x48 x49 (Time.mk x50 x51) x52)]) true (by simp only [spec_l2Put_c4, h57]) _ (Weak.cast (pat := [(0, .sh), (3, .same), (5, (.acc true)), (6, .fr), (7, .fr), (8, .fr)]) (by kernel_rfl) (by kernel_rfl))
  · have hb := hob.2.2 h57
    refine Ht.skip (by kernel_rfl) ?_
    exact hn x53 x54 (by simp only [spec_l2Put_c4, h57]) _ (Weak.cast (pat := [(0, .sh), (3, .same), (5, (.acc true)), (6, .fr), (7, .fr), (8, .fr)]) (by kernel_rfl) (by kernel_rfl))

noncomputable def spec_l2Put_c3 (x38 : List Row) (x39 : Int) (x40 : Int) (x41 : Int) (x42 : Int) (x43 : Int) (x44 : List Row) (x45 : Bool) (x46 : Int) : Oc (Int × (List Row) × Bool) (List Row) Empty Empty Empty :=
  match (spec_l2Put_c4 x38 x39 x40 x41 x42 x43 x44 x45 x46 (v_spec_l2Comp (rd .row x38 x46) (Row.mk x39 x40 (Time.mk x41 x42) x43))) with
  | .n (q60, q61) =>
    match (cond (!q61) (cmp .eql (v_spec_l2Comp (rd .row x38 x46) (Row.mk x39 x40 (Time.mk x41 x42) x43)) 0) false) with
    | true =>
      .n ((ar .add .i64 x43 (rd .row x38 x46).Diff), (q60 ++ [(Row.mk x39 x40 (Time.mk x41 x42) (ar .add .i64 x43 (rd .row x38 x46).Diff))]), true)
    | false =>
      .n (x43, (q60 ++ [(rd .row x38 x46)]), q61)
  | .r q64 =>
    .r q64
  | .x q => q.elim
  | .y q => q.elim
  | .z q => q.elim
def spec_l2Put_c3_ob (x38 : List Row) (x39 : Int) (x40 : Int) (x41 : Int) (x42 : Int) (x43 : Int) (x44 : List Row) (x45 : Bool) (x46 : Int) : Prop :=
  ((inb x46 (lenI .row x38)) ∧ ((p_spec_l2Comp (rd .row x38 x46) (Row.mk x39 x40 (Time.mk x41 x42) x43))) ∧ (True)) ∧
  (spec_l2Put_c4_ob x38 x39 x40 x41 x42 x43 x44 x45 x46 (v_spec_l2Comp (rd .row x38 x46) (Row.mk x39 x40 (Time.mk x41 x42) x43))) ∧
  (∀ (q60 : List Row) (q61 : Bool), (spec_l2Put_c4 x38 x39 x40 x41 x42 x43 x44 x45 x46 (v_spec_l2Comp (rd .row x38 x46) (Row.mk x39 x40 (Time.mk x41 x42) x43))) = .n (q60, q61) →
    ((True)) ∧
    ((cond (!q61) (cmp .eql (v_spec_l2Comp (rd .row x38 x46) (Row.mk x39 x40 (Time.mk x41 x42) x43)) 0) false) = true →
      ((inb x46 (lenI .row x38)) ∧ (True)) ∧
      ((lim (lenI .row q60) (lenI .row [(Row.mk x39 x40 (Time.mk x41 x42) (ar .add .i64 x43 (rd .row x38 x46).Diff))])) ∧ (True)) ∧
      ((True)) ∧
      True) ∧ ((cond (!q61) (cmp .eql (v_spec_l2Comp (rd .row x38 x46) (Row.mk x39 x40 (Time.mk x41 x42) x43)) 0) false) = false →
      ((inb x46 (lenI .row x38)) ∧ (lim (lenI .row q60) (lenI .row [(rd .row x38 x46)])) ∧ (True)) ∧
      True))
set_option maxRecDepth 100000 in
theorem spec_l2Put_c3_ok (G : Good Try.prog tt sp_spec_l2Put) {fr : Fr} (x38 : List Row) (x39 : Int) (x40 : Int) (x41 : Int) (x42 : Int) (x43 : Int) (x44 : List Row) (x45 : Bool) (x46 : Int) (hob : spec_l2Put_c3_ob x38 x39 x40 x41 x42 x43 x44 x45 x46) {n r : Env → Prop} {x : Nat → Env → Prop}
    (hn : ∀ (q66 : Int) (q67 : List Row) (q68 : Bool), (spec_l2Put_c3 x38 x39 x40 x41 x42 x43 x44 x45 x46) = .n (q66, q67, q68) → ∀ e, Weak e [(0, .v .sh (.lst .row x38)), (3, .box [(.fr, .int .i64 x39), (.fr, .int .i64 x40), (.fr, .int .i64 x41), (.fr, .int .i64 x42), (.fr, .int .i64 q66)]), (5, .v (.acc true) (.lst .row q67)), (6, .v .fr (.bool q68)), (7, .v .fr (.int .i64 x46))] → n e)
    (hr : ∀ q, (spec_l2Put_c3 x38 x39 x40 x41 x42 x43 x44 x45 x46) = .r q → ∀ e, retAv tt e [.tmp 4] (.one (.acc true) (.lst .row)) = some (RT.av (.one (.acc true) (.lst .row)) q) → r e) :
    Ht Try.prog ⟨(Try.f126).ntmps, none, []⟩ fr (nav (bodyOf (Try.f126)) [1, 1, 1, 0, 1, 0, 0, 1, 0]) [(0, .v .sh (.lst .row x38)), (3, .box [(.fr, .int .i64 x39), (.fr, .int .i64 x40), (.fr, .int .i64 x41), (.fr, .int .i64 x42), (.fr, .int .i64 x43)]), (5, .v (.acc true) (.lst .row x44)), (6, .v .fr (.bool x45)), (7, .v .fr (.int .i64 x46))] n r x := by
  unfold spec_l2Put_c3_ob at hob
  refine Ht.block (id := 1) (c1 := (nav (bodyOf (Try.f126)) [1, 1, 1, 0, 1, 0, 0, 1, 0, 0])) (by kernel_rfl) ?_
  refine Ht.seq (c1 := (nav (bodyOf (Try.f126)) [1, 1, 1, 0, 1, 0, 0, 1, 0, 0, 0])) (c2 := (nav (bodyOf (Try.f126)) [1, 1, 1, 0, 1, 0, 0, 1, 0, 0, 1])) (by kernel_rfl) ?_
  refine Ht.reg G (keep := [0, 3, 5, 6, 7, 8]) (e' := [(0, .v .sh (.lst .row x38)), (3, .box [(.fr, .int .i64 x39), (.fr, .int .i64 x40), (.fr, .int .i64 x41), (.fr, .int .i64 x42), (.fr, .int .i64 x43)]), (5, .v (.acc true) (.lst .row x44)), (6, .v .fr (.bool x45)), (7, .v .fr (.int .i64 x46)), (8, .v .fr (.int .i64 (v_spec_l2Comp (rd .row x38 x46) (Row.mk x39 x40 (Time.mk x41 x42) x43))))]) (obs := [inb x46 (lenI .row x38), (p_spec_l2Comp (rd .row x38 x46) (Row.mk x39 x40 (Time.mk x41 x42) x43))]) (by kernel_rfl) hob.1 ?_
  refine Ht.seq (c1 := (nav (bodyOf (Try.f126)) [1, 1, 1, 0, 1, 0, 0, 1, 0, 0, 1, 0])) (c2 := (nav (bodyOf (Try.f126)) [1, 1, 1, 0, 1, 0, 0, 1, 0, 0, 1, 1])) (by kernel_rfl) ?_
  refine Ht.weak (e' := [(0, .v .sh (.lst .row x38)), (3, .box [(.fr, .int .i64 x39), (.fr, .int .i64 x40), (.fr, .int .i64 x41), (.fr, .int .i64 x42), (.fr, .int .i64 x43)]), (5, .v (.acc true) (.lst .row x44)), (6, .v .fr (.bool x45)), (7, .v .fr (.int .i64 x46)), (8, .v .fr (.int .i64 (v_spec_l2Comp (rd .row x38 x46) (Row.mk x39 x40 (Time.mk x41 x42) x43))))]) (Weak.cast (pat := [(0, .same), (3, .same), (5, .same), (6, .same), (7, .same), (8, .same)]) (by kernel_rfl) (by kernel_rfl)) ?_
  refine spec_l2Put_c4_ok G x38 x39 x40 x41 x42 x43 x44 x45 x46 (v_spec_l2Comp (rd .row x38 x46) (Row.mk x39 x40 (Time.mk x41 x42) x43)) hob.2.1 (fun q60 q61 h62 e hw => ?_) (fun q h65 e he => hr q (by simp only [spec_l2Put_c3, h65]) e he)
  · have hb := hob.2.2 q60 q61 h62
    refine Ht.weak hw ?_
    refine Ht.seq (c1 := (nav (bodyOf (Try.f126)) [1, 1, 1, 0, 1, 0, 0, 1, 0, 0, 1, 1, 0])) (c2 := (nav (bodyOf (Try.f126)) [1, 1, 1, 0, 1, 0, 0, 1, 0, 0, 1, 1, 1])) (by kernel_rfl) ?_
    refine Ht.seq (c1 := (nav (bodyOf (Try.f126)) [1, 1, 1, 0, 1, 0, 0, 1, 0, 0, 1, 1, 0, 0])) (c2 := (nav (bodyOf (Try.f126)) [1, 1, 1, 0, 1, 0, 0, 1, 0, 0, 1, 1, 0, 1])) (by kernel_rfl) ?_
    refine Ht.reg G (keep := [0, 3, 5, 6, 7, 37]) (e' := [(0, .v .sh (.lst .row x38)), (3, .box [(.fr, .int .i64 x39), (.fr, .int .i64 x40), (.fr, .int .i64 x41), (.fr, .int .i64 x42), (.fr, .int .i64 x43)]), (5, .v (.acc true) (.lst .row q60)), (6, .v .fr (.bool q61)), (7, .v .fr (.int .i64 x46)), (37, .v .fr (.bool (cond (!q61) (cmp .eql (v_spec_l2Comp (rd .row x38 x46) (Row.mk x39 x40 (Time.mk x41 x42) x43)) 0) false)))]) (obs := []) (by kernel_rfl) hb.1 ?_
    refine Ht.cond (o := .tmp 37) (c1 := (nav (bodyOf (Try.f126)) [1, 1, 1, 0, 1, 0, 0, 1, 0, 0, 1, 1, 0, 1, 0])) (c2 := (nav (bodyOf (Try.f126)) [1, 1, 1, 0, 1, 0, 0, 1, 0, 0, 1, 1, 0, 1, 1])) (b := (cond (!q61) (cmp .eql (v_spec_l2Comp (rd .row x38 x46) (Row.mk x39 x40 (Time.mk x41 x42) x43)) 0) false)) (by kernel_rfl) (by kernel_rfl) (fun h63 => ?_) (fun h63 => ?_)
    · have hb := hb.2.1 h63
      refine Ht.seq (c1 := (nav (bodyOf (Try.f126)) [1, 1, 1, 0, 1, 0, 0, 1, 0, 0, 1, 1, 0, 1, 0, 0])) (c2 := (nav (bodyOf (Try.f126)) [1, 1, 1, 0, 1, 0, 0, 1, 0, 0, 1, 1, 0, 1, 0, 1])) (by kernel_rfl) ?_
      refine Ht.reg G (keep := [0, 3, 5, 7]) (e' := [(0, .v .sh (.lst .row x38)), (3, .box [(.fr, .int .i64 x39), (.fr, .int .i64 x40), (.fr, .int .i64 x41), (.fr, .int .i64 x42), (.fr, .int .i64 (ar .add .i64 x43 (rd .row x38 x46).Diff))]), (5, .v (.acc true) (.lst .row q60)), (7, .v .fr (.int .i64 x46))]) (obs := [inb x46 (lenI .row x38)]) (by kernel_rfl) hb.1 ?_
      refine Ht.seq (c1 := (nav (bodyOf (Try.f126)) [1, 1, 1, 0, 1, 0, 0, 1, 0, 0, 1, 1, 0, 1, 0, 1, 0])) (c2 := (nav (bodyOf (Try.f126)) [1, 1, 1, 0, 1, 0, 0, 1, 0, 0, 1, 1, 0, 1, 0, 1, 1])) (by kernel_rfl) ?_
      refine Ht.reg G (keep := [0, 3, 5, 7]) (e' := [(0, .v .sh (.lst .row x38)), (3, .box [(.fr, .int .i64 x39), (.fr, .int .i64 x40), (.fr, .int .i64 x41), (.fr, .int .i64 x42), (.fr, .int .i64 (ar .add .i64 x43 (rd .row x38 x46).Diff))]), (5, .v (.acc true) (.lst .row (q60 ++ [(Row.mk x39 x40 (Time.mk x41 x42) (ar .add .i64 x43 (rd .row x38 x46).Diff))]))), (7, .v .fr (.int .i64 x46))]) (obs := [lim (lenI .row q60) (lenI .row [(Row.mk x39 x40 (Time.mk x41 x42) (ar .add .i64 x43 (rd .row x38 x46).Diff))])]) (by kernel_rfl) hb.2.1 ?_
      refine Ht.seq (c1 := (nav (bodyOf (Try.f126)) [1, 1, 1, 0, 1, 0, 0, 1, 0, 0, 1, 1, 0, 1, 0, 1, 1, 0])) (c2 := (nav (bodyOf (Try.f126)) [1, 1, 1, 0, 1, 0, 0, 1, 0, 0, 1, 1, 0, 1, 0, 1, 1, 1])) (by kernel_rfl) ?_
      refine Ht.reg G (keep := [0, 3, 5, 6, 7]) (e' := [(0, .v .sh (.lst .row x38)), (3, .box [(.fr, .int .i64 x39), (.fr, .int .i64 x40), (.fr, .int .i64 x41), (.fr, .int .i64 x42), (.fr, .int .i64 (ar .add .i64 x43 (rd .row x38 x46).Diff))]), (5, .v (.acc true) (.lst .row (q60 ++ [(Row.mk x39 x40 (Time.mk x41 x42) (ar .add .i64 x43 (rd .row x38 x46).Diff))]))), (6, .v .fr (.bool true)), (7, .v .fr (.int .i64 x46))]) (obs := []) (by kernel_rfl) hb.2.2.1 ?_
      refine Ht.exit (i := 1) (by kernel_rfl) ?_
      exact hn (ar .add .i64 x43 (rd .row x38 x46).Diff) (q60 ++ [(Row.mk x39 x40 (Time.mk x41 x42) (ar .add .i64 x43 (rd .row x38 x46).Diff))]) true (by simp only [spec_l2Put_c3, h62, h63]) _ (Weak.cast (pat := [(0, .sh), (3, .same), (5, (.acc true)), (6, .fr), (7, .fr)]) (by kernel_rfl) (by kernel_rfl))
    · have hb := hb.2.2 h63
      refine Ht.skip (by kernel_rfl) ?_
      refine Ht.reg G (keep := [0, 3, 5, 6, 7]) (e' := [(0, .v .sh (.lst .row x38)), (3, .box [(.fr, .int .i64 x39), (.fr, .int .i64 x40), (.fr, .int .i64 x41), (.fr, .int .i64 x42), (.fr, .int .i64 x43)]), (5, .v (.acc true) (.lst .row (q60 ++ [(rd .row x38 x46)]))), (6, .v .fr (.bool q61)), (7, .v .fr (.int .i64 x46))]) (obs := [inb x46 (lenI .row x38), lim (lenI .row q60) (lenI .row [(rd .row x38 x46)])]) (by kernel_rfl) hb.1 ?_
      exact hn x43 (q60 ++ [(rd .row x38 x46)]) q61 (by simp only [spec_l2Put_c3, h62, h63]) _ (Weak.cast (pat := [(0, .sh), (3, .same), (5, (.acc true)), (6, .fr), (7, .fr)]) (by kernel_rfl) (by kernel_rfl))

noncomputable def spec_l2Put_c2_r (x3 : List Row) (x4 : Row) (s33 : Int) (s34 : List Row) (s35 : Bool) (s36 : Int) : Oc (Int × (List Row) × Bool × Int) (List Row) (Int × (List Row) × Bool) Empty Empty :=
  match (cmp .lss s36 (lenI .row x3)) with
  | true =>
    match (spec_l2Put_c3 x3 x4.Key x4.Val x4.At.A x4.At.B s33 s34 s35 s36) with
    | .n (q69, q70, q71) =>
      .n (q69, q70, q71, (ar .add .i64 s36 1))
    | .r q73 =>
      .r q73
    | .x q => q.elim
    | .y q => q.elim
    | .z q => q.elim
  | false =>
    .x (s33, s34, s35)
def spec_l2Put_c2_r_ob (x3 : List Row) (x4 : Row) (s33 : Int) (s34 : List Row) (s35 : Bool) (s36 : Int) : Prop :=
  ((True)) ∧
  ((cmp .lss s36 (lenI .row x3)) = true →
    (spec_l2Put_c3_ob x3 x4.Key x4.Val x4.At.A x4.At.B s33 s34 s35 s36) ∧
    (∀ (q69 : Int) (q70 : List Row) (q71 : Bool), (spec_l2Put_c3 x3 x4.Key x4.Val x4.At.A x4.At.B s33 s34 s35 s36) = .n (q69, q70, q71) →
      ((True)) ∧
      True)) ∧ ((cmp .lss s36 (lenI .row x3)) = false →
    True)
set_option maxRecDepth 100000 in
theorem spec_l2Put_c2_r_ok (G : Good Try.prog tt sp_spec_l2Put) {fr : Fr} (x3 : List Row) (x4 : Row) (s33 : Int) (s34 : List Row) (s35 : Bool) (s36 : Int) (hob : spec_l2Put_c2_r_ob x3 x4 s33 s34 s35 s36) {n r : Env → Prop} {x : Nat → Env → Prop}
    (hn : ∀ (q82 : Int) (q83 : List Row) (q84 : Bool) (q85 : Int), (spec_l2Put_c2_r x3 x4 s33 s34 s35 s36) = .n (q82, q83, q84, q85) → ∀ e, Weak e [(0, .v .sh (.lst .row x3)), (3, .box [(.fr, .int .i64 x4.Key), (.fr, .int .i64 x4.Val), (.fr, .int .i64 x4.At.A), (.fr, .int .i64 x4.At.B), (.fr, .int .i64 q82)]), (5, .v (.acc true) (.lst .row q83)), (6, .v .fr (.bool q84)), (7, .v .fr (.int .i64 q85))] → n e)
    (hr : ∀ q, (spec_l2Put_c2_r x3 x4 s33 s34 s35 s36) = .r q → ∀ e, retAv tt e [.tmp 4] (.one (.acc true) (.lst .row)) = some (RT.av (.one (.acc true) (.lst .row)) q) → r e)
    (hx : ∀ (q79 : Int) (q80 : List Row) (q81 : Bool), (spec_l2Put_c2_r x3 x4 s33 s34 s35 s36) = .x (q79, q80, q81) → ∀ e, Weak e [(3, .box [(.fr, .int .i64 x4.Key), (.fr, .int .i64 x4.Val), (.fr, .int .i64 x4.At.A), (.fr, .int .i64 x4.At.B), (.fr, .int .i64 q79)]), (5, .v (.acc true) (.lst .row q80)), (6, .v .fr (.bool q81))] → x 0 e) :
    Ht Try.prog ⟨(Try.f126).ntmps, none, []⟩ fr (nav (bodyOf (Try.f126)) [1, 1, 1, 0, 1, 0, 0]) [(0, .v .sh (.lst .row x3)), (3, .box [(.fr, .int .i64 x4.Key), (.fr, .int .i64 x4.Val), (.fr, .int .i64 x4.At.A), (.fr, .int .i64 x4.At.B), (.fr, .int .i64 s33)]), (5, .v (.acc true) (.lst .row s34)), (6, .v .fr (.bool s35)), (7, .v .fr (.int .i64 s36))] n r x := by
  unfold spec_l2Put_c2_r_ob at hob
  refine Ht.seq (c1 := (nav (bodyOf (Try.f126)) [1, 1, 1, 0, 1, 0, 0, 0])) (c2 := (nav (bodyOf (Try.f126)) [1, 1, 1, 0, 1, 0, 0, 1])) (by kernel_rfl) ?_
  refine Ht.seq (c1 := (nav (bodyOf (Try.f126)) [1, 1, 1, 0, 1, 0, 0, 0, 0])) (c2 := (nav (bodyOf (Try.f126)) [1, 1, 1, 0, 1, 0, 0, 0, 1])) (by kernel_rfl) ?_
  refine Ht.reg G (keep := [0, 3, 5, 6, 7, 13]) (e' := [(0, .v .sh (.lst .row x3)), (3, .box [(.fr, .int .i64 x4.Key), (.fr, .int .i64 x4.Val), (.fr, .int .i64 x4.At.A), (.fr, .int .i64 x4.At.B), (.fr, .int .i64 s33)]), (5, .v (.acc true) (.lst .row s34)), (6, .v .fr (.bool s35)), (7, .v .fr (.int .i64 s36)), (13, .v .fr (.bool (cmp .lss s36 (lenI .row x3))))]) (obs := []) (by kernel_rfl) hob.1 ?_
  refine Ht.cond (o := .tmp 13) (c1 := (nav (bodyOf (Try.f126)) [1, 1, 1, 0, 1, 0, 0, 0, 1, 0])) (c2 := (nav (bodyOf (Try.f126)) [1, 1, 1, 0, 1, 0, 0, 0, 1, 1])) (b := (cmp .lss s36 (lenI .row x3))) (by kernel_rfl) (by kernel_rfl) (fun h37 => ?_) (fun h37 => ?_)
  · have hb := hob.2.1 h37
    refine Ht.skip (by kernel_rfl) ?_
    refine Ht.seq (c1 := (nav (bodyOf (Try.f126)) [1, 1, 1, 0, 1, 0, 0, 1, 0])) (c2 := (nav (bodyOf (Try.f126)) [1, 1, 1, 0, 1, 0, 0, 1, 1])) (by kernel_rfl) ?_
    refine Ht.weak (e' := [(0, .v .sh (.lst .row x3)), (3, .box [(.fr, .int .i64 x4.Key), (.fr, .int .i64 x4.Val), (.fr, .int .i64 x4.At.A), (.fr, .int .i64 x4.At.B), (.fr, .int .i64 s33)]), (5, .v (.acc true) (.lst .row s34)), (6, .v .fr (.bool s35)), (7, .v .fr (.int .i64 s36))]) (Weak.cast (pat := [(0, .same), (3, .same), (5, .same), (6, .same), (7, .same)]) (by kernel_rfl) (by kernel_rfl)) ?_
    refine spec_l2Put_c3_ok G x3 x4.Key x4.Val x4.At.A x4.At.B s33 s34 s35 s36 hb.1 (fun q69 q70 q71 h72 e hw => ?_) (fun q h74 e he => hr q (by simp only [spec_l2Put_c2_r, h37, h74]) e he)
    · have hb := hb.2 q69 q70 q71 h72
      refine Ht.weak hw ?_
      refine Ht.reg G (keep := [0, 3, 5, 6, 7]) (e' := [(0, .v .sh (.lst .row x3)), (3, .box [(.fr, .int .i64 x4.Key), (.fr, .int .i64 x4.Val), (.fr, .int .i64 x4.At.A), (.fr, .int .i64 x4.At.B), (.fr, .int .i64 q69)]), (5, .v (.acc true) (.lst .row q70)), (6, .v .fr (.bool q71)), (7, .v .fr (.int .i64 (ar .add .i64 s36 1)))]) (obs := []) (by kernel_rfl) hb.1 ?_
      exact hn q69 q70 q71 (ar .add .i64 s36 1) (by simp only [spec_l2Put_c2_r, h37, h72]) _ (Weak.cast (pat := [(0, .sh), (3, .same), (5, (.acc true)), (6, .fr), (7, .fr)]) (by kernel_rfl) (by kernel_rfl))
  · have hb := hob.2.2 h37
    refine Ht.exit (i := 0) (by kernel_rfl) ?_
    exact hx s33 s34 s35 (by simp only [spec_l2Put_c2_r, h37]) _ (Weak.cast (pat := [(3, .same), (5, (.acc true)), (6, .fr)]) (by kernel_rfl) (by kernel_rfl))

noncomputable def spec_l2Put_c2 (x3 : List Row) (x4 : Row) : Oc Empty (List Row) (Int × (List Row) × Bool) Empty Empty := lpV (fun s => ocLp ((fun (s : Int × (List Row) × Bool × Int) => spec_l2Put_c2_r x3 x4 s.1 s.2.1 s.2.2.1 s.2.2.2) s)) (x4.Diff, [], false, 0)
def spec_l2Put_c2_ob (x3 : List Row) (x4 : Row) : Prop := LpT (fun s => ocLp ((fun (s : Int × (List Row) × Bool × Int) => spec_l2Put_c2_r x3 x4 s.1 s.2.1 s.2.2.1 s.2.2.2) s)) (fun s => spec_l2Put_c2_r_ob x3 x4 s.1 s.2.1 s.2.2.1 s.2.2.2) (x4.Diff, [], false, 0)
set_option maxRecDepth 100000 in
theorem spec_l2Put_c2_ok (G : Good Try.prog tt sp_spec_l2Put) {fr : Fr} (x3 : List Row) (x4 : Row) (hob : spec_l2Put_c2_ob x3 x4) {n r : Env → Prop} {x : Nat → Env → Prop}
    (hr : ∀ q, (spec_l2Put_c2 x3 x4) = .r q → ∀ e, retAv tt e [.tmp 4] (.one (.acc true) (.lst .row)) = some (RT.av (.one (.acc true) (.lst .row)) q) → r e)
    (hx : ∀ (q79 : Int) (q80 : List Row) (q81 : Bool), (spec_l2Put_c2 x3 x4) = .x (q79, q80, q81) → ∀ e, Weak e [(3, .box [(.fr, .int .i64 x4.Key), (.fr, .int .i64 x4.Val), (.fr, .int .i64 x4.At.A), (.fr, .int .i64 x4.At.B), (.fr, .int .i64 q79)]), (5, .v (.acc true) (.lst .row q80)), (6, .v .fr (.bool q81))] → x 0 e) :
    Ht Try.prog ⟨(Try.f126).ntmps, none, []⟩ fr (nav (bodyOf (Try.f126)) [1, 1, 1, 0, 1, 0]) [(0, .v .sh (.lst .row x3)), (3, .box [(.fr, .int .i64 x4.Key), (.fr, .int .i64 x4.Val), (.fr, .int .i64 x4.At.A), (.fr, .int .i64 x4.At.B), (.fr, .int .i64 x4.Diff)]), (5, .v (.acc true) (.lst .row [])), (6, .v .fr (.bool false)), (7, .v .fr (.int .i64 0))] n r x := by
  unfold spec_l2Put_c2_ob at hob
  refine Ht.weak (e' := (fun (s : Int × (List Row) × Bool × Int) => [(0, .v .sh (.lst .row x3)), (3, .box [(.fr, .int .i64 x4.Key), (.fr, .int .i64 x4.Val), (.fr, .int .i64 x4.At.A), (.fr, .int .i64 x4.At.B), (.fr, .int .i64 s.1)]), (5, .v (.acc true) (.lst .row s.2.1)), (6, .v .fr (.bool s.2.2.1)), (7, .v .fr (.int .i64 s.2.2.2))]) (x4.Diff, [], false, 0)) (Weak.cast (pat := [(0, .sh), (3, .same), (5, (.acc true)), (6, .fr), (7, .fr)]) (by kernel_rfl) (by kernel_rfl)) ?_
  refine Ht.loopOc (c1 := (nav (bodyOf (Try.f126)) [1, 1, 1, 0, 1, 0, 0])) (by kernel_rfl) (fun (s : Int × (List Row) × Bool × Int) => [(0, .v .sh (.lst .row x3)), (3, .box [(.fr, .int .i64 x4.Key), (.fr, .int .i64 x4.Val), (.fr, .int .i64 x4.At.A), (.fr, .int .i64 x4.At.B), (.fr, .int .i64 s.1)]), (5, .v (.acc true) (.lst .row s.2.1)), (6, .v .fr (.bool s.2.2.1)), (7, .v .fr (.int .i64 s.2.2.2))]) (fun (s : Int × (List Row) × Bool × Int) => spec_l2Put_c2_r x3 x4 s.1 s.2.1 s.2.2.1 s.2.2.2) hob (RP := fun q e => retAv tt e [.tmp 4] (.one (.acc true) (.lst .row)) = some (RT.av (.one (.acc true) (.lst .row)) q)) (XP := (fun i q e => i = 0 ∧ Weak e [(3, .box [(.fr, .int .i64 x4.Key), (.fr, .int .i64 x4.Val), (.fr, .int .i64 x4.At.A), (.fr, .int .i64 x4.At.B), (.fr, .int .i64 q.1)]), (5, .v (.acc true) (.lst .row q.2.1)), (6, .v .fr (.bool q.2.2))])) (YP := (fun _ _ _ => False)) (ZP := (fun _ _ _ => False)) (fun s hs => ?_) ?_ ?_ ?_ ?_
  · refine spec_l2Put_c2_r_ok G x3 x4 s.1 s.2.1 s.2.2.1 s.2.2.2 hs (fun q82 q83 q84 q85 h e hw => ⟨(q82, q83, q84, q85), h, hw⟩) (fun q h e he => ⟨q, h, he⟩) (fun q79 q80 q81 h e hw => .inl ⟨(q79, q80, q81), h, rfl, hw⟩)
  · exact fun q e h he => hr q h e he
  · rintro i q e h ⟨rfl, hw⟩
    exact hx q.1 q.2.1 q.2.2 h e hw
  · exact fun _ _ _ _ h => h.elim
  · exact fun _ _ _ _ h => h.elim


noncomputable def spec_l2Put_c1 (x1 : List Row) (x2 : Row) : Oc (Int × (List Row) × Bool) (List Row) Empty Empty Empty :=
  match (spec_l2Put_c2 x1 x2) with
  | .r q86 =>
    .r q86
  | .x (q88, q89, q90) =>
    .n (q88, q89, q90)
  | .n q => q.elim
  | .y q => q.elim
  | .z q => q.elim
def spec_l2Put_c1_ob (x1 : List Row) (x2 : Row) : Prop :=
  ((True)) ∧
  (spec_l2Put_c2_ob x1 x2) ∧
  (∀ (q88 : Int) (q89 : List Row) (q90 : Bool), (spec_l2Put_c2 x1 x2) = .x (q88, q89, q90) →
    True)
set_option maxRecDepth 100000 in
theorem spec_l2Put_c1_ok (G : Good Try.prog tt sp_spec_l2Put) {fr : Fr} (x1 : List Row) (x2 : Row) (hob : spec_l2Put_c1_ob x1 x2) {n r : Env → Prop} {x : Nat → Env → Prop}
    (hn : ∀ (q92 : Int) (q93 : List Row) (q94 : Bool), (spec_l2Put_c1 x1 x2) = .n (q92, q93, q94) → ∀ e, Weak e [(3, .box [(.fr, .int .i64 x2.Key), (.fr, .int .i64 x2.Val), (.fr, .int .i64 x2.At.A), (.fr, .int .i64 x2.At.B), (.fr, .int .i64 q92)]), (5, .v (.acc true) (.lst .row q93)), (6, .v .fr (.bool q94))] → n e)
    (hr : ∀ q, (spec_l2Put_c1 x1 x2) = .r q → ∀ e, retAv tt e [.tmp 4] (.one (.acc true) (.lst .row)) = some (RT.av (.one (.acc true) (.lst .row)) q) → r e) :
    Ht Try.prog ⟨(Try.f126).ntmps, none, []⟩ fr (nav (bodyOf (Try.f126)) [1, 1, 1, 0]) [(0, .v .sh (.lst .row x1)), (3, .box [(.fr, .int .i64 x2.Key), (.fr, .int .i64 x2.Val), (.fr, .int .i64 x2.At.A), (.fr, .int .i64 x2.At.B), (.fr, .int .i64 x2.Diff)]), (5, .v (.acc true) (.lst .row [])), (6, .v .fr (.bool false))] n r x := by
  unfold spec_l2Put_c1_ob at hob
  refine Ht.seq (c1 := (nav (bodyOf (Try.f126)) [1, 1, 1, 0, 0])) (c2 := (nav (bodyOf (Try.f126)) [1, 1, 1, 0, 1])) (by kernel_rfl) ?_
  refine Ht.reg G (keep := [0, 3, 5, 6, 7]) (e' := [(0, .v .sh (.lst .row x1)), (3, .box [(.fr, .int .i64 x2.Key), (.fr, .int .i64 x2.Val), (.fr, .int .i64 x2.At.A), (.fr, .int .i64 x2.At.B), (.fr, .int .i64 x2.Diff)]), (5, .v (.acc true) (.lst .row [])), (6, .v .fr (.bool false)), (7, .v .fr (.int .i64 0))]) (obs := []) (by kernel_rfl) hob.1 ?_
  refine Ht.block (id := 0) (c1 := (nav (bodyOf (Try.f126)) [1, 1, 1, 0, 1, 0])) (by kernel_rfl) ?_
  refine Ht.weak (e' := [(0, .v .sh (.lst .row x1)), (3, .box [(.fr, .int .i64 x2.Key), (.fr, .int .i64 x2.Val), (.fr, .int .i64 x2.At.A), (.fr, .int .i64 x2.At.B), (.fr, .int .i64 x2.Diff)]), (5, .v (.acc true) (.lst .row [])), (6, .v .fr (.bool false)), (7, .v .fr (.int .i64 0))]) (Weak.cast (pat := [(0, .same), (3, .same), (5, .same), (6, .same), (7, .same)]) (by kernel_rfl) (by kernel_rfl)) ?_
  refine spec_l2Put_c2_ok G x1 x2 hob.2.1 (fun q h87 e he => hr q (by simp only [spec_l2Put_c1, h87]) e he) (fun q88 q89 q90 h91 e hw => ?_)
  · have hb := hob.2.2 q88 q89 q90 h91
    exact hn q88 q89 q90 (by simp only [spec_l2Put_c1, h91]) e (hw.trans (Weak.cast (pat := [(3, .same), (5, (.acc true)), (6, .fr)]) (by kernel_rfl) (by kernel_rfl)))

noncomputable def spec_l2Put_c5 (x99 : Int) (x100 : Int) (x101 : Int) (x102 : Int) (x103 : Int) (x104 : List Row) (x105 : Bool) : Oc ((List Row)) (List Row) Empty Empty Empty :=
  match (!x105) with
  | true =>
    .n (x104 ++ [(Row.mk x99 x100 (Time.mk x101 x102) x103)])
  | false =>
    .n x104
def spec_l2Put_c5_ob (x99 : Int) (x100 : Int) (x101 : Int) (x102 : Int) (x103 : Int) (x104 : List Row) (x105 : Bool) : Prop :=
  ((True)) ∧
  ((!x105) = true →
    ((lim (lenI .row x104) (lenI .row [(Row.mk x99 x100 (Time.mk x101 x102) x103)])) ∧ (True)) ∧
    True) ∧ ((!x105) = false →
    True)
set_option maxRecDepth 100000 in
theorem spec_l2Put_c5_ok (G : Good Try.prog tt sp_spec_l2Put) {fr : Fr} (x99 : Int) (x100 : Int) (x101 : Int) (x102 : Int) (x103 : Int) (x104 : List Row) (x105 : Bool) (hob : spec_l2Put_c5_ob x99 x100 x101 x102 x103 x104 x105) {n r : Env → Prop} {x : Nat → Env → Prop}
    (hn : ∀ (q107 : List Row), (spec_l2Put_c5 x99 x100 x101 x102 x103 x104 x105) = .n q107 → ∀ e, Weak e [(5, .v (.acc true) (.lst .row q107))] → n e)
    (_hr : ∀ q, (spec_l2Put_c5 x99 x100 x101 x102 x103 x104 x105) = .r q → ∀ e, retAv tt e [.tmp 4] (.one (.acc true) (.lst .row)) = some (RT.av (.one (.acc true) (.lst .row)) q) → r e) :
    Ht Try.prog ⟨(Try.f126).ntmps, none, []⟩ fr (nav (bodyOf (Try.f126)) [1, 1, 1, 1, 0]) [(3, .box [(.fr, .int .i64 x99), (.fr, .int .i64 x100), (.fr, .int .i64 x101), (.fr, .int .i64 x102), (.fr, .int .i64 x103)]), (5, .v (.acc true) (.lst .row x104)), (6, .v .fr (.bool x105))] n r x := by
  unfold spec_l2Put_c5_ob at hob
  refine Ht.seq (c1 := (nav (bodyOf (Try.f126)) [1, 1, 1, 1, 0, 0])) (c2 := (nav (bodyOf (Try.f126)) [1, 1, 1, 1, 0, 1])) (by kernel_rfl) ?_
  refine Ht.reg G (keep := [3, 5, 59]) (e' := [(3, .box [(.fr, .int .i64 x99), (.fr, .int .i64 x100), (.fr, .int .i64 x101), (.fr, .int .i64 x102), (.fr, .int .i64 x103)]), (5, .v (.acc true) (.lst .row x104)), (59, .v .fr (.bool (!x105)))]) (obs := []) (by kernel_rfl) hob.1 ?_
  refine Ht.cond (o := .tmp 59) (c1 := (nav (bodyOf (Try.f126)) [1, 1, 1, 1, 0, 1, 0])) (c2 := (nav (bodyOf (Try.f126)) [1, 1, 1, 1, 0, 1, 1])) (b := (!x105)) (by kernel_rfl) (by kernel_rfl) (fun h106 => ?_) (fun h106 => ?_)
  · have hb := hob.2.1 h106
    refine Ht.reg G (keep := [5]) (e' := [(5, .v (.acc true) (.lst .row (x104 ++ [(Row.mk x99 x100 (Time.mk x101 x102) x103)])))]) (obs := [lim (lenI .row x104) (lenI .row [(Row.mk x99 x100 (Time.mk x101 x102) x103)])]) (by kernel_rfl) hb.1 ?_
    exact hn (x104 ++ [(Row.mk x99 x100 (Time.mk x101 x102) x103)]) (by simp only [spec_l2Put_c5, h106]) _ (Weak.cast (pat := [(5, (.acc true))]) (by kernel_rfl) (by kernel_rfl))
  · have hb := hob.2.2 h106
    refine Ht.skip (by kernel_rfl) ?_
    exact hn x104 (by simp only [spec_l2Put_c5, h106]) _ (Weak.cast (pat := [(5, (.acc true))]) (by kernel_rfl) (by kernel_rfl))

noncomputable def spec_l2Put_b (a0 : List Row) (a1 : Row) : Oc Empty (List Row) Empty Empty Empty :=
  match (spec_l2Put_c1 a0 a1) with
  | .n (q95, q96, q97) =>
    match (spec_l2Put_c5 a1.Key a1.Val a1.At.A a1.At.B q95 q96 q97) with
    | .n q108 =>
      .r q108
    | .r q110 =>
      .r q110
    | .x q => q.elim
    | .y q => q.elim
    | .z q => q.elim
  | .r q112 =>
    .r q112
  | .x q => q.elim
  | .y q => q.elim
  | .z q => q.elim
def spec_l2Put_b_ob (a0 : List Row) (a1 : Row) : Prop :=
  ((True)) ∧
  ((True)) ∧
  ((True)) ∧
  (spec_l2Put_c1_ob a0 a1) ∧
  (∀ (q95 : Int) (q96 : List Row) (q97 : Bool), (spec_l2Put_c1 a0 a1) = .n (q95, q96, q97) →
    (spec_l2Put_c5_ob a1.Key a1.Val a1.At.A a1.At.B q95 q96 q97) ∧
    (∀ (q108 : List Row), (spec_l2Put_c5 a1.Key a1.Val a1.At.A a1.At.B q95 q96 q97) = .n q108 →
      ((True)) ∧
      True))
set_option maxRecDepth 100000 in
theorem spec_l2Put_b_ok (G : Good Try.prog tt sp_spec_l2Put) {fr : Fr} (a0 : List Row) (a1 : Row) (hob : spec_l2Put_b_ob a0 a1) {n r : Env → Prop} {x : Nat → Env → Prop}
    (hr : ∀ q, (spec_l2Put_b a0 a1) = .r q → ∀ e, retAv tt e [.tmp 4] (.one (.acc true) (.lst .row)) = some (RT.av (.one (.acc true) (.lst .row)) q) → r e) :
    Ht Try.prog ⟨(Try.f126).ntmps, none, []⟩ fr (nav (bodyOf (Try.f126)) []) [(0, .v .sh (.lst .row a0)), (1, .agg true [.int .i64 a1.Key, .int .i64 a1.Val, .int .i64 a1.At.A, .int .i64 a1.At.B, .int .i64 a1.Diff])] n r x := by
  unfold spec_l2Put_b_ob at hob
  refine Ht.seq (c1 := (nav (bodyOf (Try.f126)) [0])) (c2 := (nav (bodyOf (Try.f126)) [1])) (by kernel_rfl) ?_
  refine Ht.reg G (keep := [0, 3]) (e' := [(0, .v .sh (.lst .row a0)), (3, .box [(.fr, .int .i64 a1.Key), (.fr, .int .i64 a1.Val), (.fr, .int .i64 a1.At.A), (.fr, .int .i64 a1.At.B), (.fr, .int .i64 a1.Diff)])]) (obs := []) (by kernel_rfl) hob.1 ?_
  refine Ht.seq (c1 := (nav (bodyOf (Try.f126)) [1, 0])) (c2 := (nav (bodyOf (Try.f126)) [1, 1])) (by kernel_rfl) ?_
  refine Ht.reg G (keep := [0, 3, 5]) (e' := [(0, .v .sh (.lst .row a0)), (3, .box [(.fr, .int .i64 a1.Key), (.fr, .int .i64 a1.Val), (.fr, .int .i64 a1.At.A), (.fr, .int .i64 a1.At.B), (.fr, .int .i64 a1.Diff)]), (5, .v (.acc true) (.lst .row []))]) (obs := []) (by kernel_rfl) hob.2.1 ?_
  refine Ht.seq (c1 := (nav (bodyOf (Try.f126)) [1, 1, 0])) (c2 := (nav (bodyOf (Try.f126)) [1, 1, 1])) (by kernel_rfl) ?_
  refine Ht.reg G (keep := [0, 3, 5, 6]) (e' := [(0, .v .sh (.lst .row a0)), (3, .box [(.fr, .int .i64 a1.Key), (.fr, .int .i64 a1.Val), (.fr, .int .i64 a1.At.A), (.fr, .int .i64 a1.At.B), (.fr, .int .i64 a1.Diff)]), (5, .v (.acc true) (.lst .row [])), (6, .v .fr (.bool false))]) (obs := []) (by kernel_rfl) hob.2.2.1 ?_
  refine Ht.seq (c1 := (nav (bodyOf (Try.f126)) [1, 1, 1, 0])) (c2 := (nav (bodyOf (Try.f126)) [1, 1, 1, 1])) (by kernel_rfl) ?_
  refine Ht.weak (e' := [(0, .v .sh (.lst .row a0)), (3, .box [(.fr, .int .i64 a1.Key), (.fr, .int .i64 a1.Val), (.fr, .int .i64 a1.At.A), (.fr, .int .i64 a1.At.B), (.fr, .int .i64 a1.Diff)]), (5, .v (.acc true) (.lst .row [])), (6, .v .fr (.bool false))]) (Weak.cast (pat := [(0, .same), (3, .same), (5, .same), (6, .same)]) (by kernel_rfl) (by kernel_rfl)) ?_
  refine spec_l2Put_c1_ok G a0 a1 hob.2.2.2.1 (fun q95 q96 q97 h98 e hw => ?_) (fun q h113 e he => hr q (by simp only [spec_l2Put_b, h113]) e he)
  · have hb := hob.2.2.2.2 q95 q96 q97 h98
    refine Ht.weak hw ?_
    refine Ht.seq (c1 := (nav (bodyOf (Try.f126)) [1, 1, 1, 1, 0])) (c2 := (nav (bodyOf (Try.f126)) [1, 1, 1, 1, 1])) (by kernel_rfl) ?_
    refine Ht.weak (e' := [(3, .box [(.fr, .int .i64 a1.Key), (.fr, .int .i64 a1.Val), (.fr, .int .i64 a1.At.A), (.fr, .int .i64 a1.At.B), (.fr, .int .i64 q95)]), (5, .v (.acc true) (.lst .row q96)), (6, .v .fr (.bool q97))]) (Weak.cast (pat := [(3, .same), (5, .same), (6, .same)]) (by kernel_rfl) (by kernel_rfl)) ?_
    refine spec_l2Put_c5_ok G a1.Key a1.Val a1.At.A a1.At.B q95 q96 q97 hb.1 (fun q108 h109 e hw => ?_) (fun q h111 e he => hr q (by simp only [spec_l2Put_b, h98, h111]) e he)
    · have hb := hb.2 q108 h109
      refine Ht.weak hw ?_
      refine Ht.seq (c1 := (nav (bodyOf (Try.f126)) [1, 1, 1, 1, 1, 0])) (c2 := (nav (bodyOf (Try.f126)) [1, 1, 1, 1, 1, 1])) (by kernel_rfl) ?_
      refine Ht.reg G (keep := [4]) (e' := [(4, .v (.acc true) (.lst .row q108))]) (obs := []) (by kernel_rfl) hb.1 ?_
      refine Ht.ret (by kernel_rfl) ?_
      exact hr q108 (by simp only [spec_l2Put_b, h98, h109]) _ (by kernel_rfl)

noncomputable def v_spec_l2Put (a0 : List Row) (a1 : Row) : List Row := ocR (spec_l2Put_b a0 a1)
def p_spec_l2Put (a0 : List Row) (a1 : Row) : Prop := spec_l2Put_b_ob a0 a1
noncomputable def s_spec_l2Put : Spec := ⟨[(.lst .row), (.st .row)], .one (.acc true) (.lst .row), false, fun x => (v_spec_l2Put x.1 x.2.1, 0), fun x => p_spec_l2Put x.1 x.2.1⟩
theorem con_spec_l2Put (G : Good Try.prog tt sp_spec_l2Put) : Con Try.prog 126 s_spec_l2Put :=
  con_of G.htt (fn := Try.f126) (c := bodyOf Try.f126) (by kernel_rfl) (by kernel_rfl) (by kernel_rfl) (rs := [.tmp 4]) (by kernel_rfl) (by kernel_rfl) (fun _ => rfl) fun x hp fr _ _ _ =>
    spec_l2Put_b_ok G (fr := fr) x.1 x.2.1 hp
      (fun q h e he => ⟨by rw [show (s_spec_l2Put.val x).1 = q from congrArg ocR h]; exact he, trivial⟩)

noncomputable def sp_spec_l2Sum : SP := [(126, s_spec_l2Put)]
noncomputable def spec_l2Sum_c2_r (x2 : List Row) (s6 : List Row) (s7 : Int) : Oc ((List Row) × Int) (List Row) ((List Row)) Empty Empty :=
  match (cmp .lss s7 (lenI .row x2)) with
  | true =>
    .n ((v_spec_l2Put s6 (rd .row x2 s7)), (ar .add .i64 s7 1))
  | false =>
    .x s6
def spec_l2Sum_c2_r_ob (x2 : List Row) (s6 : List Row) (s7 : Int) : Prop :=
  ((True)) ∧
  ((cmp .lss s7 (lenI .row x2)) = true →
    ((inb s7 (lenI .row x2)) ∧ ((p_spec_l2Put s6 (rd .row x2 s7))) ∧ (True)) ∧
    ((True)) ∧
    True) ∧ ((cmp .lss s7 (lenI .row x2)) = false →
    True)
set_option maxRecDepth 100000 in
theorem spec_l2Sum_c2_r_ok (G : Good Try.prog tt sp_spec_l2Sum) {fr : Fr} (x2 : List Row) (s6 : List Row) (s7 : Int) (hob : spec_l2Sum_c2_r_ob x2 s6 s7) {n r : Env → Prop} {x : Nat → Env → Prop}
    (hn : ∀ (q12 : List Row) (q13 : Int), (spec_l2Sum_c2_r x2 s6 s7) = .n (q12, q13) → ∀ e, Weak e [(0, .v .sh (.lst .row x2)), (3, .v (.acc true) (.lst .row q12)), (4, .v .fr (.int .i64 q13))] → n e)
    (_hr : ∀ q, (spec_l2Sum_c2_r x2 s6 s7) = .r q → ∀ e, retAv tt e [.tmp 2] (.one (.acc true) (.lst .row)) = some (RT.av (.one (.acc true) (.lst .row)) q) → r e)
    (hx : ∀ (q11 : List Row), (spec_l2Sum_c2_r x2 s6 s7) = .x q11 → ∀ e, Weak e [(3, .v (.acc true) (.lst .row q11))] → x 0 e) :
    Ht Try.prog ⟨(Try.f88).ntmps, none, []⟩ fr (nav (bodyOf (Try.f88)) [1, 1, 0, 1, 0, 0]) [(0, .v .sh (.lst .row x2)), (3, .v (.acc true) (.lst .row s6)), (4, .v .fr (.int .i64 s7))] n r x := by
  unfold spec_l2Sum_c2_r_ob at hob
  refine Ht.seq (c1 := (nav (bodyOf (Try.f88)) [1, 1, 0, 1, 0, 0, 0])) (c2 := (nav (bodyOf (Try.f88)) [1, 1, 0, 1, 0, 0, 1])) (by kernel_rfl) ?_
  refine Ht.seq (c1 := (nav (bodyOf (Try.f88)) [1, 1, 0, 1, 0, 0, 0, 0])) (c2 := (nav (bodyOf (Try.f88)) [1, 1, 0, 1, 0, 0, 0, 1])) (by kernel_rfl) ?_
  refine Ht.reg G (keep := [0, 3, 4, 11]) (e' := [(0, .v .sh (.lst .row x2)), (3, .v (.acc true) (.lst .row s6)), (4, .v .fr (.int .i64 s7)), (11, .v .fr (.bool (cmp .lss s7 (lenI .row x2))))]) (obs := []) (by kernel_rfl) hob.1 ?_
  refine Ht.cond (o := .tmp 11) (c1 := (nav (bodyOf (Try.f88)) [1, 1, 0, 1, 0, 0, 0, 1, 0])) (c2 := (nav (bodyOf (Try.f88)) [1, 1, 0, 1, 0, 0, 0, 1, 1])) (b := (cmp .lss s7 (lenI .row x2))) (by kernel_rfl) (by kernel_rfl) (fun h8 => ?_) (fun h8 => ?_)
  · have hb := hob.2.1 h8
    refine Ht.skip (by kernel_rfl) ?_
    refine Ht.seq (c1 := (nav (bodyOf (Try.f88)) [1, 1, 0, 1, 0, 0, 1, 0])) (c2 := (nav (bodyOf (Try.f88)) [1, 1, 0, 1, 0, 0, 1, 1])) (by kernel_rfl) ?_
    refine Ht.block (id := 1) (c1 := (nav (bodyOf (Try.f88)) [1, 1, 0, 1, 0, 0, 1, 0, 0])) (by kernel_rfl) ?_
    refine Ht.reg G (keep := [0, 3, 4]) (e' := [(0, .v .sh (.lst .row x2)), (3, .v (.acc true) (.lst .row (v_spec_l2Put s6 (rd .row x2 s7)))), (4, .v .fr (.int .i64 s7))]) (obs := [inb s7 (lenI .row x2), (p_spec_l2Put s6 (rd .row x2 s7))]) (by kernel_rfl) hb.1 ?_
    refine Ht.reg G (keep := [0, 3, 4]) (e' := [(0, .v .sh (.lst .row x2)), (3, .v (.acc true) (.lst .row (v_spec_l2Put s6 (rd .row x2 s7)))), (4, .v .fr (.int .i64 (ar .add .i64 s7 1)))]) (obs := []) (by kernel_rfl) hb.2.1 ?_
    exact hn (v_spec_l2Put s6 (rd .row x2 s7)) (ar .add .i64 s7 1) (by simp only [spec_l2Sum_c2_r, h8]) _ (Weak.cast (pat := [(0, .sh), (3, (.acc true)), (4, .fr)]) (by kernel_rfl) (by kernel_rfl))
  · have hb := hob.2.2 h8
    refine Ht.exit (i := 0) (by kernel_rfl) ?_
    exact hx s6 (by simp only [spec_l2Sum_c2_r, h8]) _ (Weak.cast (pat := [(3, (.acc true))]) (by kernel_rfl) (by kernel_rfl))

noncomputable def spec_l2Sum_c2 (x2 : List Row) : Oc Empty (List Row) ((List Row)) Empty Empty := lpV (fun s => ocLp ((fun (s : (List Row) × Int) => spec_l2Sum_c2_r x2 s.1 s.2) s)) ([], 0)
def spec_l2Sum_c2_ob (x2 : List Row) : Prop := LpT (fun s => ocLp ((fun (s : (List Row) × Int) => spec_l2Sum_c2_r x2 s.1 s.2) s)) (fun s => spec_l2Sum_c2_r_ob x2 s.1 s.2) ([], 0)
set_option maxRecDepth 100000 in
theorem spec_l2Sum_c2_ok (G : Good Try.prog tt sp_spec_l2Sum) {fr : Fr} (x2 : List Row) (hob : spec_l2Sum_c2_ob x2) {n r : Env → Prop} {x : Nat → Env → Prop}
    (hr : ∀ q, (spec_l2Sum_c2 x2) = .r q → ∀ e, retAv tt e [.tmp 2] (.one (.acc true) (.lst .row)) = some (RT.av (.one (.acc true) (.lst .row)) q) → r e)
    (hx : ∀ (q11 : List Row), (spec_l2Sum_c2 x2) = .x q11 → ∀ e, Weak e [(3, .v (.acc true) (.lst .row q11))] → x 0 e) :
    Ht Try.prog ⟨(Try.f88).ntmps, none, []⟩ fr (nav (bodyOf (Try.f88)) [1, 1, 0, 1, 0]) [(0, .v .sh (.lst .row x2)), (3, .v (.acc true) (.lst .row [])), (4, .v .fr (.int .i64 0))] n r x := by
  unfold spec_l2Sum_c2_ob at hob
  refine Ht.weak (e' := (fun (s : (List Row) × Int) => [(0, .v .sh (.lst .row x2)), (3, .v (.acc true) (.lst .row s.1)), (4, .v .fr (.int .i64 s.2))]) ([], 0)) (Weak.cast (pat := [(0, .sh), (3, (.acc true)), (4, .fr)]) (by kernel_rfl) (by kernel_rfl)) ?_
  refine Ht.loopOc (c1 := (nav (bodyOf (Try.f88)) [1, 1, 0, 1, 0, 0])) (by kernel_rfl) (fun (s : (List Row) × Int) => [(0, .v .sh (.lst .row x2)), (3, .v (.acc true) (.lst .row s.1)), (4, .v .fr (.int .i64 s.2))]) (fun (s : (List Row) × Int) => spec_l2Sum_c2_r x2 s.1 s.2) hob (RP := fun q e => retAv tt e [.tmp 2] (.one (.acc true) (.lst .row)) = some (RT.av (.one (.acc true) (.lst .row)) q)) (XP := (fun i q e => i = 0 ∧ Weak e [(3, .v (.acc true) (.lst .row q))])) (YP := (fun _ _ _ => False)) (ZP := (fun _ _ _ => False)) (fun s hs => ?_) ?_ ?_ ?_ ?_
  · refine spec_l2Sum_c2_r_ok G x2 s.1 s.2 hs (fun q12 q13 h e hw => ⟨(q12, q13), h, hw⟩) (fun q h e he => ⟨q, h, he⟩) (fun q11 h e hw => .inl ⟨q11, h, rfl, hw⟩)
  · exact fun q e h he => hr q h e he
  · rintro i q e h ⟨rfl, hw⟩
    exact hx q h e hw
  · exact fun _ _ _ _ h => h.elim
  · exact fun _ _ _ _ h => h.elim


noncomputable def spec_l2Sum_c1 (x1 : List Row) : Oc ((List Row)) (List Row) Empty Empty Empty :=
  match (spec_l2Sum_c2 x1) with
  | .r q14 =>
    .r q14
  | .x q16 =>
    .n q16
  | .n q => q.elim
  | .y q => q.elim
  | .z q => q.elim
def spec_l2Sum_c1_ob (x1 : List Row) : Prop :=
  ((True)) ∧
  (spec_l2Sum_c2_ob x1) ∧
  (∀ (q16 : List Row), (spec_l2Sum_c2 x1) = .x q16 →
    True)
set_option maxRecDepth 100000 in
theorem spec_l2Sum_c1_ok (G : Good Try.prog tt sp_spec_l2Sum) {fr : Fr} (x1 : List Row) (hob : spec_l2Sum_c1_ob x1) {n r : Env → Prop} {x : Nat → Env → Prop}
    (hn : ∀ (q18 : List Row), (spec_l2Sum_c1 x1) = .n q18 → ∀ e, Weak e [(3, .v (.acc true) (.lst .row q18))] → n e)
    (hr : ∀ q, (spec_l2Sum_c1 x1) = .r q → ∀ e, retAv tt e [.tmp 2] (.one (.acc true) (.lst .row)) = some (RT.av (.one (.acc true) (.lst .row)) q) → r e) :
    Ht Try.prog ⟨(Try.f88).ntmps, none, []⟩ fr (nav (bodyOf (Try.f88)) [1, 1, 0]) [(0, .v .sh (.lst .row x1)), (3, .v (.acc true) (.lst .row []))] n r x := by
  unfold spec_l2Sum_c1_ob at hob
  refine Ht.seq (c1 := (nav (bodyOf (Try.f88)) [1, 1, 0, 0])) (c2 := (nav (bodyOf (Try.f88)) [1, 1, 0, 1])) (by kernel_rfl) ?_
  refine Ht.reg G (keep := [0, 3, 4]) (e' := [(0, .v .sh (.lst .row x1)), (3, .v (.acc true) (.lst .row [])), (4, .v .fr (.int .i64 0))]) (obs := []) (by kernel_rfl) hob.1 ?_
  refine Ht.block (id := 0) (c1 := (nav (bodyOf (Try.f88)) [1, 1, 0, 1, 0])) (by kernel_rfl) ?_
  refine Ht.weak (e' := [(0, .v .sh (.lst .row x1)), (3, .v (.acc true) (.lst .row [])), (4, .v .fr (.int .i64 0))]) (Weak.cast (pat := [(0, .same), (3, .same), (4, .same)]) (by kernel_rfl) (by kernel_rfl)) ?_
  refine spec_l2Sum_c2_ok G x1 hob.2.1 (fun q h15 e he => hr q (by simp only [spec_l2Sum_c1, h15]) e he) (fun q16 h17 e hw => ?_)
  · have hb := hob.2.2 q16 h17
    exact hn q16 (by simp only [spec_l2Sum_c1, h17]) e (hw.trans (Weak.cast (pat := [(3, (.acc true))]) (by kernel_rfl) (by kernel_rfl)))

noncomputable def spec_l2Sum_c5 (x36 : List Row) (x37 : List Row) (x38 : Int) : Oc ((List Row)) (List Row) Empty Empty Empty :=
  match (cmp .neq (rd .row x36 x38).Diff 0) with
  | true =>
    .n (x37 ++ [(rd .row x36 x38)])
  | false =>
    .n x37
def spec_l2Sum_c5_ob (x36 : List Row) (x37 : List Row) (x38 : Int) : Prop :=
  ((inb x38 (lenI .row x36)) ∧ (True)) ∧
  ((cmp .neq (rd .row x36 x38).Diff 0) = true →
    ((inb x38 (lenI .row x36)) ∧ (lim (lenI .row x37) (lenI .row [(rd .row x36 x38)])) ∧ (True)) ∧
    True) ∧ ((cmp .neq (rd .row x36 x38).Diff 0) = false →
    True)
set_option maxRecDepth 100000 in
theorem spec_l2Sum_c5_ok (G : Good Try.prog tt sp_spec_l2Sum) {fr : Fr} (x36 : List Row) (x37 : List Row) (x38 : Int) (hob : spec_l2Sum_c5_ob x36 x37 x38) {n r : Env → Prop} {x : Nat → Env → Prop}
    (hn : ∀ (q40 : List Row), (spec_l2Sum_c5 x36 x37 x38) = .n q40 → ∀ e, Weak e [(3, .v (.acc true) (.lst .row x36)), (5, .v (.acc true) (.lst .row q40)), (6, .v .fr (.int .i64 x38))] → n e)
    (_hr : ∀ q, (spec_l2Sum_c5 x36 x37 x38) = .r q → ∀ e, retAv tt e [.tmp 2] (.one (.acc true) (.lst .row)) = some (RT.av (.one (.acc true) (.lst .row)) q) → r e) :
    Ht Try.prog ⟨(Try.f88).ntmps, none, []⟩ fr (nav (bodyOf (Try.f88)) [1, 1, 1, 1, 0, 1, 0, 0, 1, 0]) [(3, .v (.acc true) (.lst .row x36)), (5, .v (.acc true) (.lst .row x37)), (6, .v .fr (.int .i64 x38))] n r x := by
  unfold spec_l2Sum_c5_ob at hob
  refine Ht.block (id := 3) (c1 := (nav (bodyOf (Try.f88)) [1, 1, 1, 1, 0, 1, 0, 0, 1, 0, 0])) (by kernel_rfl) ?_
  refine Ht.seq (c1 := (nav (bodyOf (Try.f88)) [1, 1, 1, 1, 0, 1, 0, 0, 1, 0, 0, 0])) (c2 := (nav (bodyOf (Try.f88)) [1, 1, 1, 1, 0, 1, 0, 0, 1, 0, 0, 1])) (by kernel_rfl) ?_
  refine Ht.reg G (keep := [3, 5, 6, 32]) (e' := [(3, .v (.acc true) (.lst .row x36)), (5, .v (.acc true) (.lst .row x37)), (6, .v .fr (.int .i64 x38)), (32, .v .fr (.bool (cmp .neq (rd .row x36 x38).Diff 0)))]) (obs := [inb x38 (lenI .row x36)]) (by kernel_rfl) hob.1 ?_
  refine Ht.cond (o := .tmp 32) (c1 := (nav (bodyOf (Try.f88)) [1, 1, 1, 1, 0, 1, 0, 0, 1, 0, 0, 1, 0])) (c2 := (nav (bodyOf (Try.f88)) [1, 1, 1, 1, 0, 1, 0, 0, 1, 0, 0, 1, 1])) (b := (cmp .neq (rd .row x36 x38).Diff 0)) (by kernel_rfl) (by kernel_rfl) (fun h39 => ?_) (fun h39 => ?_)
  · have hb := hob.2.1 h39
    refine Ht.reg G (keep := [3, 5, 6]) (e' := [(3, .v (.acc true) (.lst .row x36)), (5, .v (.acc true) (.lst .row (x37 ++ [(rd .row x36 x38)]))), (6, .v .fr (.int .i64 x38))]) (obs := [inb x38 (lenI .row x36), lim (lenI .row x37) (lenI .row [(rd .row x36 x38)])]) (by kernel_rfl) hb.1 ?_
    exact hn (x37 ++ [(rd .row x36 x38)]) (by simp only [spec_l2Sum_c5, h39]) _ (Weak.cast (pat := [(3, (.acc true)), (5, (.acc true)), (6, .fr)]) (by kernel_rfl) (by kernel_rfl))
  · have hb := hob.2.2 h39
    refine Ht.skip (by kernel_rfl) ?_
    exact hn x37 (by simp only [spec_l2Sum_c5, h39]) _ (Weak.cast (pat := [(3, (.acc true)), (5, (.acc true)), (6, .fr)]) (by kernel_rfl) (by kernel_rfl))

noncomputable def spec_l2Sum_c4_r (x22 : List Row) (s33 : List Row) (s34 : Int) : Oc ((List Row) × Int) (List Row) ((List Row)) Empty Empty :=
  match (cmp .lss s34 (lenI .row x22)) with
  | true =>
    match (spec_l2Sum_c5 x22 s33 s34) with
    | .n q41 =>
      .n (q41, (ar .add .i64 s34 1))
    | .r q43 =>
      .r q43
    | .x q => q.elim
    | .y q => q.elim
    | .z q => q.elim
  | false =>
    .x s33
def spec_l2Sum_c4_r_ob (x22 : List Row) (s33 : List Row) (s34 : Int) : Prop :=
  ((True)) ∧
  ((cmp .lss s34 (lenI .row x22)) = true →
    (spec_l2Sum_c5_ob x22 s33 s34) ∧
    (∀ (q41 : List Row), (spec_l2Sum_c5 x22 s33 s34) = .n q41 →
      ((True)) ∧
      True)) ∧ ((cmp .lss s34 (lenI .row x22)) = false →
    True)
set_option maxRecDepth 100000 in
theorem spec_l2Sum_c4_r_ok (G : Good Try.prog tt sp_spec_l2Sum) {fr : Fr} (x22 : List Row) (s33 : List Row) (s34 : Int) (hob : spec_l2Sum_c4_r_ob x22 s33 s34) {n r : Env → Prop} {x : Nat → Env → Prop}
    (hn : ∀ (q48 : List Row) (q49 : Int), (spec_l2Sum_c4_r x22 s33 s34) = .n (q48, q49) → ∀ e, Weak e [(3, .v (.acc true) (.lst .row x22)), (5, .v (.acc true) (.lst .row q48)), (6, .v .fr (.int .i64 q49))] → n e)
    (hr : ∀ q, (spec_l2Sum_c4_r x22 s33 s34) = .r q → ∀ e, retAv tt e [.tmp 2] (.one (.acc true) (.lst .row)) = some (RT.av (.one (.acc true) (.lst .row)) q) → r e)
    (hx : ∀ (q47 : List Row), (spec_l2Sum_c4_r x22 s33 s34) = .x q47 → ∀ e, Weak e [(5, .v (.acc true) (.lst .row q47))] → x 2 e) :
    Ht Try.prog ⟨(Try.f88).ntmps, none, []⟩ fr (nav (bodyOf (Try.f88)) [1, 1, 1, 1, 0, 1, 0, 0]) [(3, .v (.acc true) (.lst .row x22)), (5, .v (.acc true) (.lst .row s33)), (6, .v .fr (.int .i64 s34))] n r x := by
  unfold spec_l2Sum_c4_r_ob at hob
  refine Ht.seq (c1 := (nav (bodyOf (Try.f88)) [1, 1, 1, 1, 0, 1, 0, 0, 0])) (c2 := (nav (bodyOf (Try.f88)) [1, 1, 1, 1, 0, 1, 0, 0, 1])) (by kernel_rfl) ?_
  refine Ht.seq (c1 := (nav (bodyOf (Try.f88)) [1, 1, 1, 1, 0, 1, 0, 0, 0, 0])) (c2 := (nav (bodyOf (Try.f88)) [1, 1, 1, 1, 0, 1, 0, 0, 0, 1])) (by kernel_rfl) ?_
  refine Ht.reg G (keep := [3, 5, 6, 24]) (e' := [(3, .v (.acc true) (.lst .row x22)), (5, .v (.acc true) (.lst .row s33)), (6, .v .fr (.int .i64 s34)), (24, .v .fr (.bool (cmp .lss s34 (lenI .row x22))))]) (obs := []) (by kernel_rfl) hob.1 ?_
  refine Ht.cond (o := .tmp 24) (c1 := (nav (bodyOf (Try.f88)) [1, 1, 1, 1, 0, 1, 0, 0, 0, 1, 0])) (c2 := (nav (bodyOf (Try.f88)) [1, 1, 1, 1, 0, 1, 0, 0, 0, 1, 1])) (b := (cmp .lss s34 (lenI .row x22))) (by kernel_rfl) (by kernel_rfl) (fun h35 => ?_) (fun h35 => ?_)
  · have hb := hob.2.1 h35
    refine Ht.skip (by kernel_rfl) ?_
    refine Ht.seq (c1 := (nav (bodyOf (Try.f88)) [1, 1, 1, 1, 0, 1, 0, 0, 1, 0])) (c2 := (nav (bodyOf (Try.f88)) [1, 1, 1, 1, 0, 1, 0, 0, 1, 1])) (by kernel_rfl) ?_
    refine Ht.weak (e' := [(3, .v (.acc true) (.lst .row x22)), (5, .v (.acc true) (.lst .row s33)), (6, .v .fr (.int .i64 s34))]) (Weak.cast (pat := [(3, .same), (5, .same), (6, .same)]) (by kernel_rfl) (by kernel_rfl)) ?_
    refine spec_l2Sum_c5_ok G x22 s33 s34 hb.1 (fun q41 h42 e hw => ?_) (fun q h44 e he => hr q (by simp only [spec_l2Sum_c4_r, h35, h44]) e he)
    · have hb := hb.2 q41 h42
      refine Ht.weak hw ?_
      refine Ht.reg G (keep := [3, 5, 6]) (e' := [(3, .v (.acc true) (.lst .row x22)), (5, .v (.acc true) (.lst .row q41)), (6, .v .fr (.int .i64 (ar .add .i64 s34 1)))]) (obs := []) (by kernel_rfl) hb.1 ?_
      exact hn q41 (ar .add .i64 s34 1) (by simp only [spec_l2Sum_c4_r, h35, h42]) _ (Weak.cast (pat := [(3, (.acc true)), (5, (.acc true)), (6, .fr)]) (by kernel_rfl) (by kernel_rfl))
  · have hb := hob.2.2 h35
    refine Ht.exit (i := 2) (by kernel_rfl) ?_
    exact hx s33 (by simp only [spec_l2Sum_c4_r, h35]) _ (Weak.cast (pat := [(5, (.acc true))]) (by kernel_rfl) (by kernel_rfl))

noncomputable def spec_l2Sum_c4 (x22 : List Row) : Oc Empty (List Row) ((List Row)) Empty Empty := lpV (fun s => ocLp ((fun (s : (List Row) × Int) => spec_l2Sum_c4_r x22 s.1 s.2) s)) ([], 0)
def spec_l2Sum_c4_ob (x22 : List Row) : Prop := LpT (fun s => ocLp ((fun (s : (List Row) × Int) => spec_l2Sum_c4_r x22 s.1 s.2) s)) (fun s => spec_l2Sum_c4_r_ob x22 s.1 s.2) ([], 0)
set_option maxRecDepth 100000 in
theorem spec_l2Sum_c4_ok (G : Good Try.prog tt sp_spec_l2Sum) {fr : Fr} (x22 : List Row) (hob : spec_l2Sum_c4_ob x22) {n r : Env → Prop} {x : Nat → Env → Prop}
    (hr : ∀ q, (spec_l2Sum_c4 x22) = .r q → ∀ e, retAv tt e [.tmp 2] (.one (.acc true) (.lst .row)) = some (RT.av (.one (.acc true) (.lst .row)) q) → r e)
    (hx : ∀ (q47 : List Row), (spec_l2Sum_c4 x22) = .x q47 → ∀ e, Weak e [(5, .v (.acc true) (.lst .row q47))] → x 2 e) :
    Ht Try.prog ⟨(Try.f88).ntmps, none, []⟩ fr (nav (bodyOf (Try.f88)) [1, 1, 1, 1, 0, 1, 0]) [(3, .v (.acc true) (.lst .row x22)), (5, .v (.acc true) (.lst .row [])), (6, .v .fr (.int .i64 0))] n r x := by
  unfold spec_l2Sum_c4_ob at hob
  refine Ht.weak (e' := (fun (s : (List Row) × Int) => [(3, .v (.acc true) (.lst .row x22)), (5, .v (.acc true) (.lst .row s.1)), (6, .v .fr (.int .i64 s.2))]) ([], 0)) (Weak.cast (pat := [(3, (.acc true)), (5, (.acc true)), (6, .fr)]) (by kernel_rfl) (by kernel_rfl)) ?_
  refine Ht.loopOc (c1 := (nav (bodyOf (Try.f88)) [1, 1, 1, 1, 0, 1, 0, 0])) (by kernel_rfl) (fun (s : (List Row) × Int) => [(3, .v (.acc true) (.lst .row x22)), (5, .v (.acc true) (.lst .row s.1)), (6, .v .fr (.int .i64 s.2))]) (fun (s : (List Row) × Int) => spec_l2Sum_c4_r x22 s.1 s.2) hob (RP := fun q e => retAv tt e [.tmp 2] (.one (.acc true) (.lst .row)) = some (RT.av (.one (.acc true) (.lst .row)) q)) (XP := (fun i q e => i = 2 ∧ Weak e [(5, .v (.acc true) (.lst .row q))])) (YP := (fun _ _ _ => False)) (ZP := (fun _ _ _ => False)) (fun s hs => ?_) ?_ ?_ ?_ ?_
  · refine spec_l2Sum_c4_r_ok G x22 s.1 s.2 hs (fun q48 q49 h e hw => ⟨(q48, q49), h, hw⟩) (fun q h e he => ⟨q, h, he⟩) (fun q47 h e hw => .inl ⟨q47, h, rfl, hw⟩)
  · exact fun q e h he => hr q h e he
  · rintro i q e h ⟨rfl, hw⟩
    exact hx q h e hw
  · exact fun _ _ _ _ h => h.elim
  · exact fun _ _ _ _ h => h.elim


noncomputable def spec_l2Sum_c3 (x21 : List Row) : Oc ((List Row)) (List Row) Empty Empty Empty :=
  match (spec_l2Sum_c4 x21) with
  | .r q50 =>
    .r q50
  | .x q52 =>
    .n q52
  | .n q => q.elim
  | .y q => q.elim
  | .z q => q.elim
def spec_l2Sum_c3_ob (x21 : List Row) : Prop :=
  ((True)) ∧
  (spec_l2Sum_c4_ob x21) ∧
  (∀ (q52 : List Row), (spec_l2Sum_c4 x21) = .x q52 →
    True)
set_option maxRecDepth 100000 in
theorem spec_l2Sum_c3_ok (G : Good Try.prog tt sp_spec_l2Sum) {fr : Fr} (x21 : List Row) (hob : spec_l2Sum_c3_ob x21) {n r : Env → Prop} {x : Nat → Env → Prop}
    (hn : ∀ (q54 : List Row), (spec_l2Sum_c3 x21) = .n q54 → ∀ e, Weak e [(5, .v (.acc true) (.lst .row q54))] → n e)
    (hr : ∀ q, (spec_l2Sum_c3 x21) = .r q → ∀ e, retAv tt e [.tmp 2] (.one (.acc true) (.lst .row)) = some (RT.av (.one (.acc true) (.lst .row)) q) → r e) :
    Ht Try.prog ⟨(Try.f88).ntmps, none, []⟩ fr (nav (bodyOf (Try.f88)) [1, 1, 1, 1, 0]) [(3, .v (.acc true) (.lst .row x21)), (5, .v (.acc true) (.lst .row []))] n r x := by
  unfold spec_l2Sum_c3_ob at hob
  refine Ht.seq (c1 := (nav (bodyOf (Try.f88)) [1, 1, 1, 1, 0, 0])) (c2 := (nav (bodyOf (Try.f88)) [1, 1, 1, 1, 0, 1])) (by kernel_rfl) ?_
  refine Ht.reg G (keep := [3, 5, 6]) (e' := [(3, .v (.acc true) (.lst .row x21)), (5, .v (.acc true) (.lst .row [])), (6, .v .fr (.int .i64 0))]) (obs := []) (by kernel_rfl) hob.1 ?_
  refine Ht.block (id := 2) (c1 := (nav (bodyOf (Try.f88)) [1, 1, 1, 1, 0, 1, 0])) (by kernel_rfl) ?_
  refine Ht.weak (e' := [(3, .v (.acc true) (.lst .row x21)), (5, .v (.acc true) (.lst .row [])), (6, .v .fr (.int .i64 0))]) (Weak.cast (pat := [(3, .same), (5, .same), (6, .same)]) (by kernel_rfl) (by kernel_rfl)) ?_
  refine spec_l2Sum_c4_ok G x21 hob.2.1 (fun q h51 e he => hr q (by simp only [spec_l2Sum_c3, h51]) e he) (fun q52 h53 e hw => ?_)
  · have hb := hob.2.2 q52 h53
    exact hn q52 (by simp only [spec_l2Sum_c3, h53]) e (hw.trans (Weak.cast (pat := [(5, (.acc true))]) (by kernel_rfl) (by kernel_rfl)))

noncomputable def spec_l2Sum_b (a0 : List Row) : Oc Empty (List Row) Empty Empty Empty :=
  match (spec_l2Sum_c1 a0) with
  | .n q19 =>
    match (spec_l2Sum_c3 q19) with
    | .n q55 =>
      .r q55
    | .r q57 =>
      .r q57
    | .x q => q.elim
    | .y q => q.elim
    | .z q => q.elim
  | .r q59 =>
    .r q59
  | .x q => q.elim
  | .y q => q.elim
  | .z q => q.elim
def spec_l2Sum_b_ob (a0 : List Row) : Prop :=
  ((True)) ∧
  ((True)) ∧
  (spec_l2Sum_c1_ob a0) ∧
  (∀ (q19 : List Row), (spec_l2Sum_c1 a0) = .n q19 →
    ((True)) ∧
    (spec_l2Sum_c3_ob q19) ∧
    (∀ (q55 : List Row), (spec_l2Sum_c3 q19) = .n q55 →
      ((True)) ∧
      True))
set_option maxRecDepth 100000 in
theorem spec_l2Sum_b_ok (G : Good Try.prog tt sp_spec_l2Sum) {fr : Fr} (a0 : List Row) (hob : spec_l2Sum_b_ob a0) {n r : Env → Prop} {x : Nat → Env → Prop}
    (hr : ∀ q, (spec_l2Sum_b a0) = .r q → ∀ e, retAv tt e [.tmp 2] (.one (.acc true) (.lst .row)) = some (RT.av (.one (.acc true) (.lst .row)) q) → r e) :
    Ht Try.prog ⟨(Try.f88).ntmps, none, []⟩ fr (nav (bodyOf (Try.f88)) []) [(0, .v .sh (.lst .row a0))] n r x := by
  unfold spec_l2Sum_b_ob at hob
  refine Ht.seq (c1 := (nav (bodyOf (Try.f88)) [0])) (c2 := (nav (bodyOf (Try.f88)) [1])) (by kernel_rfl) ?_
  refine Ht.reg G (keep := [0]) (e' := [(0, .v .sh (.lst .row a0))]) (obs := []) (by kernel_rfl) hob.1 ?_
  refine Ht.seq (c1 := (nav (bodyOf (Try.f88)) [1, 0])) (c2 := (nav (bodyOf (Try.f88)) [1, 1])) (by kernel_rfl) ?_
  refine Ht.reg G (keep := [0, 3]) (e' := [(0, .v .sh (.lst .row a0)), (3, .v (.acc true) (.lst .row []))]) (obs := []) (by kernel_rfl) hob.2.1 ?_
  refine Ht.seq (c1 := (nav (bodyOf (Try.f88)) [1, 1, 0])) (c2 := (nav (bodyOf (Try.f88)) [1, 1, 1])) (by kernel_rfl) ?_
  refine Ht.weak (e' := [(0, .v .sh (.lst .row a0)), (3, .v (.acc true) (.lst .row []))]) (Weak.cast (pat := [(0, .same), (3, .same)]) (by kernel_rfl) (by kernel_rfl)) ?_
  refine spec_l2Sum_c1_ok G a0 hob.2.2.1 (fun q19 h20 e hw => ?_) (fun q h60 e he => hr q (by simp only [spec_l2Sum_b, h60]) e he)
  · have hb := hob.2.2.2 q19 h20
    refine Ht.weak hw ?_
    refine Ht.seq (c1 := (nav (bodyOf (Try.f88)) [1, 1, 1, 0])) (c2 := (nav (bodyOf (Try.f88)) [1, 1, 1, 1])) (by kernel_rfl) ?_
    refine Ht.reg G (keep := [3, 5]) (e' := [(3, .v (.acc true) (.lst .row q19)), (5, .v (.acc true) (.lst .row []))]) (obs := []) (by kernel_rfl) hb.1 ?_
    refine Ht.seq (c1 := (nav (bodyOf (Try.f88)) [1, 1, 1, 1, 0])) (c2 := (nav (bodyOf (Try.f88)) [1, 1, 1, 1, 1])) (by kernel_rfl) ?_
    refine Ht.weak (e' := [(3, .v (.acc true) (.lst .row q19)), (5, .v (.acc true) (.lst .row []))]) (Weak.cast (pat := [(3, .same), (5, .same)]) (by kernel_rfl) (by kernel_rfl)) ?_
    refine spec_l2Sum_c3_ok G q19 hb.2.1 (fun q55 h56 e hw => ?_) (fun q h58 e he => hr q (by simp only [spec_l2Sum_b, h20, h58]) e he)
    · have hb := hb.2.2 q55 h56
      refine Ht.weak hw ?_
      refine Ht.seq (c1 := (nav (bodyOf (Try.f88)) [1, 1, 1, 1, 1, 0])) (c2 := (nav (bodyOf (Try.f88)) [1, 1, 1, 1, 1, 1])) (by kernel_rfl) ?_
      refine Ht.reg G (keep := [2]) (e' := [(2, .v (.acc true) (.lst .row q55))]) (obs := []) (by kernel_rfl) hb.1 ?_
      refine Ht.ret (by kernel_rfl) ?_
      exact hr q55 (by simp only [spec_l2Sum_b, h20, h56]) _ (by kernel_rfl)

noncomputable def v_spec_l2Sum (a0 : List Row) : List Row := ocR (spec_l2Sum_b a0)
def p_spec_l2Sum (a0 : List Row) : Prop := spec_l2Sum_b_ob a0
noncomputable def s_spec_l2Sum : Spec := ⟨[(.lst .row)], .one (.acc true) (.lst .row), false, fun x => (v_spec_l2Sum x.1, 0), fun x => p_spec_l2Sum x.1⟩
theorem con_spec_l2Sum (G : Good Try.prog tt sp_spec_l2Sum) : Con Try.prog 88 s_spec_l2Sum :=
  con_of G.htt (fn := Try.f88) (c := bodyOf Try.f88) (by kernel_rfl) (by kernel_rfl) (by kernel_rfl) (rs := [.tmp 2]) (by kernel_rfl) (by kernel_rfl) (fun _ => rfl) fun x hp fr _ _ _ =>
    spec_l2Sum_b_ok G (fr := fr) x.1 hp
      (fun q h e he => ⟨by rw [show (s_spec_l2Sum.val x).1 = q from congrArg ocR h]; exact he, trivial⟩)

noncomputable def sp_spec_l2Items : SP := [(88, s_spec_l2Sum)]
noncomputable def spec_l2Items_c2_r (x2 : List Item) (s6 : List Row) (s7 : Int) : Oc ((List Row) × Int) (List Item) ((List Row)) Empty Empty :=
  match (cmp .lss s7 (lenI .item x2)) with
  | true =>
    .n ((s6 ++ [(Row.mk (rd .item x2 s7).Key (rd .item x2 s7).Val (Time.mk 0 0) (rd .item x2 s7).Count)]), (ar .add .i64 s7 1))
  | false =>
    .x s6
def spec_l2Items_c2_r_ob (x2 : List Item) (s6 : List Row) (s7 : Int) : Prop :=
  ((True)) ∧
  ((cmp .lss s7 (lenI .item x2)) = true →
    ((inb s7 (lenI .item x2)) ∧ (inb s7 (lenI .item x2)) ∧ (inb s7 (lenI .item x2)) ∧ (lim (lenI .row s6) (lenI .row [(Row.mk (rd .item x2 s7).Key (rd .item x2 s7).Val (Time.mk 0 0) (rd .item x2 s7).Count)])) ∧ (True)) ∧
    ((True)) ∧
    True) ∧ ((cmp .lss s7 (lenI .item x2)) = false →
    True)
set_option maxRecDepth 100000 in
theorem spec_l2Items_c2_r_ok (G : Good Try.prog tt sp_spec_l2Items) {fr : Fr} (x2 : List Item) (s6 : List Row) (s7 : Int) (hob : spec_l2Items_c2_r_ob x2 s6 s7) {n r : Env → Prop} {x : Nat → Env → Prop}
    (hn : ∀ (q12 : List Row) (q13 : Int), (spec_l2Items_c2_r x2 s6 s7) = .n (q12, q13) → ∀ e, Weak e [(0, .v .sh (.lst .item x2)), (3, .v (.acc true) (.lst .row q12)), (4, .v .fr (.int .i64 q13))] → n e)
    (_hr : ∀ q, (spec_l2Items_c2_r x2 s6 s7) = .r q → ∀ e, retAv tt e [.tmp 2] (.one (.acc true) (.lst .item)) = some (RT.av (.one (.acc true) (.lst .item)) q) → r e)
    (hx : ∀ (q11 : List Row), (spec_l2Items_c2_r x2 s6 s7) = .x q11 → ∀ e, Weak e [(3, .v (.acc true) (.lst .row q11))] → x 0 e) :
    Ht Try.prog ⟨(Try.f81).ntmps, none, []⟩ fr (nav (bodyOf (Try.f81)) [1, 1, 0, 1, 0, 0]) [(0, .v .sh (.lst .item x2)), (3, .v (.acc true) (.lst .row s6)), (4, .v .fr (.int .i64 s7))] n r x := by
  unfold spec_l2Items_c2_r_ob at hob
  refine Ht.seq (c1 := (nav (bodyOf (Try.f81)) [1, 1, 0, 1, 0, 0, 0])) (c2 := (nav (bodyOf (Try.f81)) [1, 1, 0, 1, 0, 0, 1])) (by kernel_rfl) ?_
  refine Ht.seq (c1 := (nav (bodyOf (Try.f81)) [1, 1, 0, 1, 0, 0, 0, 0])) (c2 := (nav (bodyOf (Try.f81)) [1, 1, 0, 1, 0, 0, 0, 1])) (by kernel_rfl) ?_
  refine Ht.reg G (keep := [0, 3, 4, 12]) (e' := [(0, .v .sh (.lst .item x2)), (3, .v (.acc true) (.lst .row s6)), (4, .v .fr (.int .i64 s7)), (12, .v .fr (.bool (cmp .lss s7 (lenI .item x2))))]) (obs := []) (by kernel_rfl) hob.1 ?_
  refine Ht.cond (o := .tmp 12) (c1 := (nav (bodyOf (Try.f81)) [1, 1, 0, 1, 0, 0, 0, 1, 0])) (c2 := (nav (bodyOf (Try.f81)) [1, 1, 0, 1, 0, 0, 0, 1, 1])) (b := (cmp .lss s7 (lenI .item x2))) (by kernel_rfl) (by kernel_rfl) (fun h8 => ?_) (fun h8 => ?_)
  · have hb := hob.2.1 h8
    refine Ht.skip (by kernel_rfl) ?_
    refine Ht.seq (c1 := (nav (bodyOf (Try.f81)) [1, 1, 0, 1, 0, 0, 1, 0])) (c2 := (nav (bodyOf (Try.f81)) [1, 1, 0, 1, 0, 0, 1, 1])) (by kernel_rfl) ?_
    refine Ht.block (id := 1) (c1 := (nav (bodyOf (Try.f81)) [1, 1, 0, 1, 0, 0, 1, 0, 0])) (by kernel_rfl) ?_
    refine Ht.reg G (keep := [0, 3, 4]) (e' := [(0, .v .sh (.lst .item x2)), (3, .v (.acc true) (.lst .row (s6 ++ [(Row.mk (rd .item x2 s7).Key (rd .item x2 s7).Val (Time.mk 0 0) (rd .item x2 s7).Count)]))), (4, .v .fr (.int .i64 s7))]) (obs := [inb s7 (lenI .item x2), inb s7 (lenI .item x2), inb s7 (lenI .item x2), lim (lenI .row s6) (lenI .row [(Row.mk (rd .item x2 s7).Key (rd .item x2 s7).Val (Time.mk 0 0) (rd .item x2 s7).Count)])]) (by kernel_rfl) hb.1 ?_
    refine Ht.reg G (keep := [0, 3, 4]) (e' := [(0, .v .sh (.lst .item x2)), (3, .v (.acc true) (.lst .row (s6 ++ [(Row.mk (rd .item x2 s7).Key (rd .item x2 s7).Val (Time.mk 0 0) (rd .item x2 s7).Count)]))), (4, .v .fr (.int .i64 (ar .add .i64 s7 1)))]) (obs := []) (by kernel_rfl) hb.2.1 ?_
    exact hn (s6 ++ [(Row.mk (rd .item x2 s7).Key (rd .item x2 s7).Val (Time.mk 0 0) (rd .item x2 s7).Count)]) (ar .add .i64 s7 1) (by simp only [spec_l2Items_c2_r, h8]) _ (Weak.cast (pat := [(0, .sh), (3, (.acc true)), (4, .fr)]) (by kernel_rfl) (by kernel_rfl))
  · have hb := hob.2.2 h8
    refine Ht.exit (i := 0) (by kernel_rfl) ?_
    exact hx s6 (by simp only [spec_l2Items_c2_r, h8]) _ (Weak.cast (pat := [(3, (.acc true))]) (by kernel_rfl) (by kernel_rfl))

noncomputable def spec_l2Items_c2 (x2 : List Item) : Oc Empty (List Item) ((List Row)) Empty Empty := lpV (fun s => ocLp ((fun (s : (List Row) × Int) => spec_l2Items_c2_r x2 s.1 s.2) s)) ([], 0)
def spec_l2Items_c2_ob (x2 : List Item) : Prop := LpT (fun s => ocLp ((fun (s : (List Row) × Int) => spec_l2Items_c2_r x2 s.1 s.2) s)) (fun s => spec_l2Items_c2_r_ob x2 s.1 s.2) ([], 0)
set_option maxRecDepth 100000 in
theorem spec_l2Items_c2_ok (G : Good Try.prog tt sp_spec_l2Items) {fr : Fr} (x2 : List Item) (hob : spec_l2Items_c2_ob x2) {n r : Env → Prop} {x : Nat → Env → Prop}
    (hr : ∀ q, (spec_l2Items_c2 x2) = .r q → ∀ e, retAv tt e [.tmp 2] (.one (.acc true) (.lst .item)) = some (RT.av (.one (.acc true) (.lst .item)) q) → r e)
    (hx : ∀ (q11 : List Row), (spec_l2Items_c2 x2) = .x q11 → ∀ e, Weak e [(3, .v (.acc true) (.lst .row q11))] → x 0 e) :
    Ht Try.prog ⟨(Try.f81).ntmps, none, []⟩ fr (nav (bodyOf (Try.f81)) [1, 1, 0, 1, 0]) [(0, .v .sh (.lst .item x2)), (3, .v (.acc true) (.lst .row [])), (4, .v .fr (.int .i64 0))] n r x := by
  unfold spec_l2Items_c2_ob at hob
  refine Ht.weak (e' := (fun (s : (List Row) × Int) => [(0, .v .sh (.lst .item x2)), (3, .v (.acc true) (.lst .row s.1)), (4, .v .fr (.int .i64 s.2))]) ([], 0)) (Weak.cast (pat := [(0, .sh), (3, (.acc true)), (4, .fr)]) (by kernel_rfl) (by kernel_rfl)) ?_
  refine Ht.loopOc (c1 := (nav (bodyOf (Try.f81)) [1, 1, 0, 1, 0, 0])) (by kernel_rfl) (fun (s : (List Row) × Int) => [(0, .v .sh (.lst .item x2)), (3, .v (.acc true) (.lst .row s.1)), (4, .v .fr (.int .i64 s.2))]) (fun (s : (List Row) × Int) => spec_l2Items_c2_r x2 s.1 s.2) hob (RP := fun q e => retAv tt e [.tmp 2] (.one (.acc true) (.lst .item)) = some (RT.av (.one (.acc true) (.lst .item)) q)) (XP := (fun i q e => i = 0 ∧ Weak e [(3, .v (.acc true) (.lst .row q))])) (YP := (fun _ _ _ => False)) (ZP := (fun _ _ _ => False)) (fun s hs => ?_) ?_ ?_ ?_ ?_
  · refine spec_l2Items_c2_r_ok G x2 s.1 s.2 hs (fun q12 q13 h e hw => ⟨(q12, q13), h, hw⟩) (fun q h e he => ⟨q, h, he⟩) (fun q11 h e hw => .inl ⟨q11, h, rfl, hw⟩)
  · exact fun q e h he => hr q h e he
  · rintro i q e h ⟨rfl, hw⟩
    exact hx q h e hw
  · exact fun _ _ _ _ h => h.elim
  · exact fun _ _ _ _ h => h.elim


noncomputable def spec_l2Items_c1 (x1 : List Item) : Oc ((List Row)) (List Item) Empty Empty Empty :=
  match (spec_l2Items_c2 x1) with
  | .r q14 =>
    .r q14
  | .x q16 =>
    .n q16
  | .n q => q.elim
  | .y q => q.elim
  | .z q => q.elim
def spec_l2Items_c1_ob (x1 : List Item) : Prop :=
  ((True)) ∧
  (spec_l2Items_c2_ob x1) ∧
  (∀ (q16 : List Row), (spec_l2Items_c2 x1) = .x q16 →
    True)
set_option maxRecDepth 100000 in
theorem spec_l2Items_c1_ok (G : Good Try.prog tt sp_spec_l2Items) {fr : Fr} (x1 : List Item) (hob : spec_l2Items_c1_ob x1) {n r : Env → Prop} {x : Nat → Env → Prop}
    (hn : ∀ (q18 : List Row), (spec_l2Items_c1 x1) = .n q18 → ∀ e, Weak e [(3, .v (.acc true) (.lst .row q18))] → n e)
    (hr : ∀ q, (spec_l2Items_c1 x1) = .r q → ∀ e, retAv tt e [.tmp 2] (.one (.acc true) (.lst .item)) = some (RT.av (.one (.acc true) (.lst .item)) q) → r e) :
    Ht Try.prog ⟨(Try.f81).ntmps, none, []⟩ fr (nav (bodyOf (Try.f81)) [1, 1, 0]) [(0, .v .sh (.lst .item x1)), (3, .v (.acc true) (.lst .row []))] n r x := by
  unfold spec_l2Items_c1_ob at hob
  refine Ht.seq (c1 := (nav (bodyOf (Try.f81)) [1, 1, 0, 0])) (c2 := (nav (bodyOf (Try.f81)) [1, 1, 0, 1])) (by kernel_rfl) ?_
  refine Ht.reg G (keep := [0, 3, 4]) (e' := [(0, .v .sh (.lst .item x1)), (3, .v (.acc true) (.lst .row [])), (4, .v .fr (.int .i64 0))]) (obs := []) (by kernel_rfl) hob.1 ?_
  refine Ht.block (id := 0) (c1 := (nav (bodyOf (Try.f81)) [1, 1, 0, 1, 0])) (by kernel_rfl) ?_
  refine Ht.weak (e' := [(0, .v .sh (.lst .item x1)), (3, .v (.acc true) (.lst .row [])), (4, .v .fr (.int .i64 0))]) (Weak.cast (pat := [(0, .same), (3, .same), (4, .same)]) (by kernel_rfl) (by kernel_rfl)) ?_
  refine spec_l2Items_c2_ok G x1 hob.2.1 (fun q h15 e he => hr q (by simp only [spec_l2Items_c1, h15]) e he) (fun q16 h17 e hw => ?_)
  · have hb := hob.2.2 q16 h17
    exact hn q16 (by simp only [spec_l2Items_c1, h17]) e (hw.trans (Weak.cast (pat := [(3, (.acc true))]) (by kernel_rfl) (by kernel_rfl)))

noncomputable def spec_l2Items_c4_r (x22 : List Row) (s26 : List Item) (s27 : Int) : Oc ((List Item) × Int) (List Item) ((List Item)) Empty Empty :=
  match (cmp .lss s27 (lenI .row x22)) with
  | true =>
    .n ((s26 ++ [(Item.mk (rd .row x22 s27).Key (rd .row x22 s27).Val (rd .row x22 s27).Diff)]), (ar .add .i64 s27 1))
  | false =>
    .x s26
def spec_l2Items_c4_r_ob (x22 : List Row) (s26 : List Item) (s27 : Int) : Prop :=
  ((True)) ∧
  ((cmp .lss s27 (lenI .row x22)) = true →
    ((inb s27 (lenI .row x22)) ∧ (inb s27 (lenI .row x22)) ∧ (inb s27 (lenI .row x22)) ∧ (lim (lenI .item s26) (lenI .item [(Item.mk (rd .row x22 s27).Key (rd .row x22 s27).Val (rd .row x22 s27).Diff)])) ∧ (True)) ∧
    ((True)) ∧
    True) ∧ ((cmp .lss s27 (lenI .row x22)) = false →
    True)
set_option maxRecDepth 100000 in
theorem spec_l2Items_c4_r_ok (G : Good Try.prog tt sp_spec_l2Items) {fr : Fr} (x22 : List Row) (s26 : List Item) (s27 : Int) (hob : spec_l2Items_c4_r_ob x22 s26 s27) {n r : Env → Prop} {x : Nat → Env → Prop}
    (hn : ∀ (q32 : List Item) (q33 : Int), (spec_l2Items_c4_r x22 s26 s27) = .n (q32, q33) → ∀ e, Weak e [(5, .v (.acc true) (.lst .row x22)), (6, .v (.acc true) (.lst .item q32)), (7, .v .fr (.int .i64 q33))] → n e)
    (_hr : ∀ q, (spec_l2Items_c4_r x22 s26 s27) = .r q → ∀ e, retAv tt e [.tmp 2] (.one (.acc true) (.lst .item)) = some (RT.av (.one (.acc true) (.lst .item)) q) → r e)
    (hx : ∀ (q31 : List Item), (spec_l2Items_c4_r x22 s26 s27) = .x q31 → ∀ e, Weak e [(6, .v (.acc true) (.lst .item q31))] → x 2 e) :
    Ht Try.prog ⟨(Try.f81).ntmps, none, []⟩ fr (nav (bodyOf (Try.f81)) [1, 1, 1, 1, 1, 0, 1, 0, 0]) [(5, .v (.acc true) (.lst .row x22)), (6, .v (.acc true) (.lst .item s26)), (7, .v .fr (.int .i64 s27))] n r x := by
  unfold spec_l2Items_c4_r_ob at hob
  refine Ht.seq (c1 := (nav (bodyOf (Try.f81)) [1, 1, 1, 1, 1, 0, 1, 0, 0, 0])) (c2 := (nav (bodyOf (Try.f81)) [1, 1, 1, 1, 1, 0, 1, 0, 0, 1])) (by kernel_rfl) ?_
  refine Ht.seq (c1 := (nav (bodyOf (Try.f81)) [1, 1, 1, 1, 1, 0, 1, 0, 0, 0, 0])) (c2 := (nav (bodyOf (Try.f81)) [1, 1, 1, 1, 1, 0, 1, 0, 0, 0, 1])) (by kernel_rfl) ?_
  refine Ht.reg G (keep := [5, 6, 7, 40]) (e' := [(5, .v (.acc true) (.lst .row x22)), (6, .v (.acc true) (.lst .item s26)), (7, .v .fr (.int .i64 s27)), (40, .v .fr (.bool (cmp .lss s27 (lenI .row x22))))]) (obs := []) (by kernel_rfl) hob.1 ?_
  refine Ht.cond (o := .tmp 40) (c1 := (nav (bodyOf (Try.f81)) [1, 1, 1, 1, 1, 0, 1, 0, 0, 0, 1, 0])) (c2 := (nav (bodyOf (Try.f81)) [1, 1, 1, 1, 1, 0, 1, 0, 0, 0, 1, 1])) (b := (cmp .lss s27 (lenI .row x22))) (by kernel_rfl) (by kernel_rfl) (fun h28 => ?_) (fun h28 => ?_)
  · have hb := hob.2.1 h28
    refine Ht.skip (by kernel_rfl) ?_
    refine Ht.seq (c1 := (nav (bodyOf (Try.f81)) [1, 1, 1, 1, 1, 0, 1, 0, 0, 1, 0])) (c2 := (nav (bodyOf (Try.f81)) [1, 1, 1, 1, 1, 0, 1, 0, 0, 1, 1])) (by kernel_rfl) ?_
    refine Ht.block (id := 3) (c1 := (nav (bodyOf (Try.f81)) [1, 1, 1, 1, 1, 0, 1, 0, 0, 1, 0, 0])) (by kernel_rfl) ?_
    refine Ht.reg G (keep := [5, 6, 7]) (e' := [(5, .v (.acc true) (.lst .row x22)), (6, .v (.acc true) (.lst .item (s26 ++ [(Item.mk (rd .row x22 s27).Key (rd .row x22 s27).Val (rd .row x22 s27).Diff)]))), (7, .v .fr (.int .i64 s27))]) (obs := [inb s27 (lenI .row x22), inb s27 (lenI .row x22), inb s27 (lenI .row x22), lim (lenI .item s26) (lenI .item [(Item.mk (rd .row x22 s27).Key (rd .row x22 s27).Val (rd .row x22 s27).Diff)])]) (by kernel_rfl) hb.1 ?_
    refine Ht.reg G (keep := [5, 6, 7]) (e' := [(5, .v (.acc true) (.lst .row x22)), (6, .v (.acc true) (.lst .item (s26 ++ [(Item.mk (rd .row x22 s27).Key (rd .row x22 s27).Val (rd .row x22 s27).Diff)]))), (7, .v .fr (.int .i64 (ar .add .i64 s27 1)))]) (obs := []) (by kernel_rfl) hb.2.1 ?_
    exact hn (s26 ++ [(Item.mk (rd .row x22 s27).Key (rd .row x22 s27).Val (rd .row x22 s27).Diff)]) (ar .add .i64 s27 1) (by simp only [spec_l2Items_c4_r, h28]) _ (Weak.cast (pat := [(5, (.acc true)), (6, (.acc true)), (7, .fr)]) (by kernel_rfl) (by kernel_rfl))
  · have hb := hob.2.2 h28
    refine Ht.exit (i := 2) (by kernel_rfl) ?_
    exact hx s26 (by simp only [spec_l2Items_c4_r, h28]) _ (Weak.cast (pat := [(6, (.acc true))]) (by kernel_rfl) (by kernel_rfl))

noncomputable def spec_l2Items_c4 (x22 : List Row) : Oc Empty (List Item) ((List Item)) Empty Empty := lpV (fun s => ocLp ((fun (s : (List Item) × Int) => spec_l2Items_c4_r x22 s.1 s.2) s)) ([], 0)
def spec_l2Items_c4_ob (x22 : List Row) : Prop := LpT (fun s => ocLp ((fun (s : (List Item) × Int) => spec_l2Items_c4_r x22 s.1 s.2) s)) (fun s => spec_l2Items_c4_r_ob x22 s.1 s.2) ([], 0)
set_option maxRecDepth 100000 in
theorem spec_l2Items_c4_ok (G : Good Try.prog tt sp_spec_l2Items) {fr : Fr} (x22 : List Row) (hob : spec_l2Items_c4_ob x22) {n r : Env → Prop} {x : Nat → Env → Prop}
    (hr : ∀ q, (spec_l2Items_c4 x22) = .r q → ∀ e, retAv tt e [.tmp 2] (.one (.acc true) (.lst .item)) = some (RT.av (.one (.acc true) (.lst .item)) q) → r e)
    (hx : ∀ (q31 : List Item), (spec_l2Items_c4 x22) = .x q31 → ∀ e, Weak e [(6, .v (.acc true) (.lst .item q31))] → x 2 e) :
    Ht Try.prog ⟨(Try.f81).ntmps, none, []⟩ fr (nav (bodyOf (Try.f81)) [1, 1, 1, 1, 1, 0, 1, 0]) [(5, .v (.acc true) (.lst .row x22)), (6, .v (.acc true) (.lst .item [])), (7, .v .fr (.int .i64 0))] n r x := by
  unfold spec_l2Items_c4_ob at hob
  refine Ht.weak (e' := (fun (s : (List Item) × Int) => [(5, .v (.acc true) (.lst .row x22)), (6, .v (.acc true) (.lst .item s.1)), (7, .v .fr (.int .i64 s.2))]) ([], 0)) (Weak.cast (pat := [(5, (.acc true)), (6, (.acc true)), (7, .fr)]) (by kernel_rfl) (by kernel_rfl)) ?_
  refine Ht.loopOc (c1 := (nav (bodyOf (Try.f81)) [1, 1, 1, 1, 1, 0, 1, 0, 0])) (by kernel_rfl) (fun (s : (List Item) × Int) => [(5, .v (.acc true) (.lst .row x22)), (6, .v (.acc true) (.lst .item s.1)), (7, .v .fr (.int .i64 s.2))]) (fun (s : (List Item) × Int) => spec_l2Items_c4_r x22 s.1 s.2) hob (RP := fun q e => retAv tt e [.tmp 2] (.one (.acc true) (.lst .item)) = some (RT.av (.one (.acc true) (.lst .item)) q)) (XP := (fun i q e => i = 2 ∧ Weak e [(6, .v (.acc true) (.lst .item q))])) (YP := (fun _ _ _ => False)) (ZP := (fun _ _ _ => False)) (fun s hs => ?_) ?_ ?_ ?_ ?_
  · refine spec_l2Items_c4_r_ok G x22 s.1 s.2 hs (fun q32 q33 h e hw => ⟨(q32, q33), h, hw⟩) (fun q h e he => ⟨q, h, he⟩) (fun q31 h e hw => .inl ⟨q31, h, rfl, hw⟩)
  · exact fun q e h he => hr q h e he
  · rintro i q e h ⟨rfl, hw⟩
    exact hx q h e hw
  · exact fun _ _ _ _ h => h.elim
  · exact fun _ _ _ _ h => h.elim


noncomputable def spec_l2Items_c3 (x21 : List Row) : Oc ((List Item)) (List Item) Empty Empty Empty :=
  match (spec_l2Items_c4 x21) with
  | .r q34 =>
    .r q34
  | .x q36 =>
    .n q36
  | .n q => q.elim
  | .y q => q.elim
  | .z q => q.elim
def spec_l2Items_c3_ob (x21 : List Row) : Prop :=
  ((True)) ∧
  (spec_l2Items_c4_ob x21) ∧
  (∀ (q36 : List Item), (spec_l2Items_c4 x21) = .x q36 →
    True)
set_option maxRecDepth 100000 in
theorem spec_l2Items_c3_ok (G : Good Try.prog tt sp_spec_l2Items) {fr : Fr} (x21 : List Row) (hob : spec_l2Items_c3_ob x21) {n r : Env → Prop} {x : Nat → Env → Prop}
    (hn : ∀ (q38 : List Item), (spec_l2Items_c3 x21) = .n q38 → ∀ e, Weak e [(6, .v (.acc true) (.lst .item q38))] → n e)
    (hr : ∀ q, (spec_l2Items_c3 x21) = .r q → ∀ e, retAv tt e [.tmp 2] (.one (.acc true) (.lst .item)) = some (RT.av (.one (.acc true) (.lst .item)) q) → r e) :
    Ht Try.prog ⟨(Try.f81).ntmps, none, []⟩ fr (nav (bodyOf (Try.f81)) [1, 1, 1, 1, 1, 0]) [(5, .v (.acc true) (.lst .row x21)), (6, .v (.acc true) (.lst .item []))] n r x := by
  unfold spec_l2Items_c3_ob at hob
  refine Ht.seq (c1 := (nav (bodyOf (Try.f81)) [1, 1, 1, 1, 1, 0, 0])) (c2 := (nav (bodyOf (Try.f81)) [1, 1, 1, 1, 1, 0, 1])) (by kernel_rfl) ?_
  refine Ht.reg G (keep := [5, 6, 7]) (e' := [(5, .v (.acc true) (.lst .row x21)), (6, .v (.acc true) (.lst .item [])), (7, .v .fr (.int .i64 0))]) (obs := []) (by kernel_rfl) hob.1 ?_
  refine Ht.block (id := 2) (c1 := (nav (bodyOf (Try.f81)) [1, 1, 1, 1, 1, 0, 1, 0])) (by kernel_rfl) ?_
  refine Ht.weak (e' := [(5, .v (.acc true) (.lst .row x21)), (6, .v (.acc true) (.lst .item [])), (7, .v .fr (.int .i64 0))]) (Weak.cast (pat := [(5, .same), (6, .same), (7, .same)]) (by kernel_rfl) (by kernel_rfl)) ?_
  refine spec_l2Items_c4_ok G x21 hob.2.1 (fun q h35 e he => hr q (by simp only [spec_l2Items_c3, h35]) e he) (fun q36 h37 e hw => ?_)
  · have hb := hob.2.2 q36 h37
    exact hn q36 (by simp only [spec_l2Items_c3, h37]) e (hw.trans (Weak.cast (pat := [(6, (.acc true))]) (by kernel_rfl) (by kernel_rfl)))

noncomputable def spec_l2Items_b (a0 : List Item) : Oc Empty (List Item) Empty Empty Empty :=
  match (spec_l2Items_c1 a0) with
  | .n q19 =>
    match (spec_l2Items_c3 (v_spec_l2Sum q19)) with
    | .n q39 =>
      .r q39
    | .r q41 =>
      .r q41
    | .x q => q.elim
    | .y q => q.elim
    | .z q => q.elim
  | .r q43 =>
    .r q43
  | .x q => q.elim
  | .y q => q.elim
  | .z q => q.elim
def spec_l2Items_b_ob (a0 : List Item) : Prop :=
  ((True)) ∧
  ((True)) ∧
  (spec_l2Items_c1_ob a0) ∧
  (∀ (q19 : List Row), (spec_l2Items_c1 a0) = .n q19 →
    (((p_spec_l2Sum q19)) ∧ (True)) ∧
    ((True)) ∧
    (spec_l2Items_c3_ob (v_spec_l2Sum q19)) ∧
    (∀ (q39 : List Item), (spec_l2Items_c3 (v_spec_l2Sum q19)) = .n q39 →
      ((True)) ∧
      True))
set_option maxRecDepth 100000 in
theorem spec_l2Items_b_ok (G : Good Try.prog tt sp_spec_l2Items) {fr : Fr} (a0 : List Item) (hob : spec_l2Items_b_ob a0) {n r : Env → Prop} {x : Nat → Env → Prop}
    (hr : ∀ q, (spec_l2Items_b a0) = .r q → ∀ e, retAv tt e [.tmp 2] (.one (.acc true) (.lst .item)) = some (RT.av (.one (.acc true) (.lst .item)) q) → r e) :
    Ht Try.prog ⟨(Try.f81).ntmps, none, []⟩ fr (nav (bodyOf (Try.f81)) []) [(0, .v .sh (.lst .item a0))] n r x := by
  unfold spec_l2Items_b_ob at hob
  refine Ht.seq (c1 := (nav (bodyOf (Try.f81)) [0])) (c2 := (nav (bodyOf (Try.f81)) [1])) (by kernel_rfl) ?_
  refine Ht.reg G (keep := [0]) (e' := [(0, .v .sh (.lst .item a0))]) (obs := []) (by kernel_rfl) hob.1 ?_
  refine Ht.seq (c1 := (nav (bodyOf (Try.f81)) [1, 0])) (c2 := (nav (bodyOf (Try.f81)) [1, 1])) (by kernel_rfl) ?_
  refine Ht.reg G (keep := [0, 3]) (e' := [(0, .v .sh (.lst .item a0)), (3, .v (.acc true) (.lst .row []))]) (obs := []) (by kernel_rfl) hob.2.1 ?_
  refine Ht.seq (c1 := (nav (bodyOf (Try.f81)) [1, 1, 0])) (c2 := (nav (bodyOf (Try.f81)) [1, 1, 1])) (by kernel_rfl) ?_
  refine Ht.weak (e' := [(0, .v .sh (.lst .item a0)), (3, .v (.acc true) (.lst .row []))]) (Weak.cast (pat := [(0, .same), (3, .same)]) (by kernel_rfl) (by kernel_rfl)) ?_
  refine spec_l2Items_c1_ok G a0 hob.2.2.1 (fun q19 h20 e hw => ?_) (fun q h44 e he => hr q (by simp only [spec_l2Items_b, h44]) e he)
  · have hb := hob.2.2.2 q19 h20
    refine Ht.weak hw ?_
    refine Ht.seq (c1 := (nav (bodyOf (Try.f81)) [1, 1, 1, 0])) (c2 := (nav (bodyOf (Try.f81)) [1, 1, 1, 1])) (by kernel_rfl) ?_
    refine Ht.reg G (keep := [5]) (e' := [(5, .v (.acc true) (.lst .row (v_spec_l2Sum q19)))]) (obs := [(p_spec_l2Sum q19)]) (by kernel_rfl) hb.1 ?_
    refine Ht.seq (c1 := (nav (bodyOf (Try.f81)) [1, 1, 1, 1, 0])) (c2 := (nav (bodyOf (Try.f81)) [1, 1, 1, 1, 1])) (by kernel_rfl) ?_
    refine Ht.reg G (keep := [5, 6]) (e' := [(5, .v (.acc true) (.lst .row (v_spec_l2Sum q19))), (6, .v (.acc true) (.lst .item []))]) (obs := []) (by kernel_rfl) hb.2.1 ?_
    refine Ht.seq (c1 := (nav (bodyOf (Try.f81)) [1, 1, 1, 1, 1, 0])) (c2 := (nav (bodyOf (Try.f81)) [1, 1, 1, 1, 1, 1])) (by kernel_rfl) ?_
    refine Ht.weak (e' := [(5, .v (.acc true) (.lst .row (v_spec_l2Sum q19))), (6, .v (.acc true) (.lst .item []))]) (Weak.cast (pat := [(5, .same), (6, .same)]) (by kernel_rfl) (by kernel_rfl)) ?_
    refine spec_l2Items_c3_ok G (v_spec_l2Sum q19) hb.2.2.1 (fun q39 h40 e hw => ?_) (fun q h42 e he => hr q (by simp only [spec_l2Items_b, h20, h42]) e he)
    · have hb := hb.2.2.2 q39 h40
      refine Ht.weak hw ?_
      refine Ht.seq (c1 := (nav (bodyOf (Try.f81)) [1, 1, 1, 1, 1, 1, 0])) (c2 := (nav (bodyOf (Try.f81)) [1, 1, 1, 1, 1, 1, 1])) (by kernel_rfl) ?_
      refine Ht.reg G (keep := [2]) (e' := [(2, .v (.acc true) (.lst .item q39))]) (obs := []) (by kernel_rfl) hb.1 ?_
      refine Ht.ret (by kernel_rfl) ?_
      exact hr q39 (by simp only [spec_l2Items_b, h20, h40]) _ (by kernel_rfl)

noncomputable def v_spec_l2Items (a0 : List Item) : List Item := ocR (spec_l2Items_b a0)
def p_spec_l2Items (a0 : List Item) : Prop := spec_l2Items_b_ob a0
noncomputable def s_spec_l2Items : Spec := ⟨[(.lst .item)], .one (.acc true) (.lst .item), false, fun x => (v_spec_l2Items x.1, 0), fun x => p_spec_l2Items x.1⟩
theorem con_spec_l2Items (G : Good Try.prog tt sp_spec_l2Items) : Con Try.prog 81 s_spec_l2Items :=
  con_of G.htt (fn := Try.f81) (c := bodyOf Try.f81) (by kernel_rfl) (by kernel_rfl) (by kernel_rfl) (rs := [.tmp 2]) (by kernel_rfl) (by kernel_rfl) (fun _ => rfl) fun x hp fr _ _ _ =>
    spec_l2Items_b_ok G (fr := fr) x.1 hp
      (fun q h e he => ⟨by rw [show (s_spec_l2Items.val x).1 = q from congrArg ocR h]; exact he, trivial⟩)

noncomputable def sp_spec_BatchAt : SP := [(56, s_spec_RowsOk), (132, s_spec_TimeOk), (104, s_spec_TimeLess), (81, s_spec_l2Items)]
noncomputable def spec_BatchAt_c3 (x20 : List Row) (x21 : Time) (x22 : List Item) (x23 : Int) : Oc ((List Item)) (List Item) Empty Empty Empty :=
  match (v_spec_TimeLess (rd .row x20 x23).At x21) with
  | true =>
    .n (x22 ++ [(Item.mk (rd .row x20 x23).Key (rd .row x20 x23).Val (rd .row x20 x23).Diff)])
  | false =>
    .n x22
def spec_BatchAt_c3_ob (x20 : List Row) (x21 : Time) (x22 : List Item) (x23 : Int) : Prop :=
  ((inb x23 (lenI .row x20)) ∧ ((p_spec_TimeLess (rd .row x20 x23).At x21)) ∧ (True)) ∧
  ((v_spec_TimeLess (rd .row x20 x23).At x21) = true →
    ((inb x23 (lenI .row x20)) ∧ (inb x23 (lenI .row x20)) ∧ (inb x23 (lenI .row x20)) ∧ (lim (lenI .item x22) (lenI .item [(Item.mk (rd .row x20 x23).Key (rd .row x20 x23).Val (rd .row x20 x23).Diff)])) ∧ (True)) ∧
    True) ∧ ((v_spec_TimeLess (rd .row x20 x23).At x21) = false →
    True)
set_option maxRecDepth 100000 in
theorem spec_BatchAt_c3_ok (G : Good Try.prog tt sp_spec_BatchAt) {fr : Fr} (x20 : List Row) (x21 : Time) (x22 : List Item) (x23 : Int) (hob : spec_BatchAt_c3_ob x20 x21 x22 x23) {n r : Env → Prop} {x : Nat → Env → Prop}
    (hn : ∀ (q25 : List Item), (spec_BatchAt_c3 x20 x21 x22 x23) = .n q25 → ∀ e, Weak e [(0, .v .sh (.lst .row x20)), (3, .box [(.fr, .int .i64 x21.A), (.fr, .int .i64 x21.B)]), (5, .v (.acc true) (.lst .item q25)), (6, .v .fr (.int .i64 x23))] → n e)
    (_hr : ∀ q, (spec_BatchAt_c3 x20 x21 x22 x23) = .r q → ∀ e, retAv tt e [.tmp 4] (.one (.acc true) (.lst .item)) = some (RT.av (.one (.acc true) (.lst .item)) q) → r e) :
    Ht Try.prog ⟨(Try.f103).ntmps, none, []⟩ fr (nav (bodyOf (Try.f103)) [1, 1, 1, 0, 1, 0, 0, 1, 0]) [(0, .v .sh (.lst .row x20)), (3, .box [(.fr, .int .i64 x21.A), (.fr, .int .i64 x21.B)]), (5, .v (.acc true) (.lst .item x22)), (6, .v .fr (.int .i64 x23))] n r x := by
  unfold spec_BatchAt_c3_ob at hob
  refine Ht.block (id := 1) (c1 := (nav (bodyOf (Try.f103)) [1, 1, 1, 0, 1, 0, 0, 1, 0, 0])) (by kernel_rfl) ?_
  refine Ht.seq (c1 := (nav (bodyOf (Try.f103)) [1, 1, 1, 0, 1, 0, 0, 1, 0, 0, 0])) (c2 := (nav (bodyOf (Try.f103)) [1, 1, 1, 0, 1, 0, 0, 1, 0, 0, 1])) (by kernel_rfl) ?_
  refine Ht.reg G (keep := [0, 3, 5, 6, 29]) (e' := [(0, .v .sh (.lst .row x20)), (3, .box [(.fr, .int .i64 x21.A), (.fr, .int .i64 x21.B)]), (5, .v (.acc true) (.lst .item x22)), (6, .v .fr (.int .i64 x23)), (29, .v .fr (.bool (v_spec_TimeLess (rd .row x20 x23).At x21)))]) (obs := [inb x23 (lenI .row x20), (p_spec_TimeLess (rd .row x20 x23).At x21)]) (by kernel_rfl) hob.1 ?_
  refine Ht.cond (o := .tmp 29) (c1 := (nav (bodyOf (Try.f103)) [1, 1, 1, 0, 1, 0, 0, 1, 0, 0, 1, 0])) (c2 := (nav (bodyOf (Try.f103)) [1, 1, 1, 0, 1, 0, 0, 1, 0, 0, 1, 1])) (b := (v_spec_TimeLess (rd .row x20 x23).At x21)) (by kernel_rfl) (by kernel_rfl) (fun h24 => ?_) (fun h24 => ?_)
  · have hb := hob.2.1 h24
    refine Ht.reg G (keep := [0, 3, 5, 6]) (e' := [(0, .v .sh (.lst .row x20)), (3, .box [(.fr, .int .i64 x21.A), (.fr, .int .i64 x21.B)]), (5, .v (.acc true) (.lst .item (x22 ++ [(Item.mk (rd .row x20 x23).Key (rd .row x20 x23).Val (rd .row x20 x23).Diff)]))), (6, .v .fr (.int .i64 x23))]) (obs := [inb x23 (lenI .row x20), inb x23 (lenI .row x20), inb x23 (lenI .row x20), lim (lenI .item x22) (lenI .item [(Item.mk (rd .row x20 x23).Key (rd .row x20 x23).Val (rd .row x20 x23).Diff)])]) (by kernel_rfl) hb.1 ?_
    exact hn (x22 ++ [(Item.mk (rd .row x20 x23).Key (rd .row x20 x23).Val (rd .row x20 x23).Diff)]) (by simp only [spec_BatchAt_c3, h24]) _ (Weak.cast (pat := [(0, .sh), (3, .same), (5, (.acc true)), (6, .fr)]) (by kernel_rfl) (by kernel_rfl))
  · have hb := hob.2.2 h24
    refine Ht.skip (by kernel_rfl) ?_
    exact hn x22 (by simp only [spec_BatchAt_c3, h24]) _ (Weak.cast (pat := [(0, .sh), (3, .same), (5, (.acc true)), (6, .fr)]) (by kernel_rfl) (by kernel_rfl))

noncomputable def spec_BatchAt_c2_r (x4 : List Row) (x5 : Time) (s17 : List Item) (s18 : Int) : Oc ((List Item) × Int) (List Item) ((List Item)) Empty Empty :=
  match (cmp .lss s18 (lenI .row x4)) with
  | true =>
    match (spec_BatchAt_c3 x4 x5 s17 s18) with
    | .n q26 =>
      .n (q26, (ar .add .i64 s18 1))
    | .r q28 =>
      .r q28
    | .x q => q.elim
    | .y q => q.elim
    | .z q => q.elim
  | false =>
    .x s17
def spec_BatchAt_c2_r_ob (x4 : List Row) (x5 : Time) (s17 : List Item) (s18 : Int) : Prop :=
  ((True)) ∧
  ((cmp .lss s18 (lenI .row x4)) = true →
    (spec_BatchAt_c3_ob x4 x5 s17 s18) ∧
    (∀ (q26 : List Item), (spec_BatchAt_c3 x4 x5 s17 s18) = .n q26 →
      ((True)) ∧
      True)) ∧ ((cmp .lss s18 (lenI .row x4)) = false →
    True)
set_option maxRecDepth 100000 in
theorem spec_BatchAt_c2_r_ok (G : Good Try.prog tt sp_spec_BatchAt) {fr : Fr} (x4 : List Row) (x5 : Time) (s17 : List Item) (s18 : Int) (hob : spec_BatchAt_c2_r_ob x4 x5 s17 s18) {n r : Env → Prop} {x : Nat → Env → Prop}
    (hn : ∀ (q33 : List Item) (q34 : Int), (spec_BatchAt_c2_r x4 x5 s17 s18) = .n (q33, q34) → ∀ e, Weak e [(0, .v .sh (.lst .row x4)), (3, .box [(.fr, .int .i64 x5.A), (.fr, .int .i64 x5.B)]), (5, .v (.acc true) (.lst .item q33)), (6, .v .fr (.int .i64 q34))] → n e)
    (hr : ∀ q, (spec_BatchAt_c2_r x4 x5 s17 s18) = .r q → ∀ e, retAv tt e [.tmp 4] (.one (.acc true) (.lst .item)) = some (RT.av (.one (.acc true) (.lst .item)) q) → r e)
    (hx : ∀ (q32 : List Item), (spec_BatchAt_c2_r x4 x5 s17 s18) = .x q32 → ∀ e, Weak e [(5, .v (.acc true) (.lst .item q32))] → x 0 e) :
    Ht Try.prog ⟨(Try.f103).ntmps, none, []⟩ fr (nav (bodyOf (Try.f103)) [1, 1, 1, 0, 1, 0, 0]) [(0, .v .sh (.lst .row x4)), (3, .box [(.fr, .int .i64 x5.A), (.fr, .int .i64 x5.B)]), (5, .v (.acc true) (.lst .item s17)), (6, .v .fr (.int .i64 s18))] n r x := by
  unfold spec_BatchAt_c2_r_ob at hob
  refine Ht.seq (c1 := (nav (bodyOf (Try.f103)) [1, 1, 1, 0, 1, 0, 0, 0])) (c2 := (nav (bodyOf (Try.f103)) [1, 1, 1, 0, 1, 0, 0, 1])) (by kernel_rfl) ?_
  refine Ht.seq (c1 := (nav (bodyOf (Try.f103)) [1, 1, 1, 0, 1, 0, 0, 0, 0])) (c2 := (nav (bodyOf (Try.f103)) [1, 1, 1, 0, 1, 0, 0, 0, 1])) (by kernel_rfl) ?_
  refine Ht.reg G (keep := [0, 3, 5, 6, 20]) (e' := [(0, .v .sh (.lst .row x4)), (3, .box [(.fr, .int .i64 x5.A), (.fr, .int .i64 x5.B)]), (5, .v (.acc true) (.lst .item s17)), (6, .v .fr (.int .i64 s18)), (20, .v .fr (.bool (cmp .lss s18 (lenI .row x4))))]) (obs := []) (by kernel_rfl) hob.1 ?_
  refine Ht.cond (o := .tmp 20) (c1 := (nav (bodyOf (Try.f103)) [1, 1, 1, 0, 1, 0, 0, 0, 1, 0])) (c2 := (nav (bodyOf (Try.f103)) [1, 1, 1, 0, 1, 0, 0, 0, 1, 1])) (b := (cmp .lss s18 (lenI .row x4))) (by kernel_rfl) (by kernel_rfl) (fun h19 => ?_) (fun h19 => ?_)
  · have hb := hob.2.1 h19
    refine Ht.skip (by kernel_rfl) ?_
    refine Ht.seq (c1 := (nav (bodyOf (Try.f103)) [1, 1, 1, 0, 1, 0, 0, 1, 0])) (c2 := (nav (bodyOf (Try.f103)) [1, 1, 1, 0, 1, 0, 0, 1, 1])) (by kernel_rfl) ?_
    refine Ht.weak (e' := [(0, .v .sh (.lst .row x4)), (3, .box [(.fr, .int .i64 x5.A), (.fr, .int .i64 x5.B)]), (5, .v (.acc true) (.lst .item s17)), (6, .v .fr (.int .i64 s18))]) (Weak.cast (pat := [(0, .same), (3, .same), (5, .same), (6, .same)]) (by kernel_rfl) (by kernel_rfl)) ?_
    refine spec_BatchAt_c3_ok G x4 x5 s17 s18 hb.1 (fun q26 h27 e hw => ?_) (fun q h29 e he => hr q (by simp only [spec_BatchAt_c2_r, h19, h29]) e he)
    · have hb := hb.2 q26 h27
      refine Ht.weak hw ?_
      refine Ht.reg G (keep := [0, 3, 5, 6]) (e' := [(0, .v .sh (.lst .row x4)), (3, .box [(.fr, .int .i64 x5.A), (.fr, .int .i64 x5.B)]), (5, .v (.acc true) (.lst .item q26)), (6, .v .fr (.int .i64 (ar .add .i64 s18 1)))]) (obs := []) (by kernel_rfl) hb.1 ?_
      exact hn q26 (ar .add .i64 s18 1) (by simp only [spec_BatchAt_c2_r, h19, h27]) _ (Weak.cast (pat := [(0, .sh), (3, .same), (5, (.acc true)), (6, .fr)]) (by kernel_rfl) (by kernel_rfl))
  · have hb := hob.2.2 h19
    refine Ht.exit (i := 0) (by kernel_rfl) ?_
    exact hx s17 (by simp only [spec_BatchAt_c2_r, h19]) _ (Weak.cast (pat := [(5, (.acc true))]) (by kernel_rfl) (by kernel_rfl))

noncomputable def spec_BatchAt_c2 (x4 : List Row) (x5 : Time) : Oc Empty (List Item) ((List Item)) Empty Empty := lpV (fun s => ocLp ((fun (s : (List Item) × Int) => spec_BatchAt_c2_r x4 x5 s.1 s.2) s)) ([], 0)
def spec_BatchAt_c2_ob (x4 : List Row) (x5 : Time) : Prop := LpT (fun s => ocLp ((fun (s : (List Item) × Int) => spec_BatchAt_c2_r x4 x5 s.1 s.2) s)) (fun s => spec_BatchAt_c2_r_ob x4 x5 s.1 s.2) ([], 0)
set_option maxRecDepth 100000 in
theorem spec_BatchAt_c2_ok (G : Good Try.prog tt sp_spec_BatchAt) {fr : Fr} (x4 : List Row) (x5 : Time) (hob : spec_BatchAt_c2_ob x4 x5) {n r : Env → Prop} {x : Nat → Env → Prop}
    (hr : ∀ q, (spec_BatchAt_c2 x4 x5) = .r q → ∀ e, retAv tt e [.tmp 4] (.one (.acc true) (.lst .item)) = some (RT.av (.one (.acc true) (.lst .item)) q) → r e)
    (hx : ∀ (q32 : List Item), (spec_BatchAt_c2 x4 x5) = .x q32 → ∀ e, Weak e [(5, .v (.acc true) (.lst .item q32))] → x 0 e) :
    Ht Try.prog ⟨(Try.f103).ntmps, none, []⟩ fr (nav (bodyOf (Try.f103)) [1, 1, 1, 0, 1, 0]) [(0, .v .sh (.lst .row x4)), (3, .box [(.fr, .int .i64 x5.A), (.fr, .int .i64 x5.B)]), (5, .v (.acc true) (.lst .item [])), (6, .v .fr (.int .i64 0))] n r x := by
  unfold spec_BatchAt_c2_ob at hob
  refine Ht.weak (e' := (fun (s : (List Item) × Int) => [(0, .v .sh (.lst .row x4)), (3, .box [(.fr, .int .i64 x5.A), (.fr, .int .i64 x5.B)]), (5, .v (.acc true) (.lst .item s.1)), (6, .v .fr (.int .i64 s.2))]) ([], 0)) (Weak.cast (pat := [(0, .sh), (3, .same), (5, (.acc true)), (6, .fr)]) (by kernel_rfl) (by kernel_rfl)) ?_
  refine Ht.loopOc (c1 := (nav (bodyOf (Try.f103)) [1, 1, 1, 0, 1, 0, 0])) (by kernel_rfl) (fun (s : (List Item) × Int) => [(0, .v .sh (.lst .row x4)), (3, .box [(.fr, .int .i64 x5.A), (.fr, .int .i64 x5.B)]), (5, .v (.acc true) (.lst .item s.1)), (6, .v .fr (.int .i64 s.2))]) (fun (s : (List Item) × Int) => spec_BatchAt_c2_r x4 x5 s.1 s.2) hob (RP := fun q e => retAv tt e [.tmp 4] (.one (.acc true) (.lst .item)) = some (RT.av (.one (.acc true) (.lst .item)) q)) (XP := (fun i q e => i = 0 ∧ Weak e [(5, .v (.acc true) (.lst .item q))])) (YP := (fun _ _ _ => False)) (ZP := (fun _ _ _ => False)) (fun s hs => ?_) ?_ ?_ ?_ ?_
  · refine spec_BatchAt_c2_r_ok G x4 x5 s.1 s.2 hs (fun q33 q34 h e hw => ⟨(q33, q34), h, hw⟩) (fun q h e he => ⟨q, h, he⟩) (fun q32 h e hw => .inl ⟨q32, h, rfl, hw⟩)
  · exact fun q e h he => hr q h e he
  · rintro i q e h ⟨rfl, hw⟩
    exact hx q h e hw
  · exact fun _ _ _ _ h => h.elim
  · exact fun _ _ _ _ h => h.elim


noncomputable def spec_BatchAt_c1 (x2 : List Row) (x3 : Time) : Oc ((List Item)) (List Item) Empty Empty Empty :=
  match (spec_BatchAt_c2 x2 x3) with
  | .r q35 =>
    .r q35
  | .x q37 =>
    .n q37
  | .n q => q.elim
  | .y q => q.elim
  | .z q => q.elim
def spec_BatchAt_c1_ob (x2 : List Row) (x3 : Time) : Prop :=
  ((True)) ∧
  (spec_BatchAt_c2_ob x2 x3) ∧
  (∀ (q37 : List Item), (spec_BatchAt_c2 x2 x3) = .x q37 →
    True)
set_option maxRecDepth 100000 in
theorem spec_BatchAt_c1_ok (G : Good Try.prog tt sp_spec_BatchAt) {fr : Fr} (x2 : List Row) (x3 : Time) (hob : spec_BatchAt_c1_ob x2 x3) {n r : Env → Prop} {x : Nat → Env → Prop}
    (hn : ∀ (q39 : List Item), (spec_BatchAt_c1 x2 x3) = .n q39 → ∀ e, Weak e [(5, .v (.acc true) (.lst .item q39))] → n e)
    (hr : ∀ q, (spec_BatchAt_c1 x2 x3) = .r q → ∀ e, retAv tt e [.tmp 4] (.one (.acc true) (.lst .item)) = some (RT.av (.one (.acc true) (.lst .item)) q) → r e) :
    Ht Try.prog ⟨(Try.f103).ntmps, none, []⟩ fr (nav (bodyOf (Try.f103)) [1, 1, 1, 0]) [(0, .v .sh (.lst .row x2)), (3, .box [(.fr, .int .i64 x3.A), (.fr, .int .i64 x3.B)]), (5, .v (.acc true) (.lst .item []))] n r x := by
  unfold spec_BatchAt_c1_ob at hob
  refine Ht.seq (c1 := (nav (bodyOf (Try.f103)) [1, 1, 1, 0, 0])) (c2 := (nav (bodyOf (Try.f103)) [1, 1, 1, 0, 1])) (by kernel_rfl) ?_
  refine Ht.reg G (keep := [0, 3, 5, 6]) (e' := [(0, .v .sh (.lst .row x2)), (3, .box [(.fr, .int .i64 x3.A), (.fr, .int .i64 x3.B)]), (5, .v (.acc true) (.lst .item [])), (6, .v .fr (.int .i64 0))]) (obs := []) (by kernel_rfl) hob.1 ?_
  refine Ht.block (id := 0) (c1 := (nav (bodyOf (Try.f103)) [1, 1, 1, 0, 1, 0])) (by kernel_rfl) ?_
  refine Ht.weak (e' := [(0, .v .sh (.lst .row x2)), (3, .box [(.fr, .int .i64 x3.A), (.fr, .int .i64 x3.B)]), (5, .v (.acc true) (.lst .item [])), (6, .v .fr (.int .i64 0))]) (Weak.cast (pat := [(0, .same), (3, .same), (5, .same), (6, .same)]) (by kernel_rfl) (by kernel_rfl)) ?_
  refine spec_BatchAt_c2_ok G x2 x3 hob.2.1 (fun q h36 e he => hr q (by simp only [spec_BatchAt_c1, h36]) e he) (fun q37 h38 e hw => ?_)
  · have hb := hob.2.2 q37 h38
    exact hn q37 (by simp only [spec_BatchAt_c1, h38]) e (hw.trans (Weak.cast (pat := [(5, (.acc true))]) (by kernel_rfl) (by kernel_rfl)))

noncomputable def spec_BatchAt_b (a0 : List Row) (a1 : Time) : Oc Empty (List Item) Empty Empty Empty :=
  match (cond (!(v_spec_RowsOk a0)) true (!(v_spec_TimeOk a1))) with
  | true =>
    .r []
  | false =>
    match (spec_BatchAt_c1 a0 a1) with
    | .n q40 =>
      .r (v_spec_l2Items q40)
    | .r q42 =>
      .r q42
    | .x q => q.elim
    | .y q => q.elim
    | .z q => q.elim
def spec_BatchAt_b_ob (a0 : List Row) (a1 : Time) : Prop :=
  ((True)) ∧
  ((True)) ∧
  (((p_spec_RowsOk a0)) ∧ ((((!(!(v_spec_RowsOk a0))) && true) = true → (p_spec_TimeOk a1))) ∧ (True)) ∧
  ((cond (!(v_spec_RowsOk a0)) true (!(v_spec_TimeOk a1))) = true →
    ((True)) ∧
    True) ∧ ((cond (!(v_spec_RowsOk a0)) true (!(v_spec_TimeOk a1))) = false →
    (spec_BatchAt_c1_ob a0 a1) ∧
    (∀ (q40 : List Item), (spec_BatchAt_c1 a0 a1) = .n q40 →
      (((p_spec_l2Items q40)) ∧ (True)) ∧
      True))
set_option maxRecDepth 100000 in
theorem spec_BatchAt_b_ok (G : Good Try.prog tt sp_spec_BatchAt) {fr : Fr} (a0 : List Row) (a1 : Time) (hob : spec_BatchAt_b_ob a0 a1) {n r : Env → Prop} {x : Nat → Env → Prop}
    (hr : ∀ q, (spec_BatchAt_b a0 a1) = .r q → ∀ e, retAv tt e [.tmp 4] (.one (.acc true) (.lst .item)) = some (RT.av (.one (.acc true) (.lst .item)) q) → r e) :
    Ht Try.prog ⟨(Try.f103).ntmps, none, []⟩ fr (nav (bodyOf (Try.f103)) []) [(0, .v .sh (.lst .row a0)), (1, .agg true [.int .i64 a1.A, .int .i64 a1.B])] n r x := by
  unfold spec_BatchAt_b_ob at hob
  refine Ht.seq (c1 := (nav (bodyOf (Try.f103)) [0])) (c2 := (nav (bodyOf (Try.f103)) [1])) (by kernel_rfl) ?_
  refine Ht.reg G (keep := [0, 3]) (e' := [(0, .v .sh (.lst .row a0)), (3, .box [(.fr, .int .i64 a1.A), (.fr, .int .i64 a1.B)])]) (obs := []) (by kernel_rfl) hob.1 ?_
  refine Ht.seq (c1 := (nav (bodyOf (Try.f103)) [1, 0])) (c2 := (nav (bodyOf (Try.f103)) [1, 1])) (by kernel_rfl) ?_
  refine Ht.reg G (keep := [0, 3, 5]) (e' := [(0, .v .sh (.lst .row a0)), (3, .box [(.fr, .int .i64 a1.A), (.fr, .int .i64 a1.B)]), (5, .v (.acc true) (.lst .item []))]) (obs := []) (by kernel_rfl) hob.2.1 ?_
  refine Ht.seq (c1 := (nav (bodyOf (Try.f103)) [1, 1, 0])) (c2 := (nav (bodyOf (Try.f103)) [1, 1, 1])) (by kernel_rfl) ?_
  refine Ht.seq (c1 := (nav (bodyOf (Try.f103)) [1, 1, 0, 0])) (c2 := (nav (bodyOf (Try.f103)) [1, 1, 0, 1])) (by kernel_rfl) ?_
  refine Ht.reg G (keep := [0, 3, 5, 15]) (e' := [(0, .v .sh (.lst .row a0)), (3, .box [(.fr, .int .i64 a1.A), (.fr, .int .i64 a1.B)]), (5, .v (.acc true) (.lst .item [])), (15, .v .fr (.bool (cond (!(v_spec_RowsOk a0)) true (!(v_spec_TimeOk a1)))))]) (obs := [(p_spec_RowsOk a0), (((!(!(v_spec_RowsOk a0))) && true) = true → (p_spec_TimeOk a1))]) (by kernel_rfl) hob.2.2.1 ?_
  refine Ht.cond (o := .tmp 15) (c1 := (nav (bodyOf (Try.f103)) [1, 1, 0, 1, 0])) (c2 := (nav (bodyOf (Try.f103)) [1, 1, 0, 1, 1])) (b := (cond (!(v_spec_RowsOk a0)) true (!(v_spec_TimeOk a1)))) (by kernel_rfl) (by kernel_rfl) (fun h1 => ?_) (fun h1 => ?_)
  · have hb := hob.2.2.2.1 h1
    refine Ht.seq (c1 := (nav (bodyOf (Try.f103)) [1, 1, 0, 1, 0, 0])) (c2 := (nav (bodyOf (Try.f103)) [1, 1, 0, 1, 0, 1])) (by kernel_rfl) ?_
    refine Ht.reg G (keep := [4]) (e' := [(4, .v (.acc true) (.lst .item []))]) (obs := []) (by kernel_rfl) hb.1 ?_
    refine Ht.ret (by kernel_rfl) ?_
    exact hr [] (by simp only [spec_BatchAt_b, h1]) _ (by kernel_rfl)
  · have hb := hob.2.2.2.2 h1
    refine Ht.skip (by kernel_rfl) ?_
    refine Ht.seq (c1 := (nav (bodyOf (Try.f103)) [1, 1, 1, 0])) (c2 := (nav (bodyOf (Try.f103)) [1, 1, 1, 1])) (by kernel_rfl) ?_
    refine Ht.weak (e' := [(0, .v .sh (.lst .row a0)), (3, .box [(.fr, .int .i64 a1.A), (.fr, .int .i64 a1.B)]), (5, .v (.acc true) (.lst .item []))]) (Weak.cast (pat := [(0, .same), (3, .same), (5, .same)]) (by kernel_rfl) (by kernel_rfl)) ?_
    refine spec_BatchAt_c1_ok G a0 a1 hb.1 (fun q40 h41 e hw => ?_) (fun q h43 e he => hr q (by simp only [spec_BatchAt_b, h1, h43]) e he)
    · have hb := hb.2 q40 h41
      refine Ht.weak hw ?_
      refine Ht.seq (c1 := (nav (bodyOf (Try.f103)) [1, 1, 1, 1, 0])) (c2 := (nav (bodyOf (Try.f103)) [1, 1, 1, 1, 1])) (by kernel_rfl) ?_
      refine Ht.reg G (keep := [4]) (e' := [(4, .v (.acc true) (.lst .item (v_spec_l2Items q40)))]) (obs := [(p_spec_l2Items q40)]) (by kernel_rfl) hb.1 ?_
      refine Ht.ret (by kernel_rfl) ?_
      exact hr (v_spec_l2Items q40) (by simp only [spec_BatchAt_b, h1, h41]) _ (by kernel_rfl)

noncomputable def v_spec_BatchAt (a0 : List Row) (a1 : Time) : List Item := ocR (spec_BatchAt_b a0 a1)
def p_spec_BatchAt (a0 : List Row) (a1 : Time) : Prop := spec_BatchAt_b_ob a0 a1
noncomputable def s_spec_BatchAt : Spec := ⟨[(.lst .row), (.st .time)], .one (.acc true) (.lst .item), false, fun x => (v_spec_BatchAt x.1 x.2.1, 0), fun x => p_spec_BatchAt x.1 x.2.1⟩
theorem con_spec_BatchAt (G : Good Try.prog tt sp_spec_BatchAt) : Con Try.prog 103 s_spec_BatchAt :=
  con_of G.htt (fn := Try.f103) (c := bodyOf Try.f103) (by kernel_rfl) (by kernel_rfl) (by kernel_rfl) (rs := [.tmp 4]) (by kernel_rfl) (by kernel_rfl) (fun _ => rfl) fun x hp fr _ _ _ =>
    spec_BatchAt_b_ok G (fr := fr) x.1 x.2.1 hp
      (fun q h e he => ⟨by rw [show (s_spec_BatchAt.val x).1 = q from congrArg ocR h]; exact he, trivial⟩)

noncomputable def sp_spec_l71Set : SP := [(129, s_spec_l71Rows), (103, s_spec_BatchAt), (98, s_spec_l6Rd_pick)]
noncomputable def spec_l71Set_c1 (x1 : List Int) (x2 : Int) (x3 : List Item) : Oc (Int × (List Item)) ((List Item) × Int) Empty Empty Empty :=
  match (cmp .eql (v_spec_l6Rd_pick (x1, x2) 24).1 0) with
  | true =>
    .r ((x3 ++ [(Item.mk (ar .sub .i64 (v_spec_l6Rd_pick (x1, (v_spec_l6Rd_pick (x1, x2) 24).2) 6).1 1) (ar .sub .i64 (v_spec_l6Rd_pick (x1, (v_spec_l6Rd_pick (x1, (v_spec_l6Rd_pick (x1, x2) 24).2) 6).2) 120).1 5) (ar .sub .i64 (v_spec_l6Rd_pick (x1, (v_spec_l6Rd_pick (x1, (v_spec_l6Rd_pick (x1, (v_spec_l6Rd_pick (x1, x2) 24).2) 6).2) 120).2) 3).1 1))]), (v_spec_l6Rd_pick (x1, (v_spec_l6Rd_pick (x1, (v_spec_l6Rd_pick (x1, (v_spec_l6Rd_pick (x1, x2) 24).2) 6).2) 120).2) 3).2)
  | false =>
    match (cmp .eql (v_spec_l6Rd_pick (x1, x2) 24).1 1) with
    | true =>
      match (cmp .gtr (lenI .item x3) 0) with
      | true =>
        .n ((v_spec_l6Rd_pick (x1, (v_spec_l6Rd_pick (x1, x2) 24).2) (lenI .item x3)).2, (List.set x3 (Int.toNat (v_spec_l6Rd_pick (x1, (v_spec_l6Rd_pick (x1, x2) 24).2) (lenI .item x3)).1) (Item.mk (rd .item x3 (v_spec_l6Rd_pick (x1, (v_spec_l6Rd_pick (x1, x2) 24).2) (lenI .item x3)).1).Key (rd .item x3 (v_spec_l6Rd_pick (x1, (v_spec_l6Rd_pick (x1, x2) 24).2) (lenI .item x3)).1).Val 0)))
      | false =>
        .n ((v_spec_l6Rd_pick (x1, x2) 24).2, x3)
    | false =>
      .n ((v_spec_l6Rd_pick (x1, x2) 24).2, x3)
def spec_l71Set_c1_ob (x1 : List Int) (x2 : Int) (x3 : List Item) : Prop :=
  (((p_spec_l6Rd_pick (x1, x2) 24)) ∧ (True)) ∧
  ((True)) ∧
  ((cmp .eql (v_spec_l6Rd_pick (x1, x2) 24).1 0) = true →
    (((p_spec_l6Rd_pick (x1, (v_spec_l6Rd_pick (x1, x2) 24).2) 6)) ∧ ((p_spec_l6Rd_pick (x1, (v_spec_l6Rd_pick (x1, (v_spec_l6Rd_pick (x1, x2) 24).2) 6).2) 120)) ∧ ((p_spec_l6Rd_pick (x1, (v_spec_l6Rd_pick (x1, (v_spec_l6Rd_pick (x1, (v_spec_l6Rd_pick (x1, x2) 24).2) 6).2) 120).2) 3)) ∧ (lim (lenI .item x3) (lenI .item [(Item.mk (ar .sub .i64 (v_spec_l6Rd_pick (x1, (v_spec_l6Rd_pick (x1, x2) 24).2) 6).1 1) (ar .sub .i64 (v_spec_l6Rd_pick (x1, (v_spec_l6Rd_pick (x1, (v_spec_l6Rd_pick (x1, x2) 24).2) 6).2) 120).1 5) (ar .sub .i64 (v_spec_l6Rd_pick (x1, (v_spec_l6Rd_pick (x1, (v_spec_l6Rd_pick (x1, (v_spec_l6Rd_pick (x1, x2) 24).2) 6).2) 120).2) 3).1 1))])) ∧ (True)) ∧
    True) ∧ ((cmp .eql (v_spec_l6Rd_pick (x1, x2) 24).1 0) = false →
    ((True)) ∧
    ((cmp .eql (v_spec_l6Rd_pick (x1, x2) 24).1 1) = true →
      ((True)) ∧
      ((cmp .gtr (lenI .item x3) 0) = true →
        (((p_spec_l6Rd_pick (x1, (v_spec_l6Rd_pick (x1, x2) 24).2) (lenI .item x3))) ∧ (inb (v_spec_l6Rd_pick (x1, (v_spec_l6Rd_pick (x1, x2) 24).2) (lenI .item x3)).1 (lenI .item x3)) ∧ (inb (v_spec_l6Rd_pick (x1, (v_spec_l6Rd_pick (x1, x2) 24).2) (lenI .item x3)).1 (lenI .item x3)) ∧ (True)) ∧
        True) ∧ ((cmp .gtr (lenI .item x3) 0) = false →
        True)) ∧ ((cmp .eql (v_spec_l6Rd_pick (x1, x2) 24).1 1) = false →
      True))
set_option maxRecDepth 100000 in
theorem spec_l71Set_c1_ok (G : Good Try.prog tt sp_spec_l71Set) {fr : Fr} (x1 : List Int) (x2 : Int) (x3 : List Item) (hob : spec_l71Set_c1_ob x1 x2 x3) {n r : Env → Prop} {x : Nat → Env → Prop}
    (hn : ∀ (q7 : Int) (q8 : List Item), (spec_l71Set_c1 x1 x2 x3) = .n (q7, q8) → ∀ e, Weak e [(0, .box [(.sh, .lst .byte x1), (.fr, .int .i64 q7)]), (3, .v (.acc true) (.lst .item q8))] → n e)
    (hr : ∀ q, (spec_l71Set_c1 x1 x2 x3) = .r q → ∀ e, retAv tt e [.tmp 2] (.one (.acc true) (.lst .item)) = some (RT.av (.one (.acc true) (.lst .item)) q.1) ∧ getE e 0 = .box [(.sh, .lst .byte x1), (.fr, .int .i64 q.2)] → r e) :
    Ht Try.prog ⟨(Try.f95).ntmps, some 0, []⟩ fr (nav (bodyOf (Try.f95)) [1, 1, 0]) [(0, .box [(.sh, .lst .byte x1), (.fr, .int .i64 x2)]), (3, .v (.acc true) (.lst .item x3))] n r x := by
  unfold spec_l71Set_c1_ob at hob
  refine Ht.seq (c1 := (nav (bodyOf (Try.f95)) [1, 1, 0, 0])) (c2 := (nav (bodyOf (Try.f95)) [1, 1, 0, 1])) (by kernel_rfl) ?_
  refine Ht.reg G (keep := [0, 3, 9]) (e' := [(0, .box [(.sh, .lst .byte x1), (.fr, .int .i64 (v_spec_l6Rd_pick (x1, x2) 24).2)]), (3, .v (.acc true) (.lst .item x3)), (9, .v .fr (.int .i64 (v_spec_l6Rd_pick (x1, x2) 24).1))]) (obs := [(p_spec_l6Rd_pick (x1, x2) 24)]) (by kernel_rfl) hob.1 ?_
  refine Ht.block (id := 0) (c1 := (nav (bodyOf (Try.f95)) [1, 1, 0, 1, 0])) (by kernel_rfl) ?_
  refine Ht.seq (c1 := (nav (bodyOf (Try.f95)) [1, 1, 0, 1, 0, 0])) (c2 := (nav (bodyOf (Try.f95)) [1, 1, 0, 1, 0, 1])) (by kernel_rfl) ?_
  refine Ht.reg G (keep := [0, 3, 9, 10]) (e' := [(0, .box [(.sh, .lst .byte x1), (.fr, .int .i64 (v_spec_l6Rd_pick (x1, x2) 24).2)]), (3, .v (.acc true) (.lst .item x3)), (9, .v .fr (.int .i64 (v_spec_l6Rd_pick (x1, x2) 24).1)), (10, .v .fr (.bool (cmp .eql (v_spec_l6Rd_pick (x1, x2) 24).1 0)))]) (obs := []) (by kernel_rfl) hob.2.1 ?_
  refine Ht.cond (o := .tmp 10) (c1 := (nav (bodyOf (Try.f95)) [1, 1, 0, 1, 0, 1, 0])) (c2 := (nav (bodyOf (Try.f95)) [1, 1, 0, 1, 0, 1, 1])) (b := (cmp .eql (v_spec_l6Rd_pick (x1, x2) 24).1 0)) (by kernel_rfl) (by kernel_rfl) (fun h4 => ?_) (fun h4 => ?_)
  · have hb := hob.2.2.1 h4
    refine Ht.seq (c1 := (nav (bodyOf (Try.f95)) [1, 1, 0, 1, 0, 1, 0, 0])) (c2 := (nav (bodyOf (Try.f95)) [1, 1, 0, 1, 0, 1, 0, 1])) (by kernel_rfl) ?_
    refine Ht.reg G (keep := [0, 2]) (e' := [(0, .box [(.sh, .lst .byte x1), (.fr, .int .i64 (v_spec_l6Rd_pick (x1, (v_spec_l6Rd_pick (x1, (v_spec_l6Rd_pick (x1, (v_spec_l6Rd_pick (x1, x2) 24).2) 6).2) 120).2) 3).2)]), (2, .v (.acc true) (.lst .item (x3 ++ [(Item.mk (ar .sub .i64 (v_spec_l6Rd_pick (x1, (v_spec_l6Rd_pick (x1, x2) 24).2) 6).1 1) (ar .sub .i64 (v_spec_l6Rd_pick (x1, (v_spec_l6Rd_pick (x1, (v_spec_l6Rd_pick (x1, x2) 24).2) 6).2) 120).1 5) (ar .sub .i64 (v_spec_l6Rd_pick (x1, (v_spec_l6Rd_pick (x1, (v_spec_l6Rd_pick (x1, (v_spec_l6Rd_pick (x1, x2) 24).2) 6).2) 120).2) 3).1 1))])))]) (obs := [(p_spec_l6Rd_pick (x1, (v_spec_l6Rd_pick (x1, x2) 24).2) 6), (p_spec_l6Rd_pick (x1, (v_spec_l6Rd_pick (x1, (v_spec_l6Rd_pick (x1, x2) 24).2) 6).2) 120), (p_spec_l6Rd_pick (x1, (v_spec_l6Rd_pick (x1, (v_spec_l6Rd_pick (x1, (v_spec_l6Rd_pick (x1, x2) 24).2) 6).2) 120).2) 3), lim (lenI .item x3) (lenI .item [(Item.mk (ar .sub .i64 (v_spec_l6Rd_pick (x1, (v_spec_l6Rd_pick (x1, x2) 24).2) 6).1 1) (ar .sub .i64 (v_spec_l6Rd_pick (x1, (v_spec_l6Rd_pick (x1, (v_spec_l6Rd_pick (x1, x2) 24).2) 6).2) 120).1 5) (ar .sub .i64 (v_spec_l6Rd_pick (x1, (v_spec_l6Rd_pick (x1, (v_spec_l6Rd_pick (x1, (v_spec_l6Rd_pick (x1, x2) 24).2) 6).2) 120).2) 3).1 1))])]) (by kernel_rfl) hb.1 ?_
    refine Ht.ret (by kernel_rfl) ?_
    exact hr ((x3 ++ [(Item.mk (ar .sub .i64 (v_spec_l6Rd_pick (x1, (v_spec_l6Rd_pick (x1, x2) 24).2) 6).1 1) (ar .sub .i64 (v_spec_l6Rd_pick (x1, (v_spec_l6Rd_pick (x1, (v_spec_l6Rd_pick (x1, x2) 24).2) 6).2) 120).1 5) (ar .sub .i64 (v_spec_l6Rd_pick (x1, (v_spec_l6Rd_pick (x1, (v_spec_l6Rd_pick (x1, (v_spec_l6Rd_pick (x1, x2) 24).2) 6).2) 120).2) 3).1 1))]), (v_spec_l6Rd_pick (x1, (v_spec_l6Rd_pick (x1, (v_spec_l6Rd_pick (x1, (v_spec_l6Rd_pick (x1, x2) 24).2) 6).2) 120).2) 3).2) (by simp only [spec_l71Set_c1, h4]) _ ⟨by kernel_rfl, by kernel_rfl⟩
  · have hb := hob.2.2.2 h4
    refine Ht.seq (c1 := (nav (bodyOf (Try.f95)) [1, 1, 0, 1, 0, 1, 1, 0])) (c2 := (nav (bodyOf (Try.f95)) [1, 1, 0, 1, 0, 1, 1, 1])) (by kernel_rfl) ?_
    refine Ht.reg G (keep := [0, 3, 25]) (e' := [(0, .box [(.sh, .lst .byte x1), (.fr, .int .i64 (v_spec_l6Rd_pick (x1, x2) 24).2)]), (3, .v (.acc true) (.lst .item x3)), (25, .v .fr (.bool (cmp .eql (v_spec_l6Rd_pick (x1, x2) 24).1 1)))]) (obs := []) (by kernel_rfl) hb.1 ?_
    refine Ht.cond (o := .tmp 25) (c1 := (nav (bodyOf (Try.f95)) [1, 1, 0, 1, 0, 1, 1, 1, 0])) (c2 := (nav (bodyOf (Try.f95)) [1, 1, 0, 1, 0, 1, 1, 1, 1])) (b := (cmp .eql (v_spec_l6Rd_pick (x1, x2) 24).1 1)) (by kernel_rfl) (by kernel_rfl) (fun h5 => ?_) (fun h5 => ?_)
    · have hb := hb.2.1 h5
      refine Ht.seq (c1 := (nav (bodyOf (Try.f95)) [1, 1, 0, 1, 0, 1, 1, 1, 0, 0])) (c2 := (nav (bodyOf (Try.f95)) [1, 1, 0, 1, 0, 1, 1, 1, 0, 1])) (by kernel_rfl) ?_
      refine Ht.reg G (keep := [0, 3, 29]) (e' := [(0, .box [(.sh, .lst .byte x1), (.fr, .int .i64 (v_spec_l6Rd_pick (x1, x2) 24).2)]), (3, .v (.acc true) (.lst .item x3)), (29, .v .fr (.bool (cmp .gtr (lenI .item x3) 0)))]) (obs := []) (by kernel_rfl) hb.1 ?_
      refine Ht.cond (o := .tmp 29) (c1 := (nav (bodyOf (Try.f95)) [1, 1, 0, 1, 0, 1, 1, 1, 0, 1, 0])) (c2 := (nav (bodyOf (Try.f95)) [1, 1, 0, 1, 0, 1, 1, 1, 0, 1, 1])) (b := (cmp .gtr (lenI .item x3) 0)) (by kernel_rfl) (by kernel_rfl) (fun h6 => ?_) (fun h6 => ?_)
      · have hb := hb.2.1 h6
        refine Ht.thaw 3 (e' := setE [(0, .box [(.sh, .lst .byte x1), (.fr, .int .i64 (v_spec_l6Rd_pick (x1, x2) 24).2)]), (3, .v (.acc true) (.lst .item x3)), (29, .v .fr (.bool (cmp .gtr (lenI .item x3) 0)))] 3 (.v (.own true) (.lst .item x3))) (by kernel_rfl) ?_
        refine Ht.reg G (keep := [0, 3]) (e' := [(0, .box [(.sh, .lst .byte x1), (.fr, .int .i64 (v_spec_l6Rd_pick (x1, (v_spec_l6Rd_pick (x1, x2) 24).2) (lenI .item x3)).2)]), (3, .v (.own true) (.lst .item (List.set x3 (Int.toNat (v_spec_l6Rd_pick (x1, (v_spec_l6Rd_pick (x1, x2) 24).2) (lenI .item x3)).1) (Item.mk (rd .item x3 (v_spec_l6Rd_pick (x1, (v_spec_l6Rd_pick (x1, x2) 24).2) (lenI .item x3)).1).Key (rd .item x3 (v_spec_l6Rd_pick (x1, (v_spec_l6Rd_pick (x1, x2) 24).2) (lenI .item x3)).1).Val 0))))]) (obs := [(p_spec_l6Rd_pick (x1, (v_spec_l6Rd_pick (x1, x2) 24).2) (lenI .item x3)), inb (v_spec_l6Rd_pick (x1, (v_spec_l6Rd_pick (x1, x2) 24).2) (lenI .item x3)).1 (lenI .item x3), inb (v_spec_l6Rd_pick (x1, (v_spec_l6Rd_pick (x1, x2) 24).2) (lenI .item x3)).1 (lenI .item x3)]) (by kernel_rfl) hb.1 ?_
        exact hn (v_spec_l6Rd_pick (x1, (v_spec_l6Rd_pick (x1, x2) 24).2) (lenI .item x3)).2 (List.set x3 (Int.toNat (v_spec_l6Rd_pick (x1, (v_spec_l6Rd_pick (x1, x2) 24).2) (lenI .item x3)).1) (Item.mk (rd .item x3 (v_spec_l6Rd_pick (x1, (v_spec_l6Rd_pick (x1, x2) 24).2) (lenI .item x3)).1).Key (rd .item x3 (v_spec_l6Rd_pick (x1, (v_spec_l6Rd_pick (x1, x2) 24).2) (lenI .item x3)).1).Val 0)) (by simp only [spec_l71Set_c1, h4, h5, h6]) _ ((Weak.freeze _ 3).trans (Weak.cast (pat := [(0, .same), (3, (.acc true))]) (by kernel_rfl) (by kernel_rfl)))
      · have hb := hb.2.2 h6
        refine Ht.skip (by kernel_rfl) ?_
        exact hn (v_spec_l6Rd_pick (x1, x2) 24).2 x3 (by simp only [spec_l71Set_c1, h4, h5, h6]) _ (Weak.cast (pat := [(0, .same), (3, (.acc true))]) (by kernel_rfl) (by kernel_rfl))
    · have hb := hb.2.2 h5
      refine Ht.skip (by kernel_rfl) ?_
      exact hn (v_spec_l6Rd_pick (x1, x2) 24).2 x3 (by simp only [spec_l71Set_c1, h4, h5]) _ (Weak.cast (pat := [(0, .same), (3, (.acc true))]) (by kernel_rfl) (by kernel_rfl))

noncomputable def spec_l71Set_b (a0 : (List Int × Int)) : Oc Empty ((List Item) × Int) Empty Empty Empty :=
  match (spec_l71Set_c1 a0.1 (v_spec_l71Rows (a0.1, a0.2) 8).2 (v_spec_BatchAt (v_spec_l71Rows (a0.1, a0.2) 8).1 (Time.mk 7 7))) with
  | .n (q9, q10) =>
    .r (q10, q9)
  | .r q12 =>
    .r q12
  | .x q => q.elim
  | .y q => q.elim
  | .z q => q.elim
def spec_l71Set_b_ob (a0 : (List Int × Int)) : Prop :=
  ((True)) ∧
  (((p_spec_l71Rows (a0.1, a0.2) 8)) ∧ ((p_spec_BatchAt (v_spec_l71Rows (a0.1, a0.2) 8).1 (Time.mk 7 7))) ∧ (True)) ∧
  (spec_l71Set_c1_ob a0.1 (v_spec_l71Rows (a0.1, a0.2) 8).2 (v_spec_BatchAt (v_spec_l71Rows (a0.1, a0.2) 8).1 (Time.mk 7 7))) ∧
  (∀ (q9 : Int) (q10 : List Item), (spec_l71Set_c1 a0.1 (v_spec_l71Rows (a0.1, a0.2) 8).2 (v_spec_BatchAt (v_spec_l71Rows (a0.1, a0.2) 8).1 (Time.mk 7 7))) = .n (q9, q10) →
    ((True)) ∧
    True)
set_option maxRecDepth 100000 in
theorem spec_l71Set_b_ok (G : Good Try.prog tt sp_spec_l71Set) {fr : Fr} (a0 : (List Int × Int)) (hob : spec_l71Set_b_ob a0) {n r : Env → Prop} {x : Nat → Env → Prop}
    (hr : ∀ q, (spec_l71Set_b a0) = .r q → ∀ e, retAv tt e [.tmp 2] (.one (.acc true) (.lst .item)) = some (RT.av (.one (.acc true) (.lst .item)) q.1) ∧ getE e 0 = .box [(.sh, .lst .byte a0.1), (.fr, .int .i64 q.2)] → r e) :
    Ht Try.prog ⟨(Try.f95).ntmps, some 0, []⟩ fr (nav (bodyOf (Try.f95)) []) [(0, .box [(.sh, .lst .byte a0.1), (.fr, .int .i64 a0.2)])] n r x := by
  unfold spec_l71Set_b_ob at hob
  refine Ht.seq (c1 := (nav (bodyOf (Try.f95)) [0])) (c2 := (nav (bodyOf (Try.f95)) [1])) (by kernel_rfl) ?_
  refine Ht.reg G (keep := [0]) (e' := [(0, .box [(.sh, .lst .byte a0.1), (.fr, .int .i64 a0.2)])]) (obs := []) (by kernel_rfl) hob.1 ?_
  refine Ht.seq (c1 := (nav (bodyOf (Try.f95)) [1, 0])) (c2 := (nav (bodyOf (Try.f95)) [1, 1])) (by kernel_rfl) ?_
  refine Ht.reg G (keep := [0, 3]) (e' := [(0, .box [(.sh, .lst .byte a0.1), (.fr, .int .i64 (v_spec_l71Rows (a0.1, a0.2) 8).2)]), (3, .v (.acc true) (.lst .item (v_spec_BatchAt (v_spec_l71Rows (a0.1, a0.2) 8).1 (Time.mk 7 7))))]) (obs := [(p_spec_l71Rows (a0.1, a0.2) 8), (p_spec_BatchAt (v_spec_l71Rows (a0.1, a0.2) 8).1 (Time.mk 7 7))]) (by kernel_rfl) hob.2.1 ?_
  refine Ht.seq (c1 := (nav (bodyOf (Try.f95)) [1, 1, 0])) (c2 := (nav (bodyOf (Try.f95)) [1, 1, 1])) (by kernel_rfl) ?_
  refine Ht.weak (e' := [(0, .box [(.sh, .lst .byte a0.1), (.fr, .int .i64 (v_spec_l71Rows (a0.1, a0.2) 8).2)]), (3, .v (.acc true) (.lst .item (v_spec_BatchAt (v_spec_l71Rows (a0.1, a0.2) 8).1 (Time.mk 7 7))))]) (Weak.cast (pat := [(0, .same), (3, .same)]) (by kernel_rfl) (by kernel_rfl)) ?_
  refine spec_l71Set_c1_ok G a0.1 (v_spec_l71Rows (a0.1, a0.2) 8).2 (v_spec_BatchAt (v_spec_l71Rows (a0.1, a0.2) 8).1 (Time.mk 7 7)) hob.2.2.1 (fun q9 q10 h11 e hw => ?_) (fun q h13 e he => hr q (by simp only [spec_l71Set_b, h13]) e he)
  · have hb := hob.2.2.2 q9 q10 h11
    refine Ht.weak hw ?_
    refine Ht.seq (c1 := (nav (bodyOf (Try.f95)) [1, 1, 1, 0])) (c2 := (nav (bodyOf (Try.f95)) [1, 1, 1, 1])) (by kernel_rfl) ?_
    refine Ht.reg G (keep := [0, 2]) (e' := [(0, .box [(.sh, .lst .byte a0.1), (.fr, .int .i64 q9)]), (2, .v (.acc true) (.lst .item q10))]) (obs := []) (by kernel_rfl) hb.1 ?_
    refine Ht.ret (by kernel_rfl) ?_
    exact hr (q10, q9) (by simp only [spec_l71Set_b, h11]) _ ⟨by kernel_rfl, by kernel_rfl⟩

noncomputable def v_spec_l71Set (a0 : (List Int × Int)) : (List Item) × Int := ocR (spec_l71Set_b a0)
def p_spec_l71Set (a0 : (List Int × Int)) : Prop := spec_l71Set_b_ob a0
noncomputable def s_spec_l71Set : Spec := ⟨[.rdr], .one (.acc true) (.lst .item), true, fun x => v_spec_l71Set x.1, fun x => p_spec_l71Set x.1⟩
theorem con_spec_l71Set (G : Good Try.prog tt sp_spec_l71Set) : Con Try.prog 95 s_spec_l71Set :=
  con_of G.htt (fn := Try.f95) (c := bodyOf Try.f95) (by kernel_rfl) (by kernel_rfl) (by kernel_rfl) (rs := [.tmp 2]) (by kernel_rfl) (by kernel_rfl) (fun h => Bool.noConfusion h) fun x hp fr _ _ _ =>
    spec_l71Set_b_ok G (fr := fr) x.1 hp
      (fun q h e he => ⟨by rw [show (s_spec_l71Set.val x).1 = q.1 from congrArg (fun o => (ocR o).1) h]; exact he.1, by rw [show (s_spec_l71Set.val x).2 = q.2 from congrArg (fun o => (ocR o).2) h]; exact he.2⟩)

noncomputable def sp_spec_DrawLoopStep : SP := [(94, s_spec_l6Open), (95, s_spec_l71Set)]
noncomputable def spec_DrawLoopStep_b (a0 : List Int) : Oc Empty ((List Item) × (List Item) × (List Item) × Unit) Empty Empty Empty :=
  .r ((v_spec_l71Set ((v_spec_l6Open a0).1, (v_spec_l6Open a0).2)).1, ((v_spec_l71Set ((v_spec_l6Open a0).1, (v_spec_l71Set ((v_spec_l6Open a0).1, (v_spec_l6Open a0).2)).2)).1, ((v_spec_l71Set ((v_spec_l6Open a0).1, (v_spec_l71Set ((v_spec_l6Open a0).1, (v_spec_l71Set ((v_spec_l6Open a0).1, (v_spec_l6Open a0).2)).2)).2)).1, ())))
def spec_DrawLoopStep_b_ob (a0 : List Int) : Prop :=
  ((True)) ∧
  (((p_spec_l6Open a0)) ∧ (True)) ∧
  (((p_spec_l71Set ((v_spec_l6Open a0).1, (v_spec_l6Open a0).2))) ∧ ((p_spec_l71Set ((v_spec_l6Open a0).1, (v_spec_l71Set ((v_spec_l6Open a0).1, (v_spec_l6Open a0).2)).2))) ∧ ((p_spec_l71Set ((v_spec_l6Open a0).1, (v_spec_l71Set ((v_spec_l6Open a0).1, (v_spec_l71Set ((v_spec_l6Open a0).1, (v_spec_l6Open a0).2)).2)).2))) ∧ (True)) ∧
  True
set_option maxRecDepth 100000 in
theorem spec_DrawLoopStep_b_ok (G : Good Try.prog tt sp_spec_DrawLoopStep) {fr : Fr} (a0 : List Int) (hob : spec_DrawLoopStep_b_ob a0) {n r : Env → Prop} {x : Nat → Env → Prop}
    (hr : ∀ q, (spec_DrawLoopStep_b a0) = .r q → ∀ e, retAv tt e [.tmp 2, .tmp 3, .tmp 4] (.tup [(false, (.lst .item)), (false, (.lst .item)), (false, (.lst .item))]) = some (RT.av (.tup [(false, (.lst .item)), (false, (.lst .item)), (false, (.lst .item))]) q) → r e) :
    Ht Try.prog ⟨(Try.f44).ntmps, none, []⟩ fr (nav (bodyOf (Try.f44)) []) [(0, .v .sh (.lst .byte a0))] n r x := by
  unfold spec_DrawLoopStep_b_ob at hob
  refine Ht.seq (c1 := (nav (bodyOf (Try.f44)) [0])) (c2 := (nav (bodyOf (Try.f44)) [1])) (by kernel_rfl) ?_
  refine Ht.reg G (keep := [0]) (e' := [(0, .v .sh (.lst .byte a0))]) (obs := []) (by kernel_rfl) hob.1 ?_
  refine Ht.seq (c1 := (nav (bodyOf (Try.f44)) [1, 0])) (c2 := (nav (bodyOf (Try.f44)) [1, 1])) (by kernel_rfl) ?_
  refine Ht.reg G (keep := [5]) (e' := [(5, .box [(.sh, .lst .byte (v_spec_l6Open a0).1), (.fr, .int .i64 (v_spec_l6Open a0).2)])]) (obs := [(p_spec_l6Open a0)]) (by kernel_rfl) hob.2.1 ?_
  refine Ht.seq (c1 := (nav (bodyOf (Try.f44)) [1, 1, 0])) (c2 := (nav (bodyOf (Try.f44)) [1, 1, 1])) (by kernel_rfl) ?_
  refine Ht.reg G (keep := [2, 3, 4]) (e' := [(2, .v (.acc true) (.lst .item (v_spec_l71Set ((v_spec_l6Open a0).1, (v_spec_l6Open a0).2)).1)), (3, .v (.acc true) (.lst .item (v_spec_l71Set ((v_spec_l6Open a0).1, (v_spec_l71Set ((v_spec_l6Open a0).1, (v_spec_l6Open a0).2)).2)).1)), (4, .v (.acc true) (.lst .item (v_spec_l71Set ((v_spec_l6Open a0).1, (v_spec_l71Set ((v_spec_l6Open a0).1, (v_spec_l71Set ((v_spec_l6Open a0).1, (v_spec_l6Open a0).2)).2)).2)).1))]) (obs := [(p_spec_l71Set ((v_spec_l6Open a0).1, (v_spec_l6Open a0).2)), (p_spec_l71Set ((v_spec_l6Open a0).1, (v_spec_l71Set ((v_spec_l6Open a0).1, (v_spec_l6Open a0).2)).2)), (p_spec_l71Set ((v_spec_l6Open a0).1, (v_spec_l71Set ((v_spec_l6Open a0).1, (v_spec_l71Set ((v_spec_l6Open a0).1, (v_spec_l6Open a0).2)).2)).2))]) (by kernel_rfl) hob.2.2.1 ?_
  refine Ht.ret (by kernel_rfl) ?_
  exact hr ((v_spec_l71Set ((v_spec_l6Open a0).1, (v_spec_l6Open a0).2)).1, ((v_spec_l71Set ((v_spec_l6Open a0).1, (v_spec_l71Set ((v_spec_l6Open a0).1, (v_spec_l6Open a0).2)).2)).1, ((v_spec_l71Set ((v_spec_l6Open a0).1, (v_spec_l71Set ((v_spec_l6Open a0).1, (v_spec_l71Set ((v_spec_l6Open a0).1, (v_spec_l6Open a0).2)).2)).2)).1, ()))) (by simp only [spec_DrawLoopStep_b]) _ (by kernel_rfl)

noncomputable def v_spec_DrawLoopStep (a0 : List Int) : (List Item) × (List Item) × (List Item) × Unit := ocR (spec_DrawLoopStep_b a0)
def p_spec_DrawLoopStep (a0 : List Int) : Prop := spec_DrawLoopStep_b_ob a0
noncomputable def s_spec_DrawLoopStep : Spec := ⟨[(.lst .byte)], .tup [(false, (.lst .item)), (false, (.lst .item)), (false, (.lst .item))], false, fun x => (v_spec_DrawLoopStep x.1, 0), fun x => p_spec_DrawLoopStep x.1⟩
theorem con_spec_DrawLoopStep (G : Good Try.prog tt sp_spec_DrawLoopStep) : Con Try.prog 44 s_spec_DrawLoopStep :=
  con_of G.htt (fn := Try.f44) (c := bodyOf Try.f44) (by kernel_rfl) (by kernel_rfl) (by kernel_rfl) (rs := [.tmp 2, .tmp 3, .tmp 4]) (by kernel_rfl) (by kernel_rfl) (fun _ => rfl) fun x hp fr _ _ _ =>
    spec_DrawLoopStep_b_ok G (fr := fr) x.1 hp
      (fun q h e he => ⟨by rw [show (s_spec_DrawLoopStep.val x).1 = q from congrArg ocR h]; exact he, trivial⟩)

noncomputable def sp_impl_SetOk : SP := []
noncomputable def impl_SetOk_c2_r (x2 : List Item) (x3 : Int) (s8 : Int) : Oc (Int) Bool Unit Empty Empty :=
  match (cmp .lss s8 x3) with
  | true =>
    match (cond (cond (cond (cond (cond (cond (cmp .lss (rd .item x2 s8).Key 0) true (cmp .geq (rd .item x2 s8).Key 4)) true (cmp .lss (rd .item x2 s8).Val 0)) true (cmp .geq (rd .item x2 s8).Val 100)) true (cmp .eql (rd .item x2 s8).Count 0)) true (cmp .lss (rd .item x2 s8).Count (-1099511627776))) true (cmp .gtr (rd .item x2 s8).Count 1099511627776)) with
    | true =>
      .r false
    | false =>
      match (cond (cmp .gtr s8 0) (cond (cmp .gtr (rd .item x2 (ar .sub .i64 s8 1)).Key (rd .item x2 s8).Key) true (cond (cmp .eql (rd .item x2 (ar .sub .i64 s8 1)).Key (rd .item x2 s8).Key) (cmp .geq (rd .item x2 (ar .sub .i64 s8 1)).Val (rd .item x2 s8).Val) false)) false) with
      | true =>
        .r false
      | false =>
        .n (ar .add .i64 s8 1)
  | false =>
    .x ()
def impl_SetOk_c2_r_ob (x2 : List Item) (x3 : Int) (s8 : Int) : Prop :=
  ((True)) ∧
  ((cmp .lss s8 x3) = true →
    ((inb s8 (lenI .item x2)) ∧ (True)) ∧
    ((True)) ∧
    ((cond (cond (cond (cond (cond (cond (cmp .lss (rd .item x2 s8).Key 0) true (cmp .geq (rd .item x2 s8).Key 4)) true (cmp .lss (rd .item x2 s8).Val 0)) true (cmp .geq (rd .item x2 s8).Val 100)) true (cmp .eql (rd .item x2 s8).Count 0)) true (cmp .lss (rd .item x2 s8).Count (-1099511627776))) true (cmp .gtr (rd .item x2 s8).Count 1099511627776)) = true →
      ((True)) ∧
      True) ∧ ((cond (cond (cond (cond (cond (cond (cmp .lss (rd .item x2 s8).Key 0) true (cmp .geq (rd .item x2 s8).Key 4)) true (cmp .lss (rd .item x2 s8).Val 0)) true (cmp .geq (rd .item x2 s8).Val 100)) true (cmp .eql (rd .item x2 s8).Count 0)) true (cmp .lss (rd .item x2 s8).Count (-1099511627776))) true (cmp .gtr (rd .item x2 s8).Count 1099511627776)) = false →
      (((((cmp .gtr s8 0) && true) = true → inb (ar .sub .i64 s8 1) (lenI .item x2))) ∧ ((((!(cmp .gtr (rd .item x2 (ar .sub .i64 s8 1)).Key (rd .item x2 s8).Key)) && ((cmp .gtr s8 0) && true)) = true → inb (ar .sub .i64 s8 1) (lenI .item x2))) ∧ ((((cmp .eql (rd .item x2 (ar .sub .i64 s8 1)).Key (rd .item x2 s8).Key) && ((!(cmp .gtr (rd .item x2 (ar .sub .i64 s8 1)).Key (rd .item x2 s8).Key)) && ((cmp .gtr s8 0) && true))) = true → inb (ar .sub .i64 s8 1) (lenI .item x2))) ∧ (True)) ∧
      ((cond (cmp .gtr s8 0) (cond (cmp .gtr (rd .item x2 (ar .sub .i64 s8 1)).Key (rd .item x2 s8).Key) true (cond (cmp .eql (rd .item x2 (ar .sub .i64 s8 1)).Key (rd .item x2 s8).Key) (cmp .geq (rd .item x2 (ar .sub .i64 s8 1)).Val (rd .item x2 s8).Val) false)) false) = true →
        ((True)) ∧
        True) ∧ ((cond (cmp .gtr s8 0) (cond (cmp .gtr (rd .item x2 (ar .sub .i64 s8 1)).Key (rd .item x2 s8).Key) true (cond (cmp .eql (rd .item x2 (ar .sub .i64 s8 1)).Key (rd .item x2 s8).Key) (cmp .geq (rd .item x2 (ar .sub .i64 s8 1)).Val (rd .item x2 s8).Val) false)) false) = false →
        ((True)) ∧
        True))) ∧ ((cmp .lss s8 x3) = false →
    True)
set_option maxRecDepth 100000 in
theorem impl_SetOk_c2_r_ok (G : Good Try.prog tt sp_impl_SetOk) {fr : Fr} (x2 : List Item) (x3 : Int) (s8 : Int) (hob : impl_SetOk_c2_r_ob x2 x3 s8) {n r : Env → Prop} {x : Nat → Env → Prop}
    (hn : ∀ (q13 : Int), (impl_SetOk_c2_r x2 x3 s8) = .n q13 → ∀ e, Weak e [(0, .v .sh (.lst .item x2)), (5, .v .sh (.lst .item x2)), (6, .v .fr (.int .i64 x3)), (7, .v .fr (.int .i64 q13))] → n e)
    (hr : ∀ q, (impl_SetOk_c2_r x2 x3 s8) = .r q → ∀ e, retAv tt e [.tmp 2] (.one .fr .bool) = some (RT.av (.one .fr .bool) q) → r e)
    (hx : (impl_SetOk_c2_r x2 x3 s8) = .x () → ∀ e, Weak e [(0, .v .sh (.lst .item x2))] → x 0 e) :
    Ht Try.prog ⟨(Try.f47).ntmps, none, []⟩ fr (nav (bodyOf (Try.f47)) [1, 0, 1, 0, 0]) [(0, .v .sh (.lst .item x2)), (5, .v .sh (.lst .item x2)), (6, .v .fr (.int .i64 x3)), (7, .v .fr (.int .i64 s8))] n r x := by
  unfold impl_SetOk_c2_r_ob at hob
  refine Ht.seq (c1 := (nav (bodyOf (Try.f47)) [1, 0, 1, 0, 0, 0])) (c2 := (nav (bodyOf (Try.f47)) [1, 0, 1, 0, 0, 1])) (by kernel_rfl) ?_
  refine Ht.reg G (keep := [0, 5, 6, 7, 8]) (e' := [(0, .v .sh (.lst .item x2)), (5, .v .sh (.lst .item x2)), (6, .v .fr (.int .i64 x3)), (7, .v .fr (.int .i64 s8)), (8, .v .fr (.bool (cmp .lss s8 x3)))]) (obs := []) (by kernel_rfl) hob.1 ?_
  refine Ht.seq (c1 := (nav (bodyOf (Try.f47)) [1, 0, 1, 0, 0, 1, 0])) (c2 := (nav (bodyOf (Try.f47)) [1, 0, 1, 0, 0, 1, 1])) (by kernel_rfl) ?_
  refine Ht.cond (o := .tmp 8) (c1 := (nav (bodyOf (Try.f47)) [1, 0, 1, 0, 0, 1, 0, 0])) (c2 := (nav (bodyOf (Try.f47)) [1, 0, 1, 0, 0, 1, 0, 1])) (b := (cmp .lss s8 x3)) (by kernel_rfl) (by kernel_rfl) (fun h9 => ?_) (fun h9 => ?_)
  · have hb := hob.2.1 h9
    refine Ht.skip (by kernel_rfl) ?_
    refine Ht.seq (c1 := (nav (bodyOf (Try.f47)) [1, 0, 1, 0, 0, 1, 1, 0])) (c2 := (nav (bodyOf (Try.f47)) [1, 0, 1, 0, 0, 1, 1, 1])) (by kernel_rfl) ?_
    refine Ht.block (id := 1) (c1 := (nav (bodyOf (Try.f47)) [1, 0, 1, 0, 0, 1, 1, 0, 0])) (by kernel_rfl) ?_
    refine Ht.seq (c1 := (nav (bodyOf (Try.f47)) [1, 0, 1, 0, 0, 1, 1, 0, 0, 0])) (c2 := (nav (bodyOf (Try.f47)) [1, 0, 1, 0, 0, 1, 1, 0, 0, 1])) (by kernel_rfl) ?_
    refine Ht.reg G (keep := [0, 3, 4, 5, 6, 7]) (e' := [(0, .v .sh (.lst .item x2)), (3, .v .fr (.int .i64 s8)), (4, .box [(.fr, .int .i64 (rd .item x2 s8).Key), (.fr, .int .i64 (rd .item x2 s8).Val), (.fr, .int .i64 (rd .item x2 s8).Count)]), (5, .v .sh (.lst .item x2)), (6, .v .fr (.int .i64 x3)), (7, .v .fr (.int .i64 s8))]) (obs := [inb s8 (lenI .item x2)]) (by kernel_rfl) hb.1 ?_
    refine Ht.seq (c1 := (nav (bodyOf (Try.f47)) [1, 0, 1, 0, 0, 1, 1, 0, 0, 1, 0])) (c2 := (nav (bodyOf (Try.f47)) [1, 0, 1, 0, 0, 1, 1, 0, 0, 1, 1])) (by kernel_rfl) ?_
    refine Ht.seq (c1 := (nav (bodyOf (Try.f47)) [1, 0, 1, 0, 0, 1, 1, 0, 0, 1, 0, 0])) (c2 := (nav (bodyOf (Try.f47)) [1, 0, 1, 0, 0, 1, 1, 0, 0, 1, 0, 1])) (by kernel_rfl) ?_
    refine Ht.reg G (keep := [0, 3, 4, 5, 6, 7, 44]) (e' := [(0, .v .sh (.lst .item x2)), (3, .v .fr (.int .i64 s8)), (4, .box [(.fr, .int .i64 (rd .item x2 s8).Key), (.fr, .int .i64 (rd .item x2 s8).Val), (.fr, .int .i64 (rd .item x2 s8).Count)]), (5, .v .sh (.lst .item x2)), (6, .v .fr (.int .i64 x3)), (7, .v .fr (.int .i64 s8)), (44, .v .fr (.bool (cond (cond (cond (cond (cond (cond (cmp .lss (rd .item x2 s8).Key 0) true (cmp .geq (rd .item x2 s8).Key 4)) true (cmp .lss (rd .item x2 s8).Val 0)) true (cmp .geq (rd .item x2 s8).Val 100)) true (cmp .eql (rd .item x2 s8).Count 0)) true (cmp .lss (rd .item x2 s8).Count (-1099511627776))) true (cmp .gtr (rd .item x2 s8).Count 1099511627776))))]) (obs := []) (by kernel_rfl) hb.2.1 ?_
    refine Ht.cond (o := .tmp 44) (c1 := (nav (bodyOf (Try.f47)) [1, 0, 1, 0, 0, 1, 1, 0, 0, 1, 0, 1, 0])) (c2 := (nav (bodyOf (Try.f47)) [1, 0, 1, 0, 0, 1, 1, 0, 0, 1, 0, 1, 1])) (b := (cond (cond (cond (cond (cond (cond (cmp .lss (rd .item x2 s8).Key 0) true (cmp .geq (rd .item x2 s8).Key 4)) true (cmp .lss (rd .item x2 s8).Val 0)) true (cmp .geq (rd .item x2 s8).Val 100)) true (cmp .eql (rd .item x2 s8).Count 0)) true (cmp .lss (rd .item x2 s8).Count (-1099511627776))) true (cmp .gtr (rd .item x2 s8).Count 1099511627776))) (by kernel_rfl) (by kernel_rfl) (fun h10 => ?_) (fun h10 => ?_)
    · have hb := hb.2.2.1 h10
      refine Ht.seq (c1 := (nav (bodyOf (Try.f47)) [1, 0, 1, 0, 0, 1, 1, 0, 0, 1, 0, 1, 0, 0])) (c2 := (nav (bodyOf (Try.f47)) [1, 0, 1, 0, 0, 1, 1, 0, 0, 1, 0, 1, 0, 1])) (by kernel_rfl) ?_
      refine Ht.reg G (keep := [2]) (e' := [(2, .v .fr (.bool false))]) (obs := []) (by kernel_rfl) hb.1 ?_
      refine Ht.ret (by kernel_rfl) ?_
      exact hr false (by simp only [impl_SetOk_c2_r, h9, h10]) _ (by kernel_rfl)
    · have hb := hb.2.2.2 h10
      refine Ht.skip (by kernel_rfl) ?_
      refine Ht.seq (c1 := (nav (bodyOf (Try.f47)) [1, 0, 1, 0, 0, 1, 1, 0, 0, 1, 1, 0])) (c2 := (nav (bodyOf (Try.f47)) [1, 0, 1, 0, 0, 1, 1, 0, 0, 1, 1, 1])) (by kernel_rfl) ?_
      refine Ht.reg G (keep := [0, 5, 6, 7, 79]) (e' := [(0, .v .sh (.lst .item x2)), (5, .v .sh (.lst .item x2)), (6, .v .fr (.int .i64 x3)), (7, .v .fr (.int .i64 s8)), (79, .v .fr (.bool (cond (cmp .gtr s8 0) (cond (cmp .gtr (rd .item x2 (ar .sub .i64 s8 1)).Key (rd .item x2 s8).Key) true (cond (cmp .eql (rd .item x2 (ar .sub .i64 s8 1)).Key (rd .item x2 s8).Key) (cmp .geq (rd .item x2 (ar .sub .i64 s8 1)).Val (rd .item x2 s8).Val) false)) false)))]) (obs := [(((cmp .gtr s8 0) && true) = true → inb (ar .sub .i64 s8 1) (lenI .item x2)), (((!(cmp .gtr (rd .item x2 (ar .sub .i64 s8 1)).Key (rd .item x2 s8).Key)) && ((cmp .gtr s8 0) && true)) = true → inb (ar .sub .i64 s8 1) (lenI .item x2)), (((cmp .eql (rd .item x2 (ar .sub .i64 s8 1)).Key (rd .item x2 s8).Key) && ((!(cmp .gtr (rd .item x2 (ar .sub .i64 s8 1)).Key (rd .item x2 s8).Key)) && ((cmp .gtr s8 0) && true))) = true → inb (ar .sub .i64 s8 1) (lenI .item x2))]) (by kernel_rfl) hb.1 ?_
      refine Ht.cond (o := .tmp 79) (c1 := (nav (bodyOf (Try.f47)) [1, 0, 1, 0, 0, 1, 1, 0, 0, 1, 1, 1, 0])) (c2 := (nav (bodyOf (Try.f47)) [1, 0, 1, 0, 0, 1, 1, 0, 0, 1, 1, 1, 1])) (b := (cond (cmp .gtr s8 0) (cond (cmp .gtr (rd .item x2 (ar .sub .i64 s8 1)).Key (rd .item x2 s8).Key) true (cond (cmp .eql (rd .item x2 (ar .sub .i64 s8 1)).Key (rd .item x2 s8).Key) (cmp .geq (rd .item x2 (ar .sub .i64 s8 1)).Val (rd .item x2 s8).Val) false)) false)) (by kernel_rfl) (by kernel_rfl) (fun h11 => ?_) (fun h11 => ?_)
      · have hb := hb.2.1 h11
        refine Ht.seq (c1 := (nav (bodyOf (Try.f47)) [1, 0, 1, 0, 0, 1, 1, 0, 0, 1, 1, 1, 0, 0])) (c2 := (nav (bodyOf (Try.f47)) [1, 0, 1, 0, 0, 1, 1, 0, 0, 1, 1, 1, 0, 1])) (by kernel_rfl) ?_
        refine Ht.reg G (keep := [2]) (e' := [(2, .v .fr (.bool false))]) (obs := []) (by kernel_rfl) hb.1 ?_
        refine Ht.ret (by kernel_rfl) ?_
        exact hr false (by simp only [impl_SetOk_c2_r, h9, h10, h11]) _ (by kernel_rfl)
      · have hb := hb.2.2 h11
        refine Ht.skip (by kernel_rfl) ?_
        refine Ht.reg G (keep := [0, 5, 6, 7]) (e' := [(0, .v .sh (.lst .item x2)), (5, .v .sh (.lst .item x2)), (6, .v .fr (.int .i64 x3)), (7, .v .fr (.int .i64 (ar .add .i64 s8 1)))]) (obs := []) (by kernel_rfl) hb.1 ?_
        exact hn (ar .add .i64 s8 1) (by simp only [impl_SetOk_c2_r, h9, h10, h11]) _ (Weak.cast (pat := [(0, .sh), (5, .sh), (6, .fr), (7, .fr)]) (by kernel_rfl) (by kernel_rfl))
  · have hb := hob.2.2 h9
    refine Ht.exit (i := 0) (by kernel_rfl) ?_
    exact hx (by simp only [impl_SetOk_c2_r, h9]) _ (Weak.cast (pat := [(0, .sh)]) (by kernel_rfl) (by kernel_rfl))

noncomputable def impl_SetOk_c2 (x2 : List Item) (x3 : Int) : Oc Empty Bool Unit Empty Empty := lpV (fun s => ocLp ((fun (s : Int) => impl_SetOk_c2_r x2 x3 s) s)) 0
def impl_SetOk_c2_ob (x2 : List Item) (x3 : Int) : Prop := LpT (fun s => ocLp ((fun (s : Int) => impl_SetOk_c2_r x2 x3 s) s)) (fun s => impl_SetOk_c2_r_ob x2 x3 s) 0
set_option maxRecDepth 100000 in
theorem impl_SetOk_c2_ok (G : Good Try.prog tt sp_impl_SetOk) {fr : Fr} (x2 : List Item) (x3 : Int) (hob : impl_SetOk_c2_ob x2 x3) {n r : Env → Prop} {x : Nat → Env → Prop}
    (hr : ∀ q, (impl_SetOk_c2 x2 x3) = .r q → ∀ e, retAv tt e [.tmp 2] (.one .fr .bool) = some (RT.av (.one .fr .bool) q) → r e)
    (hx : (impl_SetOk_c2 x2 x3) = .x () → ∀ e, Weak e [(0, .v .sh (.lst .item x2))] → x 0 e) :
    Ht Try.prog ⟨(Try.f47).ntmps, none, []⟩ fr (nav (bodyOf (Try.f47)) [1, 0, 1, 0]) [(0, .v .sh (.lst .item x2)), (5, .v .sh (.lst .item x2)), (6, .v .fr (.int .i64 x3)), (7, .v .fr (.int .i64 0))] n r x := by
  unfold impl_SetOk_c2_ob at hob
  refine Ht.weak (e' := (fun (s : Int) => [(0, .v .sh (.lst .item x2)), (5, .v .sh (.lst .item x2)), (6, .v .fr (.int .i64 x3)), (7, .v .fr (.int .i64 s))]) 0) (Weak.cast (pat := [(0, .sh), (5, .sh), (6, .fr), (7, .fr)]) (by kernel_rfl) (by kernel_rfl)) ?_
  refine Ht.loopOc (c1 := (nav (bodyOf (Try.f47)) [1, 0, 1, 0, 0])) (by kernel_rfl) (fun (s : Int) => [(0, .v .sh (.lst .item x2)), (5, .v .sh (.lst .item x2)), (6, .v .fr (.int .i64 x3)), (7, .v .fr (.int .i64 s))]) (fun (s : Int) => impl_SetOk_c2_r x2 x3 s) hob (RP := fun q e => retAv tt e [.tmp 2] (.one .fr .bool) = some (RT.av (.one .fr .bool) q)) (XP := (fun i _ e => i = 0 ∧ Weak e [(0, .v .sh (.lst .item x2))])) (YP := (fun _ _ _ => False)) (ZP := (fun _ _ _ => False)) (fun s hs => ?_) ?_ ?_ ?_ ?_
  · refine impl_SetOk_c2_r_ok G x2 x3 s hs (fun q13 h e hw => ⟨q13, h, hw⟩) (fun q h e he => ⟨q, h, he⟩) (fun h e hw => .inl ⟨(), h, rfl, hw⟩)
  · exact fun q e h he => hr q h e he
  · rintro i q e h ⟨rfl, hw⟩
    exact hx h e hw
  · exact fun _ _ _ _ h => h.elim
  · exact fun _ _ _ _ h => h.elim


noncomputable def impl_SetOk_c1 (x1 : List Item) : Oc Unit Bool Empty Empty Empty :=
  match (impl_SetOk_c2 x1 (lenI .item x1)) with
  | .r q14 =>
    .r q14
  | .x () =>
    .n ()
  | .n q => q.elim
  | .y q => q.elim
  | .z q => q.elim
def impl_SetOk_c1_ob (x1 : List Item) : Prop :=
  ((True)) ∧
  (impl_SetOk_c2_ob x1 (lenI .item x1)) ∧
  ((impl_SetOk_c2 x1 (lenI .item x1)) = .x () →
    True)
set_option maxRecDepth 100000 in
theorem impl_SetOk_c1_ok (G : Good Try.prog tt sp_impl_SetOk) {fr : Fr} (x1 : List Item) (hob : impl_SetOk_c1_ob x1) {n r : Env → Prop} {x : Nat → Env → Prop}
    (hn : (impl_SetOk_c1 x1) = .n () → ∀ e, Weak e [(0, .v .sh (.lst .item x1))] → n e)
    (hr : ∀ q, (impl_SetOk_c1 x1) = .r q → ∀ e, retAv tt e [.tmp 2] (.one .fr .bool) = some (RT.av (.one .fr .bool) q) → r e) :
    Ht Try.prog ⟨(Try.f47).ntmps, none, []⟩ fr (nav (bodyOf (Try.f47)) [1, 0]) [(0, .v .sh (.lst .item x1))] n r x := by
  unfold impl_SetOk_c1_ob at hob
  refine Ht.seq (c1 := (nav (bodyOf (Try.f47)) [1, 0, 0])) (c2 := (nav (bodyOf (Try.f47)) [1, 0, 1])) (by kernel_rfl) ?_
  refine Ht.reg G (keep := [0, 5, 6, 7]) (e' := [(0, .v .sh (.lst .item x1)), (5, .v .sh (.lst .item x1)), (6, .v .fr (.int .i64 (lenI .item x1))), (7, .v .fr (.int .i64 0))]) (obs := []) (by kernel_rfl) hob.1 ?_
  refine Ht.block (id := 0) (c1 := (nav (bodyOf (Try.f47)) [1, 0, 1, 0])) (by kernel_rfl) ?_
  refine Ht.weak (e' := [(0, .v .sh (.lst .item x1)), (5, .v .sh (.lst .item x1)), (6, .v .fr (.int .i64 (lenI .item x1))), (7, .v .fr (.int .i64 0))]) (Weak.cast (pat := [(0, .same), (5, .same), (6, .same), (7, .same)]) (by kernel_rfl) (by kernel_rfl)) ?_
  refine impl_SetOk_c2_ok G x1 (lenI .item x1) hob.2.1 (fun q h15 e he => hr q (by simp only [impl_SetOk_c1, h15]) e he) (fun h16 e hw => ?_)
  · have hb := hob.2.2 h16
    exact hn (by simp only [impl_SetOk_c1, h16]) e (hw.trans (Weak.cast (pat := [(0, .sh)]) (by kernel_rfl) (by kernel_rfl)))

noncomputable def impl_SetOk_b (a0 : List Item) : Oc Empty Bool Empty Empty Empty :=
  match (impl_SetOk_c1 a0) with
  | .n () =>
    .r (cmp .leq (lenI .item a0) 400)
  | .r q18 =>
    .r q18
  | .x q => q.elim
  | .y q => q.elim
  | .z q => q.elim
def impl_SetOk_b_ob (a0 : List Item) : Prop :=
  ((True)) ∧
  (impl_SetOk_c1_ob a0) ∧
  ((impl_SetOk_c1 a0) = .n () →
    ((True)) ∧
    True)
set_option maxRecDepth 100000 in
theorem impl_SetOk_b_ok (G : Good Try.prog tt sp_impl_SetOk) {fr : Fr} (a0 : List Item) (hob : impl_SetOk_b_ob a0) {n r : Env → Prop} {x : Nat → Env → Prop}
    (hr : ∀ q, (impl_SetOk_b a0) = .r q → ∀ e, retAv tt e [.tmp 2] (.one .fr .bool) = some (RT.av (.one .fr .bool) q) → r e) :
    Ht Try.prog ⟨(Try.f47).ntmps, none, []⟩ fr (nav (bodyOf (Try.f47)) []) [(0, .v .sh (.lst .item a0))] n r x := by
  unfold impl_SetOk_b_ob at hob
  refine Ht.seq (c1 := (nav (bodyOf (Try.f47)) [0])) (c2 := (nav (bodyOf (Try.f47)) [1])) (by kernel_rfl) ?_
  refine Ht.reg G (keep := [0]) (e' := [(0, .v .sh (.lst .item a0))]) (obs := []) (by kernel_rfl) hob.1 ?_
  refine Ht.seq (c1 := (nav (bodyOf (Try.f47)) [1, 0])) (c2 := (nav (bodyOf (Try.f47)) [1, 1])) (by kernel_rfl) ?_
  refine Ht.weak (e' := [(0, .v .sh (.lst .item a0))]) (Weak.cast (pat := [(0, .same)]) (by kernel_rfl) (by kernel_rfl)) ?_
  refine impl_SetOk_c1_ok G a0 hob.2.1 (fun h17 e hw => ?_) (fun q h19 e he => hr q (by simp only [impl_SetOk_b, h19]) e he)
  · have hb := hob.2.2 h17
    refine Ht.weak hw ?_
    refine Ht.seq (c1 := (nav (bodyOf (Try.f47)) [1, 1, 0])) (c2 := (nav (bodyOf (Try.f47)) [1, 1, 1])) (by kernel_rfl) ?_
    refine Ht.reg G (keep := [2]) (e' := [(2, .v .fr (.bool (cmp .leq (lenI .item a0) 400)))]) (obs := []) (by kernel_rfl) hb.1 ?_
    refine Ht.ret (by kernel_rfl) ?_
    exact hr (cmp .leq (lenI .item a0) 400) (by simp only [impl_SetOk_b, h17]) _ (by kernel_rfl)

noncomputable def v_impl_SetOk (a0 : List Item) : Bool := ocR (impl_SetOk_b a0)
def p_impl_SetOk (a0 : List Item) : Prop := impl_SetOk_b_ob a0
noncomputable def s_impl_SetOk : Spec := ⟨[(.lst .item)], .one .fr .bool, false, fun x => (v_impl_SetOk x.1, 0), fun x => p_impl_SetOk x.1⟩
theorem con_impl_SetOk (G : Good Try.prog tt sp_impl_SetOk) : Con Try.prog 47 s_impl_SetOk :=
  con_of G.htt (fn := Try.f47) (c := bodyOf Try.f47) (by kernel_rfl) (by kernel_rfl) (by kernel_rfl) (rs := [.tmp 2]) (by kernel_rfl) (by kernel_rfl) (fun _ => rfl) fun x hp fr _ _ _ =>
    impl_SetOk_b_ok G (fr := fr) x.1 hp
      (fun q h e he => ⟨by rw [show (s_impl_SetOk.val x).1 = q from congrArg ocR h]; exact he, trivial⟩)

noncomputable def sp_impl_once : SP := []
noncomputable def impl_once_c3 (x18 : List Item) (x19 : List Item) (_x20 : Int) (x21 : Int) : Oc ((List Item)) (List Item) Empty Empty Empty :=
  match (cmp .gtr (rd .item x19 x21).Count 0) with
  | true =>
    .n (x18 ++ [(Item.mk (rd .item x19 x21).Key (rd .item x19 x21).Val 1)])
  | false =>
    .n x18
def impl_once_c3_ob (x18 : List Item) (x19 : List Item) (_x20 : Int) (x21 : Int) : Prop :=
  ((inb x21 (lenI .item x19)) ∧ (True)) ∧
  ((True)) ∧
  ((cmp .gtr (rd .item x19 x21).Count 0) = true →
    ((lim (lenI .item x18) (lenI .item [(Item.mk (rd .item x19 x21).Key (rd .item x19 x21).Val 1)])) ∧ (True)) ∧
    True) ∧ ((cmp .gtr (rd .item x19 x21).Count 0) = false →
    True)
set_option maxRecDepth 100000 in
theorem impl_once_c3_ok (G : Good Try.prog tt sp_impl_once) {fr : Fr} (x18 : List Item) (x19 : List Item) (x20 : Int) (x21 : Int) (hob : impl_once_c3_ob x18 x19 x20 x21) {n r : Env → Prop} {x : Nat → Env → Prop}
    (hn : ∀ (q23 : List Item), (impl_once_c3 x18 x19 x20 x21) = .n q23 → ∀ e, Weak e [(3, .v (.acc true) (.lst .item q23)), (7, .v .sh (.lst .item x19)), (8, .v .fr (.int .i64 x20)), (9, .v .fr (.int .i64 x21))] → n e)
    (_hr : ∀ q, (impl_once_c3 x18 x19 x20 x21) = .r q → ∀ e, retAv tt e [.tmp 2] (.one (.acc true) (.lst .item)) = some (RT.av (.one (.acc true) (.lst .item)) q) → r e) :
    Ht Try.prog ⟨(Try.f125).ntmps, none, []⟩ fr (nav (bodyOf (Try.f125)) [1, 1, 0, 1, 0, 0, 1, 1, 0]) [(3, .v (.acc true) (.lst .item x18)), (7, .v .sh (.lst .item x19)), (8, .v .fr (.int .i64 x20)), (9, .v .fr (.int .i64 x21))] n r x := by
  unfold impl_once_c3_ob at hob
  refine Ht.block (id := 1) (c1 := (nav (bodyOf (Try.f125)) [1, 1, 0, 1, 0, 0, 1, 1, 0, 0])) (by kernel_rfl) ?_
  refine Ht.seq (c1 := (nav (bodyOf (Try.f125)) [1, 1, 0, 1, 0, 0, 1, 1, 0, 0, 0])) (c2 := (nav (bodyOf (Try.f125)) [1, 1, 0, 1, 0, 0, 1, 1, 0, 0, 1])) (by kernel_rfl) ?_
  refine Ht.reg G (keep := [3, 5, 7, 8, 9]) (e' := [(3, .v (.acc true) (.lst .item x18)), (5, .box [(.fr, .int .i64 (rd .item x19 x21).Key), (.fr, .int .i64 (rd .item x19 x21).Val), (.fr, .int .i64 (rd .item x19 x21).Count)]), (7, .v .sh (.lst .item x19)), (8, .v .fr (.int .i64 x20)), (9, .v .fr (.int .i64 x21))]) (obs := [inb x21 (lenI .item x19)]) (by kernel_rfl) hob.1 ?_
  refine Ht.seq (c1 := (nav (bodyOf (Try.f125)) [1, 1, 0, 1, 0, 0, 1, 1, 0, 0, 1, 0])) (c2 := (nav (bodyOf (Try.f125)) [1, 1, 0, 1, 0, 0, 1, 1, 0, 0, 1, 1])) (by kernel_rfl) ?_
  refine Ht.reg G (keep := [3, 5, 7, 8, 9, 15]) (e' := [(3, .v (.acc true) (.lst .item x18)), (5, .box [(.fr, .int .i64 (rd .item x19 x21).Key), (.fr, .int .i64 (rd .item x19 x21).Val), (.fr, .int .i64 (rd .item x19 x21).Count)]), (7, .v .sh (.lst .item x19)), (8, .v .fr (.int .i64 x20)), (9, .v .fr (.int .i64 x21)), (15, .v .fr (.bool (cmp .gtr (rd .item x19 x21).Count 0)))]) (obs := []) (by kernel_rfl) hob.2.1 ?_
  refine Ht.cond (o := .tmp 15) (c1 := (nav (bodyOf (Try.f125)) [1, 1, 0, 1, 0, 0, 1, 1, 0, 0, 1, 1, 0])) (c2 := (nav (bodyOf (Try.f125)) [1, 1, 0, 1, 0, 0, 1, 1, 0, 0, 1, 1, 1])) (b := (cmp .gtr (rd .item x19 x21).Count 0)) (by kernel_rfl) (by kernel_rfl) (fun h22 => ?_) (fun h22 => ?_)
  · have hb := hob.2.2.1 h22
    refine Ht.reg G (keep := [3, 7, 8, 9]) (e' := [(3, .v (.acc true) (.lst .item (x18 ++ [(Item.mk (rd .item x19 x21).Key (rd .item x19 x21).Val 1)]))), (7, .v .sh (.lst .item x19)), (8, .v .fr (.int .i64 x20)), (9, .v .fr (.int .i64 x21))]) (obs := [lim (lenI .item x18) (lenI .item [(Item.mk (rd .item x19 x21).Key (rd .item x19 x21).Val 1)])]) (by kernel_rfl) hb.1 ?_
    exact hn (x18 ++ [(Item.mk (rd .item x19 x21).Key (rd .item x19 x21).Val 1)]) (by simp only [impl_once_c3, h22]) _ (Weak.cast (pat := [(3, (.acc true)), (7, .sh), (8, .fr), (9, .fr)]) (by kernel_rfl) (by kernel_rfl))
  · have hb := hob.2.2.2 h22
    refine Ht.skip (by kernel_rfl) ?_
    exact hn x18 (by simp only [impl_once_c3, h22]) _ (Weak.cast (pat := [(3, (.acc true)), (7, .sh), (8, .fr), (9, .fr)]) (by kernel_rfl) (by kernel_rfl))

noncomputable def impl_once_c2_r (x2 : List Item) (x3 : Int) (s15 : List Item) (s16 : Int) : Oc ((List Item) × Int) (List Item) ((List Item)) Empty Empty :=
  match (cmp .lss s16 x3) with
  | true =>
    match (impl_once_c3 s15 x2 x3 s16) with
    | .n q24 =>
      .n (q24, (ar .add .i64 s16 1))
    | .r q26 =>
      .r q26
    | .x q => q.elim
    | .y q => q.elim
    | .z q => q.elim
  | false =>
    .x s15
def impl_once_c2_r_ob (x2 : List Item) (x3 : Int) (s15 : List Item) (s16 : Int) : Prop :=
  ((True)) ∧
  ((cmp .lss s16 x3) = true →
    (impl_once_c3_ob s15 x2 x3 s16) ∧
    (∀ (q24 : List Item), (impl_once_c3 s15 x2 x3 s16) = .n q24 →
      ((True)) ∧
      True)) ∧ ((cmp .lss s16 x3) = false →
    True)
set_option maxRecDepth 100000 in
theorem impl_once_c2_r_ok (G : Good Try.prog tt sp_impl_once) {fr : Fr} (x2 : List Item) (x3 : Int) (s15 : List Item) (s16 : Int) (hob : impl_once_c2_r_ob x2 x3 s15 s16) {n r : Env → Prop} {x : Nat → Env → Prop}
    (hn : ∀ (q31 : List Item) (q32 : Int), (impl_once_c2_r x2 x3 s15 s16) = .n (q31, q32) → ∀ e, Weak e [(3, .v (.acc true) (.lst .item q31)), (7, .v .sh (.lst .item x2)), (8, .v .fr (.int .i64 x3)), (9, .v .fr (.int .i64 q32))] → n e)
    (hr : ∀ q, (impl_once_c2_r x2 x3 s15 s16) = .r q → ∀ e, retAv tt e [.tmp 2] (.one (.acc true) (.lst .item)) = some (RT.av (.one (.acc true) (.lst .item)) q) → r e)
    (hx : ∀ (q30 : List Item), (impl_once_c2_r x2 x3 s15 s16) = .x q30 → ∀ e, Weak e [(3, .v (.acc true) (.lst .item q30))] → x 0 e) :
    Ht Try.prog ⟨(Try.f125).ntmps, none, []⟩ fr (nav (bodyOf (Try.f125)) [1, 1, 0, 1, 0, 0]) [(3, .v (.acc true) (.lst .item s15)), (7, .v .sh (.lst .item x2)), (8, .v .fr (.int .i64 x3)), (9, .v .fr (.int .i64 s16))] n r x := by
  unfold impl_once_c2_r_ob at hob
  refine Ht.seq (c1 := (nav (bodyOf (Try.f125)) [1, 1, 0, 1, 0, 0, 0])) (c2 := (nav (bodyOf (Try.f125)) [1, 1, 0, 1, 0, 0, 1])) (by kernel_rfl) ?_
  refine Ht.reg G (keep := [3, 7, 8, 9, 10]) (e' := [(3, .v (.acc true) (.lst .item s15)), (7, .v .sh (.lst .item x2)), (8, .v .fr (.int .i64 x3)), (9, .v .fr (.int .i64 s16)), (10, .v .fr (.bool (cmp .lss s16 x3)))]) (obs := []) (by kernel_rfl) hob.1 ?_
  refine Ht.seq (c1 := (nav (bodyOf (Try.f125)) [1, 1, 0, 1, 0, 0, 1, 0])) (c2 := (nav (bodyOf (Try.f125)) [1, 1, 0, 1, 0, 0, 1, 1])) (by kernel_rfl) ?_
  refine Ht.cond (o := .tmp 10) (c1 := (nav (bodyOf (Try.f125)) [1, 1, 0, 1, 0, 0, 1, 0, 0])) (c2 := (nav (bodyOf (Try.f125)) [1, 1, 0, 1, 0, 0, 1, 0, 1])) (b := (cmp .lss s16 x3)) (by kernel_rfl) (by kernel_rfl) (fun h17 => ?_) (fun h17 => ?_)
  · have hb := hob.2.1 h17
    refine Ht.skip (by kernel_rfl) ?_
    refine Ht.seq (c1 := (nav (bodyOf (Try.f125)) [1, 1, 0, 1, 0, 0, 1, 1, 0])) (c2 := (nav (bodyOf (Try.f125)) [1, 1, 0, 1, 0, 0, 1, 1, 1])) (by kernel_rfl) ?_
    refine Ht.weak (e' := [(3, .v (.acc true) (.lst .item s15)), (7, .v .sh (.lst .item x2)), (8, .v .fr (.int .i64 x3)), (9, .v .fr (.int .i64 s16))]) (Weak.cast (pat := [(3, .same), (7, .same), (8, .same), (9, .same)]) (by kernel_rfl) (by kernel_rfl)) ?_
    refine impl_once_c3_ok G s15 x2 x3 s16 hb.1 (fun q24 h25 e hw => ?_) (fun q h27 e he => hr q (by simp only [impl_once_c2_r, h17, h27]) e he)
    · have hb := hb.2 q24 h25
      refine Ht.weak hw ?_
      refine Ht.reg G (keep := [3, 7, 8, 9]) (e' := [(3, .v (.acc true) (.lst .item q24)), (7, .v .sh (.lst .item x2)), (8, .v .fr (.int .i64 x3)), (9, .v .fr (.int .i64 (ar .add .i64 s16 1)))]) (obs := []) (by kernel_rfl) hb.1 ?_
      exact hn q24 (ar .add .i64 s16 1) (by simp only [impl_once_c2_r, h17, h25]) _ (Weak.cast (pat := [(3, (.acc true)), (7, .sh), (8, .fr), (9, .fr)]) (by kernel_rfl) (by kernel_rfl))
  · have hb := hob.2.2 h17
    refine Ht.exit (i := 0) (by kernel_rfl) ?_
    exact hx s15 (by simp only [impl_once_c2_r, h17]) _ (Weak.cast (pat := [(3, (.acc true))]) (by kernel_rfl) (by kernel_rfl))

noncomputable def impl_once_c2 (x2 : List Item) (x3 : Int) : Oc Empty (List Item) ((List Item)) Empty Empty := lpV (fun s => ocLp ((fun (s : (List Item) × Int) => impl_once_c2_r x2 x3 s.1 s.2) s)) ([], 0)
def impl_once_c2_ob (x2 : List Item) (x3 : Int) : Prop := LpT (fun s => ocLp ((fun (s : (List Item) × Int) => impl_once_c2_r x2 x3 s.1 s.2) s)) (fun s => impl_once_c2_r_ob x2 x3 s.1 s.2) ([], 0)
set_option maxRecDepth 100000 in
theorem impl_once_c2_ok (G : Good Try.prog tt sp_impl_once) {fr : Fr} (x2 : List Item) (x3 : Int) (hob : impl_once_c2_ob x2 x3) {n r : Env → Prop} {x : Nat → Env → Prop}
    (hr : ∀ q, (impl_once_c2 x2 x3) = .r q → ∀ e, retAv tt e [.tmp 2] (.one (.acc true) (.lst .item)) = some (RT.av (.one (.acc true) (.lst .item)) q) → r e)
    (hx : ∀ (q30 : List Item), (impl_once_c2 x2 x3) = .x q30 → ∀ e, Weak e [(3, .v (.acc true) (.lst .item q30))] → x 0 e) :
    Ht Try.prog ⟨(Try.f125).ntmps, none, []⟩ fr (nav (bodyOf (Try.f125)) [1, 1, 0, 1, 0]) [(3, .v (.acc true) (.lst .item [])), (7, .v .sh (.lst .item x2)), (8, .v .fr (.int .i64 x3)), (9, .v .fr (.int .i64 0))] n r x := by
  unfold impl_once_c2_ob at hob
  refine Ht.weak (e' := (fun (s : (List Item) × Int) => [(3, .v (.acc true) (.lst .item s.1)), (7, .v .sh (.lst .item x2)), (8, .v .fr (.int .i64 x3)), (9, .v .fr (.int .i64 s.2))]) ([], 0)) (Weak.cast (pat := [(3, (.acc true)), (7, .sh), (8, .fr), (9, .fr)]) (by kernel_rfl) (by kernel_rfl)) ?_
  refine Ht.loopOc (c1 := (nav (bodyOf (Try.f125)) [1, 1, 0, 1, 0, 0])) (by kernel_rfl) (fun (s : (List Item) × Int) => [(3, .v (.acc true) (.lst .item s.1)), (7, .v .sh (.lst .item x2)), (8, .v .fr (.int .i64 x3)), (9, .v .fr (.int .i64 s.2))]) (fun (s : (List Item) × Int) => impl_once_c2_r x2 x3 s.1 s.2) hob (RP := fun q e => retAv tt e [.tmp 2] (.one (.acc true) (.lst .item)) = some (RT.av (.one (.acc true) (.lst .item)) q)) (XP := (fun i q e => i = 0 ∧ Weak e [(3, .v (.acc true) (.lst .item q))])) (YP := (fun _ _ _ => False)) (ZP := (fun _ _ _ => False)) (fun s hs => ?_) ?_ ?_ ?_ ?_
  · refine impl_once_c2_r_ok G x2 x3 s.1 s.2 hs (fun q31 q32 h e hw => ⟨(q31, q32), h, hw⟩) (fun q h e he => ⟨q, h, he⟩) (fun q30 h e hw => .inl ⟨q30, h, rfl, hw⟩)
  · exact fun q e h he => hr q h e he
  · rintro i q e h ⟨rfl, hw⟩
    exact hx q h e hw
  · exact fun _ _ _ _ h => h.elim
  · exact fun _ _ _ _ h => h.elim


noncomputable def impl_once_c1 (x1 : List Item) : Oc ((List Item)) (List Item) Empty Empty Empty :=
  match (impl_once_c2 x1 (lenI .item x1)) with
  | .r q33 =>
    .r q33
  | .x q35 =>
    .n q35
  | .n q => q.elim
  | .y q => q.elim
  | .z q => q.elim
def impl_once_c1_ob (x1 : List Item) : Prop :=
  ((True)) ∧
  (impl_once_c2_ob x1 (lenI .item x1)) ∧
  (∀ (q35 : List Item), (impl_once_c2 x1 (lenI .item x1)) = .x q35 →
    True)
set_option maxRecDepth 100000 in
theorem impl_once_c1_ok (G : Good Try.prog tt sp_impl_once) {fr : Fr} (x1 : List Item) (hob : impl_once_c1_ob x1) {n r : Env → Prop} {x : Nat → Env → Prop}
    (hn : ∀ (q37 : List Item), (impl_once_c1 x1) = .n q37 → ∀ e, Weak e [(3, .v (.acc true) (.lst .item q37))] → n e)
    (hr : ∀ q, (impl_once_c1 x1) = .r q → ∀ e, retAv tt e [.tmp 2] (.one (.acc true) (.lst .item)) = some (RT.av (.one (.acc true) (.lst .item)) q) → r e) :
    Ht Try.prog ⟨(Try.f125).ntmps, none, []⟩ fr (nav (bodyOf (Try.f125)) [1, 1, 0]) [(0, .v .sh (.lst .item x1)), (3, .v (.acc true) (.lst .item []))] n r x := by
  unfold impl_once_c1_ob at hob
  refine Ht.seq (c1 := (nav (bodyOf (Try.f125)) [1, 1, 0, 0])) (c2 := (nav (bodyOf (Try.f125)) [1, 1, 0, 1])) (by kernel_rfl) ?_
  refine Ht.reg G (keep := [3, 7, 8, 9]) (e' := [(3, .v (.acc true) (.lst .item [])), (7, .v .sh (.lst .item x1)), (8, .v .fr (.int .i64 (lenI .item x1))), (9, .v .fr (.int .i64 0))]) (obs := []) (by kernel_rfl) hob.1 ?_
  refine Ht.block (id := 0) (c1 := (nav (bodyOf (Try.f125)) [1, 1, 0, 1, 0])) (by kernel_rfl) ?_
  refine Ht.weak (e' := [(3, .v (.acc true) (.lst .item [])), (7, .v .sh (.lst .item x1)), (8, .v .fr (.int .i64 (lenI .item x1))), (9, .v .fr (.int .i64 0))]) (Weak.cast (pat := [(3, .same), (7, .same), (8, .same), (9, .same)]) (by kernel_rfl) (by kernel_rfl)) ?_
  refine impl_once_c2_ok G x1 (lenI .item x1) hob.2.1 (fun q h34 e he => hr q (by simp only [impl_once_c1, h34]) e he) (fun q35 h36 e hw => ?_)
  · have hb := hob.2.2 q35 h36
    exact hn q35 (by simp only [impl_once_c1, h36]) e (hw.trans (Weak.cast (pat := [(3, (.acc true))]) (by kernel_rfl) (by kernel_rfl)))

noncomputable def impl_once_b (a0 : List Item) : Oc Empty (List Item) Empty Empty Empty :=
  match (impl_once_c1 a0) with
  | .n q38 =>
    .r q38
  | .r q40 =>
    .r q40
  | .x q => q.elim
  | .y q => q.elim
  | .z q => q.elim
def impl_once_b_ob (a0 : List Item) : Prop :=
  ((True)) ∧
  ((True)) ∧
  (impl_once_c1_ob a0) ∧
  (∀ (q38 : List Item), (impl_once_c1 a0) = .n q38 →
    ((True)) ∧
    True)
set_option maxRecDepth 100000 in
theorem impl_once_b_ok (G : Good Try.prog tt sp_impl_once) {fr : Fr} (a0 : List Item) (hob : impl_once_b_ob a0) {n r : Env → Prop} {x : Nat → Env → Prop}
    (hr : ∀ q, (impl_once_b a0) = .r q → ∀ e, retAv tt e [.tmp 2] (.one (.acc true) (.lst .item)) = some (RT.av (.one (.acc true) (.lst .item)) q) → r e) :
    Ht Try.prog ⟨(Try.f125).ntmps, none, []⟩ fr (nav (bodyOf (Try.f125)) []) [(0, .v .sh (.lst .item a0))] n r x := by
  unfold impl_once_b_ob at hob
  refine Ht.seq (c1 := (nav (bodyOf (Try.f125)) [0])) (c2 := (nav (bodyOf (Try.f125)) [1])) (by kernel_rfl) ?_
  refine Ht.reg G (keep := [0]) (e' := [(0, .v .sh (.lst .item a0))]) (obs := []) (by kernel_rfl) hob.1 ?_
  refine Ht.seq (c1 := (nav (bodyOf (Try.f125)) [1, 0])) (c2 := (nav (bodyOf (Try.f125)) [1, 1])) (by kernel_rfl) ?_
  refine Ht.reg G (keep := [0, 3]) (e' := [(0, .v .sh (.lst .item a0)), (3, .v (.acc true) (.lst .item []))]) (obs := []) (by kernel_rfl) hob.2.1 ?_
  refine Ht.seq (c1 := (nav (bodyOf (Try.f125)) [1, 1, 0])) (c2 := (nav (bodyOf (Try.f125)) [1, 1, 1])) (by kernel_rfl) ?_
  refine Ht.weak (e' := [(0, .v .sh (.lst .item a0)), (3, .v (.acc true) (.lst .item []))]) (Weak.cast (pat := [(0, .same), (3, .same)]) (by kernel_rfl) (by kernel_rfl)) ?_
  refine impl_once_c1_ok G a0 hob.2.2.1 (fun q38 h39 e hw => ?_) (fun q h41 e he => hr q (by simp only [impl_once_b, h41]) e he)
  · have hb := hob.2.2.2 q38 h39
    refine Ht.weak hw ?_
    refine Ht.seq (c1 := (nav (bodyOf (Try.f125)) [1, 1, 1, 0])) (c2 := (nav (bodyOf (Try.f125)) [1, 1, 1, 1])) (by kernel_rfl) ?_
    refine Ht.reg G (keep := [2]) (e' := [(2, .v (.acc true) (.lst .item q38))]) (obs := []) (by kernel_rfl) hb.1 ?_
    refine Ht.ret (by kernel_rfl) ?_
    exact hr q38 (by simp only [impl_once_b, h39]) _ (by kernel_rfl)

noncomputable def v_impl_once (a0 : List Item) : List Item := ocR (impl_once_b a0)
def p_impl_once (a0 : List Item) : Prop := impl_once_b_ob a0
noncomputable def s_impl_once : Spec := ⟨[(.lst .item)], .one (.acc true) (.lst .item), false, fun x => (v_impl_once x.1, 0), fun x => p_impl_once x.1⟩
theorem con_impl_once (G : Good Try.prog tt sp_impl_once) : Con Try.prog 125 s_impl_once :=
  con_of G.htt (fn := Try.f125) (c := bodyOf Try.f125) (by kernel_rfl) (by kernel_rfl) (by kernel_rfl) (rs := [.tmp 2]) (by kernel_rfl) (by kernel_rfl) (fun _ => rfl) fun x hp fr _ _ _ =>
    impl_once_b_ok G (fr := fr) x.1 hp
      (fun q h e he => ⟨by rw [show (s_impl_once.val x).1 = q from congrArg ocR h]; exact he, trivial⟩)


end Go.Proofs.Ytopcofkpggefkaa
