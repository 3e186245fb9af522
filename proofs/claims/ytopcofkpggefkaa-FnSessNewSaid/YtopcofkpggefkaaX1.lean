/-
  Printed by a program: what functions compute, and their contracts (part 1). No statement is proved here.
-/
import Derived.Test.YtopcofkpggefkaaUR
import Derived.Test.YtopcofkpggefkaaProg

namespace Go.Proofs.Ytopcofkpggefkaa
open Go
noncomputable section
set_option maxRecDepth 100000
def tt : TT := [(2, ⟨.scalar, 1, [.int .i64 0], some .int, false⟩),
  (3, ⟨.scalar, 1, [.int .i64 0], some .int, false⟩),
  (4, ⟨.scalar, 1, [.bool false], some .bool, false⟩),
  (5, ⟨.scalar, 1, [.int .u8 0], some .byte, false⟩),
  (6, ⟨.scalar, 1, [.int .u8 0], some .byte, false⟩),
  (7, ⟨(.struct [(0, 1), (1, 1), (2, 1), (3, 1)]), 4, [.int .i64 0, .int .i64 0, .bool false, .int .u8 0], none, false⟩),
  (8, ⟨(.struct [(0, 1), (1, 1), (2, 1), (3, 1)]), 4, [.int .i64 0, .int .i64 0, .bool false, .int .u8 0], none, false⟩),
  (9, ⟨.scalar, 1, [.str ByteArray.empty], some .str, false⟩),
  (10, ⟨.scalar, 1, [.str ByteArray.empty], some .str, false⟩),
  (11, ⟨.scalar, 1, [.str ByteArray.empty], some .str, false⟩),
  (12, ⟨.scalar, 1, [.int .u64 0], none, false⟩),
  (13, ⟨(.struct [(0, 1), (1, 1)]), 2, [.str ByteArray.empty, .int .u64 0], none, false⟩),
  (14, ⟨(.struct [(0, 1), (1, 1)]), 2, [.str ByteArray.empty, .int .u64 0], none, false⟩),
  (21, ⟨.scalar, 1, [.int .i32 0], none, false⟩),
  (22, ⟨(.slice 24), 1, [.nl .plan], none, false⟩),
  (23, ⟨(.struct [(0, 1), (1, 1), (2, 1)]), 3, [.int .i64 0, .int .i64 0, .nl .plan], some .plan, false⟩),
  (24, ⟨(.struct [(0, 1), (1, 1), (2, 1)]), 3, [.int .i64 0, .int .i64 0, .nl .plan], some .plan, false⟩),
  (26, ⟨(.slice 28), 1, [.nl .plan], none, false⟩),
  (27, ⟨(.struct [(0, 1), (1, 1), (2, 1)]), 3, [.int .i64 0, .int .i64 0, .nl .plan], some .plan, false⟩),
  (28, ⟨(.struct [(0, 1), (1, 1), (2, 1)]), 3, [.int .i64 0, .int .i64 0, .nl .plan], some .plan, false⟩),
  (29, ⟨(.slice 31), 1, [.nl .lrow], none, false⟩),
  (30, ⟨(.slice 74), 1, [.nl .time], none, false⟩),
  (31, ⟨(.slice 76), 1, [.nl .row], some .lrow, false⟩),
  (32, ⟨(.struct [(0, 3), (3, 1), (4, 1), (5, 1)]), 6, [.int .i64 0, .int .i64 0, .nl .plan, .nl .lrow, .nl .time, .nl .row], some .sess, false⟩),
  (33, ⟨(.struct [(0, 3), (3, 1), (4, 1), (5, 1)]), 6, [.int .i64 0, .int .i64 0, .nl .plan, .nl .lrow, .nl .time, .nl .row], some .sess, false⟩),
  (42, ⟨(.slice 100), 1, [.nl .item], some .litem, false⟩),
  (44, ⟨(.slice 64), 1, [.nl .item], some .litem, false⟩),
  (50, ⟨(.slice 106), 1, [.nl .row], some .lrow, false⟩),
  (59, ⟨(.slice 5), 1, [.nl .byte], none, false⟩),
  (63, ⟨(.struct [(0, 1), (1, 1), (2, 1)]), 3, [.int .i64 0, .int .i64 0, .int .i64 0], some .item, true⟩),
  (64, ⟨(.struct [(0, 1), (1, 1), (2, 1)]), 3, [.int .i64 0, .int .i64 0, .int .i64 0], some .item, true⟩),
  (73, ⟨(.struct [(0, 1), (1, 1)]), 2, [.int .i64 0, .int .i64 0], some .time, true⟩),
  (74, ⟨(.struct [(0, 1), (1, 1)]), 2, [.int .i64 0, .int .i64 0], some .time, true⟩),
  (75, ⟨(.struct [(0, 1), (1, 1), (2, 2), (4, 1)]), 5, [.int .i64 0, .int .i64 0, .int .i64 0, .int .i64 0, .int .i64 0], some .row, true⟩),
  (76, ⟨(.struct [(0, 1), (1, 1), (2, 2), (4, 1)]), 5, [.int .i64 0, .int .i64 0, .int .i64 0, .int .i64 0, .int .i64 0], some .row, true⟩),
  (100, ⟨(.struct [(0, 1), (1, 1), (2, 1)]), 3, [.int .i64 0, .int .i64 0, .int .i64 0], some .item, true⟩),
  (104, ⟨(.struct [(0, 1), (1, 1)]), 2, [.int .i64 0, .int .i64 0], some .time, true⟩),
  (105, ⟨(.struct [(0, 1), (1, 1), (2, 2), (4, 1)]), 5, [.int .i64 0, .int .i64 0, .int .i64 0, .int .i64 0, .int .i64 0], some .row, true⟩),
  (106, ⟨(.struct [(0, 1), (1, 1), (2, 2), (4, 1)]), 5, [.int .i64 0, .int .i64 0, .int .i64 0, .int .i64 0, .int .i64 0], some .row, true⟩),
  (116, ⟨(.slice 3), 1, [.nl .int], none, false⟩),
  (131, ⟨(.struct [(0, 1), (1, 1)]), 2, [.nl .byte, .int .i64 0], none, false⟩),
  (132, ⟨(.struct [(0, 1), (1, 1)]), 2, [.nl .byte, .int .i64 0], none, false⟩),
  (145, ⟨.scalar, 1, [.int .u64 0], none, false⟩),
  (152, ⟨.scalar, 1, [.int .u64 0], none, false⟩),
  (164, ⟨.scalar, 1, [.int .u32 0], none, false⟩),
  (166, ⟨.scalar, 1, [.int .u64 0], none, false⟩),
  (168, ⟨.scalar, 1, [.int .i64 0], some .int, false⟩),
  (180, ⟨.scalar, 1, [.int .u64 0], none, false⟩),
  (197, ⟨.scalar, 1, [.int .u8 0], some .byte, false⟩),
  (198, ⟨.scalar, 1, [.int .u8 0], some .byte, false⟩),
  (201, ⟨.scalar, 1, [.int .i32 0], none, false⟩),
  (202, ⟨.scalar, 1, [.int .i32 0], none, false⟩),
  (205, ⟨(.struct [(0, 1), (1, 1)]), 2, [.str ByteArray.empty, .int .u8 0], none, false⟩),
  (206, ⟨(.struct [(0, 1), (1, 1)]), 2, [.str ByteArray.empty, .int .u8 0], none, false⟩)]
def sp_spec_l6Open : SP := []
abbrev F94 : Fnn := ⟨[.tmp 2], .rdr, none, []⟩
abbrev rv94 : (LB × Int) → RV := fun q => (some (RT.av (.rdr) q), .dead)
abbrev Ok94 (fr : Fr) {A X Y Z : Type} (S : SubP ((LB × Int)) A X Y Z) : Prop := SubOk Try.prog tt ⟨Try.f94.ntmps, none, []⟩ fr (bodyOf Try.f94) F94 S
def spec_l6Open_c1_t (x1 : LB) : Tr ((LB × Int)) LB Empty Empty Empty :=
  .c (cmp .gtr (lenI .byte x1) 2000)
  (.w [le3 0 2000 (lenI .byte x1)] (.l (.n (List.drop (Int.toNat 0) (List.take (Int.toNat 2000) x1)))))
  (.l (.n x1))
def spec_l6Open_c1 := fun x1 => (spec_l6Open_c1_t x1).val
def spec_l6Open_c1_ob := fun x1 => (spec_l6Open_c1_t x1).ob
def spec_l6Open_c1_S := fun x1 => SubP.mk (spec_l6Open_c1 x1) (spec_l6Open_c1_ob x1) [0,1] [(0, .S .byte x1)] rv94 (fun q => [(0, .S .byte q)]) nE nE nE
theorem spec_l6Open_c1_ok (G : Good Try.prog tt sp_spec_l6Open) {fr : Fr} : ∀ x1, Ok94 fr (spec_l6Open_c1_S x1) :=
  fun x1 => run_ok G [] trivial [(1,[0,5]),(2,[0])] [] [] (spec_l6Open_c1_t x1) rfl rfl (by kernel_rfl)
def spec_l6Open_b_t (a0 : LB) : Tr ((LB × Int)) Empty Empty Empty Empty :=
  .s (spec_l6Open_c1_S a0) (fun q4 => .l (.r (q4, 0))) nE nE nE
def spec_l6Open_b := fun a0 => (spec_l6Open_b_t a0).val
def spec_l6Open_b_ob := fun a0 => (spec_l6Open_b_t a0).ob
def spec_l6Open_b_S := fun a0 => SubP.mk (spec_l6Open_b a0) (spec_l6Open_b_ob a0) [] [(0, .S .byte a0)] rv94 nE nE nE nE
theorem spec_l6Open_b_ok (G : Good Try.prog tt sp_spec_l6Open) {fr : Fr} : ∀ a0, Ok94 fr (spec_l6Open_b_S a0) :=
  fun a0 => run_ok G [([0,1], fun e => ⟨spec_l6Open_c1_S (gL .byte e 0 0)⟩)] ⟨fun _ => ⟨rfl, spec_l6Open_c1_ok G _⟩, trivial⟩ [(0,[0]),(3,[2])] [] [] (spec_l6Open_b_t a0) rfl rfl (by kernel_rfl)
def v_spec_l6Open (a0 : LB) : (LB × Int) := ocR (spec_l6Open_b a0)
def p_spec_l6Open (a0 : LB) : Prop := spec_l6Open_b_ob a0
def s_spec_l6Open : Spec := ⟨[(.lst .byte)], .rdr, false, fun x => (v_spec_l6Open x.1, 0), fun x => p_spec_l6Open x.1⟩
theorem con_spec_l6Open (G : Good Try.prog tt sp_spec_l6Open) : Con Try.prog 94 s_spec_l6Open :=
  con_run (pts := [(.lst .byte)]) (rt := .rdr) (o := fun x => spec_l6Open_b x.1) (ob := fun x => spec_l6Open_b_ob x.1) G (fn := Try.f94) (c := bodyOf Try.f94) (by kernel_rfl) (by kernel_rfl) (by kernel_rfl) (rs := [.tmp 2]) (fz := F94.fz) (by kernel_rfl) (by kernel_rfl) (fun _ => rfl) rfl (fun x => spec_l6Open_b_S x.1) (fun _ => ⟨rfl, rfl, rfl, rfl, rfl⟩) (fun x _ => spec_l6Open_b_ok G x.1)

def sp_spec_l6Rd_pick : SP := []
abbrev F98 : Fnn := ⟨[.tmp 4], .one .fr (.int .i64), some 0, []⟩
abbrev rv98 (b : LB) : Int × Int → RV := fun q => (some (RT.av (.one .fr (.int .i64)) q.1), .box [(.sh, .lst .byte b), (.fr, .i q.2)])
abbrev Ok98 (fr : Fr) {A X Y Z : Type} (S : SubP (Int × Int) A X Y Z) : Prop := SubOk Try.prog tt ⟨Try.f98.ntmps, some 0, []⟩ fr (bodyOf Try.f98) F98 S
def spec_l6Rd_pick_b_t (a0 : (LB × Int)) (a1 : Int) : Tr (Int × Int) Empty Empty Empty Empty :=
  .c (cond (cmp .lss a1 1) true (cmp .eql (lenI .byte a0.1) 0))
  (.l (.r (0, (ar .add .i64 a0.2 1))))
  (.c (cmp .lss (ar .sub .i64 (ar .add .i64 a0.2 1) 1) (lenI .byte a0.1))
  (.w [inb (ar .sub .i64 (ar .add .i64 a0.2 1) 1) (lenI .byte a0.1), (a1 : Int) ≠ 0] (.l (.r ((ar .rem .i64 (IntKind.wrap .i64 (rd .byte a0.1 (ar .sub .i64 (ar .add .i64 a0.2 1) 1))) a1), (ar .add .i64 a0.2 1)))))
  (.w [((lenI .byte a0.1) : Int) ≠ 0, inb (ar .rem .i64 (ar .sub .i64 (ar .add .i64 a0.2 1) 1) (lenI .byte a0.1)) (lenI .byte a0.1), ((lenI .byte a0.1) : Int) ≠ 0, inb (ar .rem .i64 (ar .add .i64 (ar .mul .i64 (ar .sub .i64 (ar .add .i64 a0.2 1) 1) 7) 3) (lenI .byte a0.1)) (lenI .byte a0.1), ((lenI .byte a0.1) : Int) ≠ 0] (.w [(64 : Int) ≠ 0] (.w [(a1 : Int) ≠ 0] (.l (.r ((ar .rem .i64 (xr .i64 (ar .add .i64 (ar .add .i64 (ar .add .i64 (ar .mul .i64 (IntKind.wrap .i64 (rd .byte a0.1 (ar .rem .i64 (ar .sub .i64 (ar .add .i64 a0.2 1) 1) (lenI .byte a0.1)))) 131) (ar .mul .i64 (IntKind.wrap .i64 (rd .byte a0.1 (ar .rem .i64 (ar .add .i64 (ar .mul .i64 (ar .sub .i64 (ar .add .i64 a0.2 1) 1) 7) 3) (lenI .byte a0.1)))) 1117)) (ar .mul .i64 (ar .sub .i64 (ar .add .i64 a0.2 1) 1) 29)) (ar .mul .i64 (ar .quo .i64 (ar .sub .i64 (ar .add .i64 a0.2 1) 1) (lenI .byte a0.1)) 53)) (ar .quo .i64 (ar .add .i64 (ar .add .i64 (ar .add .i64 (ar .mul .i64 (IntKind.wrap .i64 (rd .byte a0.1 (ar .rem .i64 (ar .sub .i64 (ar .add .i64 a0.2 1) 1) (lenI .byte a0.1)))) 131) (ar .mul .i64 (IntKind.wrap .i64 (rd .byte a0.1 (ar .rem .i64 (ar .add .i64 (ar .mul .i64 (ar .sub .i64 (ar .add .i64 a0.2 1) 1) 7) 3) (lenI .byte a0.1)))) 1117)) (ar .mul .i64 (ar .sub .i64 (ar .add .i64 a0.2 1) 1) 29)) (ar .mul .i64 (ar .quo .i64 (ar .sub .i64 (ar .add .i64 a0.2 1) 1) (lenI .byte a0.1)) 53)) 64)) a1), (ar .add .i64 a0.2 1))))))))
def spec_l6Rd_pick_b := fun a0 a1 => (spec_l6Rd_pick_b_t a0 a1).val
def spec_l6Rd_pick_b_ob := fun a0 a1 => (spec_l6Rd_pick_b_t a0 a1).ob
def spec_l6Rd_pick_b_S := fun a0 a1 => SubP.mk (spec_l6Rd_pick_b a0 a1) (spec_l6Rd_pick_b_ob a0 a1) [] [(0, .box [(.sh, .lst .byte a0.1), (.fr, .i a0.2)]), (1, .I a1)] (rv98 a0.1) nE nE nE nE
theorem spec_l6Rd_pick_b_ok (G : Good Try.prog tt sp_spec_l6Rd_pick) {fr : Fr} : ∀ a0 a1, Ok98 fr (spec_l6Rd_pick_b_S a0 a1) :=
  fun a0 a1 => run_ok G [] trivial [(0,[0,1]),(1,[0,1]),(2,[0,1,24]),(3,[0,4]),(4,[0,1,5]),(5,[0,1,5,36]),(6,[0,4]),(7,[0,1,6]),(8,[0,1,6]),(9,[0,4])] [] [] (spec_l6Rd_pick_b_t a0 a1) rfl rfl (by kernel_rfl)
def v_spec_l6Rd_pick (a0 : (LB × Int)) (a1 : Int) : Int × Int := ocR (spec_l6Rd_pick_b a0 a1)
def p_spec_l6Rd_pick (a0 : (LB × Int)) (a1 : Int) : Prop := spec_l6Rd_pick_b_ob a0 a1
def s_spec_l6Rd_pick : Spec := ⟨[.rdr, (.int .i64)], .one .fr (.int .i64), true, fun x => v_spec_l6Rd_pick x.1 x.2.1, fun x => p_spec_l6Rd_pick x.1 x.2.1⟩
theorem con_spec_l6Rd_pick (G : Good Try.prog tt sp_spec_l6Rd_pick) : Con Try.prog 98 s_spec_l6Rd_pick :=
  con_rdr (pts := [.rdr, (.int .i64)]) (rt := .one .fr (.int .i64)) (o := fun x => spec_l6Rd_pick_b x.1 x.2.1) (ob := fun x => spec_l6Rd_pick_b_ob x.1 x.2.1) G (fn := Try.f98) (c := bodyOf Try.f98) (by kernel_rfl) (by kernel_rfl) (by kernel_rfl) (rs := [.tmp 4]) (fz := F98.fz) (by kernel_rfl) (by kernel_rfl) (fun h => Bool.noConfusion h) rfl (fun x => x.1.1) (fun _ => rfl) (fun x => spec_l6Rd_pick_b_S x.1 x.2.1) (fun _ => ⟨rfl, rfl, rfl, rfl, rfl⟩) (fun x _ => spec_l6Rd_pick_b_ok G x.1 x.2.1)

abbrev V138 := (LB × Int) → Int → Plan × Int
abbrev Q138 := (LB × Int) → Int → Prop
def rs_spec_l71Plan (v : V138) (p : Q138) : Spec := ⟨[.rdr, (.int .i64)], .one .fr (.st .plan), true, fun x => v x.1 x.2.1, fun x => p x.1 x.2.1⟩
def sp_spec_l71Plan (r138V : V138) (r138P : Q138) : SP := [(98, s_spec_l6Rd_pick), (138, rs_spec_l71Plan r138V r138P)]
abbrev F138 : Fnn := ⟨[.cell 4 28], .one .fr (.st .plan), some 0, []⟩
abbrev rv138 (b : LB) : Plan × Int → RV := fun q => (some (RT.av (.one .fr (.st .plan)) q.1), .box [(.sh, .lst .byte b), (.fr, .i q.2)])
abbrev Ok138 (fr : Fr) {A X Y Z : Type} (S : SubP (Plan × Int) A X Y Z) : Prop := SubOk Try.prog tt ⟨Try.f138.ntmps, some 0, []⟩ fr (bodyOf Try.f138) F138 S
def spec_l71Plan_b_t (r138V : V138) (r138P : Q138) (a0 : (LB × Int)) (a1 : Int) : Tr (Plan × Int) Empty Empty Empty Empty :=
  .w [(((!(cmp .lss a1 2)) && true) = true → (p_spec_l6Rd_pick (a0.1, a0.2) 6))] (.c (cond (cmp .lss a1 2) true (cmp .eql (v_spec_l6Rd_pick (a0.1, a0.2) 6).1 0))
  (.w [(p_spec_l6Rd_pick (a0.1, (cond ((!(cmp .lss a1 2)) && true) (v_spec_l6Rd_pick (a0.1, a0.2) 6).2 a0.2)) 2)] (.l (.r ((Plan.mk 1 (v_spec_l6Rd_pick (a0.1, (cond ((!(cmp .lss a1 2)) && true) (v_spec_l6Rd_pick (a0.1, a0.2) 6).2 a0.2)) 2).1 []), (v_spec_l6Rd_pick (a0.1, (cond ((!(cmp .lss a1 2)) && true) (v_spec_l6Rd_pick (a0.1, a0.2) 6).2 a0.2)) 2).2))))
  (.w [(p_spec_l6Rd_pick (a0.1, (cond ((!(cmp .lss a1 2)) && true) (v_spec_l6Rd_pick (a0.1, a0.2) 6).2 a0.2)) 6)] (.c (cmp .eql (v_spec_l6Rd_pick (a0.1, (cond ((!(cmp .lss a1 2)) && true) (v_spec_l6Rd_pick (a0.1, a0.2) 6).2 a0.2)) 6).1 0)
  (.w [(p_spec_l6Rd_pick (a0.1, (v_spec_l6Rd_pick (a0.1, (cond ((!(cmp .lss a1 2)) && true) (v_spec_l6Rd_pick (a0.1, a0.2) 6).2 a0.2)) 6).2) 7), (r138P (a0.1, (v_spec_l6Rd_pick (a0.1, (v_spec_l6Rd_pick (a0.1, (cond ((!(cmp .lss a1 2)) && true) (v_spec_l6Rd_pick (a0.1, a0.2) 6).2 a0.2)) 6).2) 7).2) (ar .sub .i64 a1 1))] (.l (.r ((Plan.mk 2 (ar .add .i64 1 (v_spec_l6Rd_pick (a0.1, (v_spec_l6Rd_pick (a0.1, (cond ((!(cmp .lss a1 2)) && true) (v_spec_l6Rd_pick (a0.1, a0.2) 6).2 a0.2)) 6).2) 7).1) [(Plan.mk (r138V (a0.1, (v_spec_l6Rd_pick (a0.1, (v_spec_l6Rd_pick (a0.1, (cond ((!(cmp .lss a1 2)) && true) (v_spec_l6Rd_pick (a0.1, a0.2) 6).2 a0.2)) 6).2) 7).2) (ar .sub .i64 a1 1)).1.Kind (r138V (a0.1, (v_spec_l6Rd_pick (a0.1, (v_spec_l6Rd_pick (a0.1, (cond ((!(cmp .lss a1 2)) && true) (v_spec_l6Rd_pick (a0.1, a0.2) 6).2 a0.2)) 6).2) 7).2) (ar .sub .i64 a1 1)).1.Num (r138V (a0.1, (v_spec_l6Rd_pick (a0.1, (v_spec_l6Rd_pick (a0.1, (cond ((!(cmp .lss a1 2)) && true) (v_spec_l6Rd_pick (a0.1, a0.2) 6).2 a0.2)) 6).2) 7).2) (ar .sub .i64 a1 1)).1.Kids)]), (r138V (a0.1, (v_spec_l6Rd_pick (a0.1, (v_spec_l6Rd_pick (a0.1, (cond ((!(cmp .lss a1 2)) && true) (v_spec_l6Rd_pick (a0.1, a0.2) 6).2 a0.2)) 6).2) 7).2) (ar .sub .i64 a1 1)).2))))
  (.c (cmp .eql (v_spec_l6Rd_pick (a0.1, (cond ((!(cmp .lss a1 2)) && true) (v_spec_l6Rd_pick (a0.1, a0.2) 6).2 a0.2)) 6).1 1)
  (.w [(r138P (a0.1, (v_spec_l6Rd_pick (a0.1, (cond ((!(cmp .lss a1 2)) && true) (v_spec_l6Rd_pick (a0.1, a0.2) 6).2 a0.2)) 6).2) (ar .sub .i64 a1 1)), (r138P (a0.1, (r138V (a0.1, (v_spec_l6Rd_pick (a0.1, (cond ((!(cmp .lss a1 2)) && true) (v_spec_l6Rd_pick (a0.1, a0.2) 6).2 a0.2)) 6).2) (ar .sub .i64 a1 1)).2) (ar .sub .i64 a1 1))] (.l (.r ((Plan.mk 3 0 [(Plan.mk (r138V (a0.1, (v_spec_l6Rd_pick (a0.1, (cond ((!(cmp .lss a1 2)) && true) (v_spec_l6Rd_pick (a0.1, a0.2) 6).2 a0.2)) 6).2) (ar .sub .i64 a1 1)).1.Kind (r138V (a0.1, (v_spec_l6Rd_pick (a0.1, (cond ((!(cmp .lss a1 2)) && true) (v_spec_l6Rd_pick (a0.1, a0.2) 6).2 a0.2)) 6).2) (ar .sub .i64 a1 1)).1.Num (r138V (a0.1, (v_spec_l6Rd_pick (a0.1, (cond ((!(cmp .lss a1 2)) && true) (v_spec_l6Rd_pick (a0.1, a0.2) 6).2 a0.2)) 6).2) (ar .sub .i64 a1 1)).1.Kids), (Plan.mk (r138V (a0.1, (r138V (a0.1, (v_spec_l6Rd_pick (a0.1, (cond ((!(cmp .lss a1 2)) && true) (v_spec_l6Rd_pick (a0.1, a0.2) 6).2 a0.2)) 6).2) (ar .sub .i64 a1 1)).2) (ar .sub .i64 a1 1)).1.Kind (r138V (a0.1, (r138V (a0.1, (v_spec_l6Rd_pick (a0.1, (cond ((!(cmp .lss a1 2)) && true) (v_spec_l6Rd_pick (a0.1, a0.2) 6).2 a0.2)) 6).2) (ar .sub .i64 a1 1)).2) (ar .sub .i64 a1 1)).1.Num (r138V (a0.1, (r138V (a0.1, (v_spec_l6Rd_pick (a0.1, (cond ((!(cmp .lss a1 2)) && true) (v_spec_l6Rd_pick (a0.1, a0.2) 6).2 a0.2)) 6).2) (ar .sub .i64 a1 1)).2) (ar .sub .i64 a1 1)).1.Kids)]), (r138V (a0.1, (r138V (a0.1, (v_spec_l6Rd_pick (a0.1, (cond ((!(cmp .lss a1 2)) && true) (v_spec_l6Rd_pick (a0.1, a0.2) 6).2 a0.2)) 6).2) (ar .sub .i64 a1 1)).2) (ar .sub .i64 a1 1)).2))))
  (.c (cmp .eql (v_spec_l6Rd_pick (a0.1, (cond ((!(cmp .lss a1 2)) && true) (v_spec_l6Rd_pick (a0.1, a0.2) 6).2 a0.2)) 6).1 2)
  (.w [(r138P (a0.1, (v_spec_l6Rd_pick (a0.1, (cond ((!(cmp .lss a1 2)) && true) (v_spec_l6Rd_pick (a0.1, a0.2) 6).2 a0.2)) 6).2) (ar .sub .i64 a1 1))] (.l (.r ((Plan.mk 4 0 [(Plan.mk (r138V (a0.1, (v_spec_l6Rd_pick (a0.1, (cond ((!(cmp .lss a1 2)) && true) (v_spec_l6Rd_pick (a0.1, a0.2) 6).2 a0.2)) 6).2) (ar .sub .i64 a1 1)).1.Kind (r138V (a0.1, (v_spec_l6Rd_pick (a0.1, (cond ((!(cmp .lss a1 2)) && true) (v_spec_l6Rd_pick (a0.1, a0.2) 6).2 a0.2)) 6).2) (ar .sub .i64 a1 1)).1.Num (r138V (a0.1, (v_spec_l6Rd_pick (a0.1, (cond ((!(cmp .lss a1 2)) && true) (v_spec_l6Rd_pick (a0.1, a0.2) 6).2 a0.2)) 6).2) (ar .sub .i64 a1 1)).1.Kids)]), (r138V (a0.1, (v_spec_l6Rd_pick (a0.1, (cond ((!(cmp .lss a1 2)) && true) (v_spec_l6Rd_pick (a0.1, a0.2) 6).2 a0.2)) 6).2) (ar .sub .i64 a1 1)).2))))
  (.c (cmp .eql (v_spec_l6Rd_pick (a0.1, (cond ((!(cmp .lss a1 2)) && true) (v_spec_l6Rd_pick (a0.1, a0.2) 6).2 a0.2)) 6).1 3)
  (.w [(r138P (a0.1, (v_spec_l6Rd_pick (a0.1, (cond ((!(cmp .lss a1 2)) && true) (v_spec_l6Rd_pick (a0.1, a0.2) 6).2 a0.2)) 6).2) (ar .sub .i64 a1 1)), (r138P (a0.1, (r138V (a0.1, (v_spec_l6Rd_pick (a0.1, (cond ((!(cmp .lss a1 2)) && true) (v_spec_l6Rd_pick (a0.1, a0.2) 6).2 a0.2)) 6).2) (ar .sub .i64 a1 1)).2) (ar .sub .i64 a1 1))] (.l (.r ((Plan.mk 5 0 [(Plan.mk (r138V (a0.1, (v_spec_l6Rd_pick (a0.1, (cond ((!(cmp .lss a1 2)) && true) (v_spec_l6Rd_pick (a0.1, a0.2) 6).2 a0.2)) 6).2) (ar .sub .i64 a1 1)).1.Kind (r138V (a0.1, (v_spec_l6Rd_pick (a0.1, (cond ((!(cmp .lss a1 2)) && true) (v_spec_l6Rd_pick (a0.1, a0.2) 6).2 a0.2)) 6).2) (ar .sub .i64 a1 1)).1.Num (r138V (a0.1, (v_spec_l6Rd_pick (a0.1, (cond ((!(cmp .lss a1 2)) && true) (v_spec_l6Rd_pick (a0.1, a0.2) 6).2 a0.2)) 6).2) (ar .sub .i64 a1 1)).1.Kids), (Plan.mk (r138V (a0.1, (r138V (a0.1, (v_spec_l6Rd_pick (a0.1, (cond ((!(cmp .lss a1 2)) && true) (v_spec_l6Rd_pick (a0.1, a0.2) 6).2 a0.2)) 6).2) (ar .sub .i64 a1 1)).2) (ar .sub .i64 a1 1)).1.Kind (r138V (a0.1, (r138V (a0.1, (v_spec_l6Rd_pick (a0.1, (cond ((!(cmp .lss a1 2)) && true) (v_spec_l6Rd_pick (a0.1, a0.2) 6).2 a0.2)) 6).2) (ar .sub .i64 a1 1)).2) (ar .sub .i64 a1 1)).1.Num (r138V (a0.1, (r138V (a0.1, (v_spec_l6Rd_pick (a0.1, (cond ((!(cmp .lss a1 2)) && true) (v_spec_l6Rd_pick (a0.1, a0.2) 6).2 a0.2)) 6).2) (ar .sub .i64 a1 1)).2) (ar .sub .i64 a1 1)).1.Kids)]), (r138V (a0.1, (r138V (a0.1, (v_spec_l6Rd_pick (a0.1, (cond ((!(cmp .lss a1 2)) && true) (v_spec_l6Rd_pick (a0.1, a0.2) 6).2 a0.2)) 6).2) (ar .sub .i64 a1 1)).2) (ar .sub .i64 a1 1)).2))))
  (.w [(p_spec_l6Rd_pick (a0.1, (v_spec_l6Rd_pick (a0.1, (cond ((!(cmp .lss a1 2)) && true) (v_spec_l6Rd_pick (a0.1, a0.2) 6).2 a0.2)) 6).2) 3), (r138P (a0.1, (v_spec_l6Rd_pick (a0.1, (v_spec_l6Rd_pick (a0.1, (cond ((!(cmp .lss a1 2)) && true) (v_spec_l6Rd_pick (a0.1, a0.2) 6).2 a0.2)) 6).2) 3).2) (ar .sub .i64 a1 1))] (.l (.r ((Plan.mk 6 (ar .add .i64 1 (v_spec_l6Rd_pick (a0.1, (v_spec_l6Rd_pick (a0.1, (cond ((!(cmp .lss a1 2)) && true) (v_spec_l6Rd_pick (a0.1, a0.2) 6).2 a0.2)) 6).2) 3).1) [(Plan.mk (r138V (a0.1, (v_spec_l6Rd_pick (a0.1, (v_spec_l6Rd_pick (a0.1, (cond ((!(cmp .lss a1 2)) && true) (v_spec_l6Rd_pick (a0.1, a0.2) 6).2 a0.2)) 6).2) 3).2) (ar .sub .i64 a1 1)).1.Kind (r138V (a0.1, (v_spec_l6Rd_pick (a0.1, (v_spec_l6Rd_pick (a0.1, (cond ((!(cmp .lss a1 2)) && true) (v_spec_l6Rd_pick (a0.1, a0.2) 6).2 a0.2)) 6).2) 3).2) (ar .sub .i64 a1 1)).1.Num (r138V (a0.1, (v_spec_l6Rd_pick (a0.1, (v_spec_l6Rd_pick (a0.1, (cond ((!(cmp .lss a1 2)) && true) (v_spec_l6Rd_pick (a0.1, a0.2) 6).2 a0.2)) 6).2) 3).2) (ar .sub .i64 a1 1)).1.Kids)]), (r138V (a0.1, (v_spec_l6Rd_pick (a0.1, (v_spec_l6Rd_pick (a0.1, (cond ((!(cmp .lss a1 2)) && true) (v_spec_l6Rd_pick (a0.1, a0.2) 6).2 a0.2)) 6).2) 3).2) (ar .sub .i64 a1 1)).2))))))))))
def spec_l71Plan_b := fun r138V r138P a0 a1 => (spec_l71Plan_b_t r138V r138P a0 a1).val
def spec_l71Plan_b_ob := fun r138V r138P a0 a1 => (spec_l71Plan_b_t r138V r138P a0 a1).ob
def spec_l71Plan_b_S := fun r138V r138P a0 a1 => SubP.mk (spec_l71Plan_b r138V r138P a0 a1) (spec_l71Plan_b_ob r138V r138P a0 a1) [] [(0, .box [(.sh, .lst .byte a0.1), (.fr, .i a0.2)]), (1, .I a1)] (rv138 a0.1) nE nE nE nE
theorem spec_l71Plan_b_ok {r138V : V138} {r138P : Q138} (G : Good Try.prog tt (sp_spec_l71Plan r138V r138P)) {fr : Fr} : ∀ a0 a1, Ok138 fr (spec_l71Plan_b_S r138V r138P a0 a1) :=
  fun a0 a1 => run_ok G [] trivial [(0,[0,1,4]),(1,[0,1,4,11]),(2,[0,4]),(3,[0,1,4,16]),(4,[0,1,4,16,17]),(5,[0,4]),(6,[0,1,4,16,28]),(7,[0,4]),(8,[0,1,4,16,40]),(9,[0,4]),(10,[0,1,4,48]),(11,[0,4]),(12,[0,4])] [] [] (spec_l71Plan_b_t r138V r138P a0 a1) rfl rfl (by kernel_rfl)
theorem con_spec_l71Plan {r138V : V138} {r138P : Q138} (G : Good Try.prog tt (sp_spec_l71Plan r138V r138P)) : Con Try.prog 138 (rs_spec_l71Plan (fun a0 a1 => ocR (spec_l71Plan_b r138V r138P a0 a1)) (fun a0 a1 => spec_l71Plan_b_ob r138V r138P a0 a1)) :=
  con_rdr (pts := [.rdr, (.int .i64)]) (rt := .one .fr (.st .plan)) (o := fun x => spec_l71Plan_b r138V r138P x.1 x.2.1) (ob := fun x => spec_l71Plan_b_ob r138V r138P x.1 x.2.1) G (fn := Try.f138) (c := bodyOf Try.f138) (by kernel_rfl) (by kernel_rfl) (by kernel_rfl) (rs := [.cell 4 28]) (fz := F138.fz) (by kernel_rfl) (by kernel_rfl) (fun h => Bool.noConfusion h) rfl (fun x => x.1.1) (fun _ => rfl) (fun x => spec_l71Plan_b_S r138V r138P x.1 x.2.1) (fun _ => ⟨rfl, rfl, rfl, rfl, rfl⟩) (fun x _ => spec_l71Plan_b_ok G x.1 x.2.1)

def vp_spec_l71Plan : Nat → V138 × Q138
  | 0 => (fun _ _ => default, fun _ _ => False)
  | n + 1 => (fun a0 a1 => ocR (spec_l71Plan_b (vp_spec_l71Plan n).1 (vp_spec_l71Plan n).2 a0 a1), fun a0 a1 => spec_l71Plan_b_ob (vp_spec_l71Plan n).1 (vp_spec_l71Plan n).2 a0 a1)
def v_spec_l71Plan : V138 := (vp_spec_l71Plan fuelN).1
def p_spec_l71Plan : Q138 := (vp_spec_l71Plan fuelN).2
def s_spec_l71Plan : Spec := rs_spec_l71Plan v_spec_l71Plan p_spec_l71Plan

def sp_spec_l71Bent : SP := [(138, s_spec_l71Plan), (98, s_spec_l6Rd_pick)]
abbrev F112 : Fnn := ⟨[.cell 2 28], .one .fr (.st .plan), some 0, []⟩
abbrev rv112 (b : LB) : Plan × Int → RV := fun q => (some (RT.av (.one .fr (.st .plan)) q.1), .box [(.sh, .lst .byte b), (.fr, .i q.2)])
abbrev Ok112 (fr : Fr) {A X Y Z : Type} (S : SubP (Plan × Int) A X Y Z) : Prop := SubOk Try.prog tt ⟨Try.f112.ntmps, some 0, []⟩ fr (bodyOf Try.f112) F112 S
def spec_l71Bent_c1_t (x1 : LB) (x2 x3 x4 : Int) (x5 : LP) : Tr (Plan × Int) (Int × Int × Int) Empty Empty Empty :=
  .w [(p_spec_l6Rd_pick (x1, x2) 24)] (.c (cmp .eql (v_spec_l6Rd_pick (x1, x2) 24).1 0)
  (.w [(p_spec_l6Rd_pick (x1, (v_spec_l6Rd_pick (x1, x2) 24).2) 9)] (.l (.n ((v_spec_l6Rd_pick (x1, (v_spec_l6Rd_pick (x1, x2) 24).2) 9).2, (ar .sub .i64 (v_spec_l6Rd_pick (x1, (v_spec_l6Rd_pick (x1, x2) 24).2) 9).1 1), x4))))
  (.c (cmp .eql (v_spec_l6Rd_pick (x1, x2) 24).1 1)
  (.l (.n ((v_spec_l6Rd_pick (x1, x2) 24).2, x3, (ar .add .i64 x4 5))))
  (.c (cmp .eql (v_spec_l6Rd_pick (x1, x2) 24).1 2)
  (.l (.r ((Plan.mk 4 0 [(Plan.mk x3 x4 x5), (Plan.mk x3 x4 x5)]), (v_spec_l6Rd_pick (x1, x2) 24).2)))
  (.c (cmp .eql (v_spec_l6Rd_pick (x1, x2) 24).1 3)
  (.l (.r ((Plan.mk 4 0 [(Plan.mk 4 0 [(Plan.mk x3 x4 x5)])]), (v_spec_l6Rd_pick (x1, x2) 24).2)))
  (.l (.n ((v_spec_l6Rd_pick (x1, x2) 24).2, x3, x4)))))))
def spec_l71Bent_c1 := fun x1 x2 x3 x4 x5 => (spec_l71Bent_c1_t x1 x2 x3 x4 x5).val
def spec_l71Bent_c1_ob := fun x1 x2 x3 x4 x5 => (spec_l71Bent_c1_t x1 x2 x3 x4 x5).ob
def spec_l71Bent_c1_S := fun x1 x2 x3 x4 x5 => SubP.mk (spec_l71Bent_c1 x1 x2 x3 x4 x5) (spec_l71Bent_c1_ob x1 x2 x3 x4 x5) [0,1,1] [(0, .box [(.sh, .lst .byte x1), (.fr, .i x2)]), (2, .box [(.fr, .i 0), (.fr, .i 0), (.fr, .nl .plan)]), (3, .box [(.fr, .i x3), (.fr, .i x4), (.fr, .lst .plan x5)])] (rv112 x1) (fun q => [(0, .box [(.sh, .lst .byte x1), (.fr, .i q.1)]), (2, .box [(.fr, .i 0), (.fr, .i 0), (.fr, .nl .plan)]), (3, .box [(.fr, .i q.2.1), (.fr, .i q.2.2), (.fr, .lst .plan x5)])]) nE nE nE
theorem spec_l71Bent_c1_ok (G : Good Try.prog tt sp_spec_l71Bent) {fr : Fr} : ∀ x1 x2 x3 x4 x5, Ok112 fr (spec_l71Bent_c1_S x1 x2 x3 x4 x5) :=
  fun x1 x2 x3 x4 x5 => run_ok G [] trivial [(2,[0,2,3,7]),(3,[0,2,3,7,8]),(4,[0,2,3]),(5,[0,2,3,7,14]),(6,[0,2,3]),(7,[0,2,3,7,20]),(8,[0,2]),(9,[0,2,3,26]),(10,[0,2])] [] [] (spec_l71Bent_c1_t x1 x2 x3 x4 x5) rfl rfl (by kernel_rfl)
def spec_l71Bent_b_t (a0 : (LB × Int)) : Tr (Plan × Int) Empty Empty Empty Empty :=
  .w [(p_spec_l71Plan (a0.1, a0.2) 4)] (.s (spec_l71Bent_c1_S a0.1 (v_spec_l71Plan (a0.1, a0.2) 4).2 (v_spec_l71Plan (a0.1, a0.2) 4).1.Kind (v_spec_l71Plan (a0.1, a0.2) 4).1.Num (v_spec_l71Plan (a0.1, a0.2) 4).1.Kids) (fun q13 => .l (.r ((Plan.mk q13.2.1 q13.2.2 (v_spec_l71Plan (a0.1, a0.2) 4).1.Kids), q13.1))) nE nE nE)
def spec_l71Bent_b := fun a0 => (spec_l71Bent_b_t a0).val
def spec_l71Bent_b_ob := fun a0 => (spec_l71Bent_b_t a0).ob
def spec_l71Bent_b_S := fun a0 => SubP.mk (spec_l71Bent_b a0) (spec_l71Bent_b_ob a0) [] [(0, .box [(.sh, .lst .byte a0.1), (.fr, .i a0.2)])] (rv112 a0.1) nE nE nE nE
theorem spec_l71Bent_b_ok (G : Good Try.prog tt sp_spec_l71Bent) {fr : Fr} : ∀ a0, Ok112 fr (spec_l71Bent_b_S a0) :=
  fun a0 => run_ok G [([0,1,1], fun e => ⟨spec_l71Bent_c1_S (gL .byte e 0 0) (gI e 0 1) (gI e 3 0) (gI e 3 1) (gL .plan e 3 2)⟩)] ⟨fun _ => ⟨rfl, spec_l71Bent_c1_ok G _ _ _ _ _⟩, trivial⟩ [(0,[0,2]),(1,[0,2,3]),(11,[0,2])] [] [] (spec_l71Bent_b_t a0) rfl rfl (by kernel_rfl)
def v_spec_l71Bent (a0 : (LB × Int)) : Plan × Int := ocR (spec_l71Bent_b a0)
def p_spec_l71Bent (a0 : (LB × Int)) : Prop := spec_l71Bent_b_ob a0
def s_spec_l71Bent : Spec := ⟨[.rdr], .one .fr (.st .plan), true, fun x => v_spec_l71Bent x.1, fun x => p_spec_l71Bent x.1⟩
theorem con_spec_l71Bent (G : Good Try.prog tt sp_spec_l71Bent) : Con Try.prog 112 s_spec_l71Bent :=
  con_rdr (pts := [.rdr]) (rt := .one .fr (.st .plan)) (o := fun x => spec_l71Bent_b x.1) (ob := fun x => spec_l71Bent_b_ob x.1) G (fn := Try.f112) (c := bodyOf Try.f112) (by kernel_rfl) (by kernel_rfl) (by kernel_rfl) (rs := [.cell 2 28]) (fz := F112.fz) (by kernel_rfl) (by kernel_rfl) (fun h => Bool.noConfusion h) rfl (fun x => x.1.1) (fun _ => rfl) (fun x => spec_l71Bent_b_S x.1) (fun _ => ⟨rfl, rfl, rfl, rfl, rfl⟩) (fun x _ => spec_l71Bent_b_ok G x.1)

def sp_spec_DrawSessNew : SP := [(94, s_spec_l6Open), (112, s_spec_l71Bent)]
abbrev F59 : Fnn := ⟨[.cell 2 28], .one .fr (.st .plan), none, []⟩
abbrev rv59 : Plan → RV := fun q => (some (RT.av (.one .fr (.st .plan)) q), .dead)
abbrev Ok59 (fr : Fr) {A X Y Z : Type} (S : SubP Plan A X Y Z) : Prop := SubOk Try.prog tt ⟨Try.f59.ntmps, none, []⟩ fr (bodyOf Try.f59) F59 S
def spec_DrawSessNew_b_t (a0 : LB) : Tr Plan Empty Empty Empty Empty :=
  .w [(p_spec_l6Open a0), (p_spec_l71Bent ((v_spec_l6Open a0).1, (v_spec_l6Open a0).2))] (.l (.r (Plan.mk (v_spec_l71Bent ((v_spec_l6Open a0).1, (v_spec_l6Open a0).2)).1.Kind (v_spec_l71Bent ((v_spec_l6Open a0).1, (v_spec_l6Open a0).2)).1.Num (v_spec_l71Bent ((v_spec_l6Open a0).1, (v_spec_l6Open a0).2)).1.Kids)))
def spec_DrawSessNew_b := fun a0 => (spec_DrawSessNew_b_t a0).val
def spec_DrawSessNew_b_ob := fun a0 => (spec_DrawSessNew_b_t a0).ob
def spec_DrawSessNew_b_S := fun a0 => SubP.mk (spec_DrawSessNew_b a0) (spec_DrawSessNew_b_ob a0) [] [(0, .S .byte a0)] rv59 nE nE nE nE
theorem spec_DrawSessNew_b_ok (G : Good Try.prog tt sp_spec_DrawSessNew) {fr : Fr} : ∀ a0, Ok59 fr (spec_DrawSessNew_b_S a0) :=
  fun a0 => run_ok G [] trivial [(0,[0,2]),(1,[2])] [] [] (spec_DrawSessNew_b_t a0) rfl rfl (by kernel_rfl)
def v_spec_DrawSessNew (a0 : LB) : Plan := ocR (spec_DrawSessNew_b a0)
def p_spec_DrawSessNew (a0 : LB) : Prop := spec_DrawSessNew_b_ob a0
def s_spec_DrawSessNew : Spec := ⟨[(.lst .byte)], .one .fr (.st .plan), false, fun x => (v_spec_DrawSessNew x.1, 0), fun x => p_spec_DrawSessNew x.1⟩
theorem con_spec_DrawSessNew (G : Good Try.prog tt sp_spec_DrawSessNew) : Con Try.prog 59 s_spec_DrawSessNew :=
  con_run (pts := [(.lst .byte)]) (rt := .one .fr (.st .plan)) (o := fun x => spec_DrawSessNew_b x.1) (ob := fun x => spec_DrawSessNew_b_ob x.1) G (fn := Try.f59) (c := bodyOf Try.f59) (by kernel_rfl) (by kernel_rfl) (by kernel_rfl) (rs := [.cell 2 28]) (fz := F59.fz) (by kernel_rfl) (by kernel_rfl) (fun _ => rfl) rfl (fun x => spec_DrawSessNew_b_S x.1) (fun _ => ⟨rfl, rfl, rfl, rfl, rfl⟩) (fun x _ => spec_DrawSessNew_b_ok G x.1)

def sp_spec_l21Kids : SP := []
abbrev F140 : Fnn := ⟨[.tmp 2, .tmp 3, .tmp 4], .tup [(true, (.int .i64)), (true, (.int .i64)), (true, (.int .i64))], none, []⟩
abbrev rv140 : Int × Int × Int × Unit → RV := fun q => (some (RT.av (.tup [(true, (.int .i64)), (true, (.int .i64)), (true, (.int .i64))]) q), .dead)
abbrev Ok140 (fr : Fr) {A X Y Z : Type} (S : SubP (Int × Int × Int × Unit) A X Y Z) : Prop := SubOk Try.prog tt ⟨Try.f140.ntmps, none, []⟩ fr (bodyOf Try.f140) F140 S
def spec_l21Kids_c2_t (x4 : Int) : Tr (Int × Int × Int × Unit) Bool Empty Empty Empty :=
  .c (cmp .eql x4 3)
  (.l (.n (cmp .eql x4 3)))
  (.l (.n (cmp .eql x4 5)))
def spec_l21Kids_c2 := fun x4 => (spec_l21Kids_c2_t x4).val
def spec_l21Kids_c2_ob := fun x4 => (spec_l21Kids_c2_t x4).ob
def spec_l21Kids_c2_S := fun x4 => SubP.mk (spec_l21Kids_c2 x4) (spec_l21Kids_c2_ob x4) [0,1,1,1,1,0,1,0,1] [(5, .I x4)] rv140 (fun q => [(5, .I x4), (10, .O q)]) nE nE nE
theorem spec_l21Kids_c2_ok (G : Good Try.prog tt sp_spec_l21Kids) {fr : Fr} : ∀ x4, Ok140 fr (spec_l21Kids_c2_S x4) :=
  fun x4 => run_ok G [] trivial [(6,[5,10]),(7,[5,10])] [] [] (spec_l21Kids_c2_t x4) rfl rfl (by kernel_rfl)
def spec_l21Kids_c1_t (x1 : Int) : Tr (Int × Int × Int × Unit) Unit Empty Empty Empty :=
  .c (cmp .eql x1 1)
  (.l (.r (0, (0, (1, ())))))
  (.c (cmp .eql x1 2)
  (.l (.r (1, (1, (7, ())))))
  (.s (spec_l21Kids_c2_S x1) (fun q7 => .c q7
  (.l (.r (2, (0, (0, ())))))
  (.c (cmp .eql x1 4)
  (.l (.r (1, (0, (0, ())))))
  (.c (cmp .eql x1 6)
  (.l (.r (1, (1, (3, ())))))
  (.l (.n ()))))) nE nE nE))
def spec_l21Kids_c1 := fun x1 => (spec_l21Kids_c1_t x1).val
def spec_l21Kids_c1_ob := fun x1 => (spec_l21Kids_c1_t x1).ob
def spec_l21Kids_c1_S := fun x1 => SubP.mk (spec_l21Kids_c1 x1) (spec_l21Kids_c1_ob x1) [0,1] [(0, .I x1)] rv140 (fun _ => []) nE nE nE
theorem spec_l21Kids_c1_ok (G : Good Try.prog tt sp_spec_l21Kids) {fr : Fr} : ∀ x1, Ok140 fr (spec_l21Kids_c1_S x1) :=
  fun x1 => run_ok G [([0,1,1,1,1,0,1,0,1], fun e => ⟨spec_l21Kids_c2_S (gI e 5 0)⟩)] ⟨fun _ => ⟨rfl, spec_l21Kids_c2_ok G _⟩, trivial⟩ [(1,[5]),(2,[5,6]),(3,[2,3,4]),(4,[5,8]),(5,[2,3,4]),(8,[2,3,4]),(9,[5,13]),(10,[2,3,4]),(11,[15]),(12,[2,3,4])] [] [] (spec_l21Kids_c1_t x1) rfl rfl (by kernel_rfl)
def spec_l21Kids_b_t (a0 : Int) : Tr (Int × Int × Int × Unit) Empty Empty Empty Empty :=
  .s (spec_l21Kids_c1_S a0) (fun _ => .l (.r ((-1), (0, (0, ()))))) nE nE nE
def spec_l21Kids_b := fun a0 => (spec_l21Kids_b_t a0).val
def spec_l21Kids_b_ob := fun a0 => (spec_l21Kids_b_t a0).ob
def spec_l21Kids_b_S := fun a0 => SubP.mk (spec_l21Kids_b a0) (spec_l21Kids_b_ob a0) [] [(0, .I a0)] rv140 nE nE nE nE
theorem spec_l21Kids_b_ok (G : Good Try.prog tt sp_spec_l21Kids) {fr : Fr} : ∀ a0, Ok140 fr (spec_l21Kids_b_S a0) :=
  fun a0 => run_ok G [([0,1], fun e => ⟨spec_l21Kids_c1_S (gI e 0 0)⟩)] ⟨fun _ => ⟨rfl, spec_l21Kids_c1_ok G _⟩, trivial⟩ [(0,[0]),(13,[2,3,4])] [] [] (spec_l21Kids_b_t a0) rfl rfl (by kernel_rfl)
def v_spec_l21Kids (a0 : Int) : Int × Int × Int × Unit := ocR (spec_l21Kids_b a0)
def p_spec_l21Kids (a0 : Int) : Prop := spec_l21Kids_b_ob a0
def s_spec_l21Kids : Spec := ⟨[(.int .i64)], .tup [(true, (.int .i64)), (true, (.int .i64)), (true, (.int .i64))], false, fun x => (v_spec_l21Kids x.1, 0), fun x => p_spec_l21Kids x.1⟩
theorem con_spec_l21Kids (G : Good Try.prog tt sp_spec_l21Kids) : Con Try.prog 140 s_spec_l21Kids :=
  con_run (pts := [(.int .i64)]) (rt := .tup [(true, (.int .i64)), (true, (.int .i64)), (true, (.int .i64))]) (o := fun x => spec_l21Kids_b x.1) (ob := fun x => spec_l21Kids_b_ob x.1) G (fn := Try.f140) (c := bodyOf Try.f140) (by kernel_rfl) (by kernel_rfl) (by kernel_rfl) (rs := [.tmp 2, .tmp 3, .tmp 4]) (fz := F140.fz) (by kernel_rfl) (by kernel_rfl) (fun _ => rfl) rfl (fun x => spec_l21Kids_b_S x.1) (fun _ => ⟨rfl, rfl, rfl, rfl, rfl⟩) (fun x _ => spec_l21Kids_b_ok G x.1)

def sp_spec_l6In : SP := []
abbrev F93 : Fnn := ⟨[.tmp 6], .one .fr .bool, none, []⟩
abbrev rv93 : Bool → RV := fun q => (some (RT.av (.one .fr .bool) q), .dead)
abbrev Ok93 (fr : Fr) {A X Y Z : Type} (S : SubP Bool A X Y Z) : Prop := SubOk Try.prog tt ⟨Try.f93.ntmps, none, []⟩ fr (bodyOf Try.f93) F93 S
def spec_l6In_b_t (a0 a1 a2 : Int) : Tr Bool Empty Empty Empty Empty :=
  .l (.r (cond (cmp .geq a0 a1) (cmp .leq a0 a2) false))
def spec_l6In_b := fun a0 a1 a2 => (spec_l6In_b_t a0 a1 a2).val
def spec_l6In_b_ob := fun a0 a1 a2 => (spec_l6In_b_t a0 a1 a2).ob
def spec_l6In_b_S := fun a0 a1 a2 => SubP.mk (spec_l6In_b a0 a1 a2) (spec_l6In_b_ob a0 a1 a2) [] [(0, .I a0), (1, .I a1), (2, .I a2)] rv93 nE nE nE nE
theorem spec_l6In_b_ok (G : Good Try.prog tt sp_spec_l6In) {fr : Fr} : ∀ a0 a1 a2, Ok93 fr (spec_l6In_b_S a0 a1 a2) :=
  fun a0 a1 a2 => run_ok G [] trivial [(0,[0,1,2]),(1,[6])] [] [] (spec_l6In_b_t a0 a1 a2) rfl rfl (by kernel_rfl)
def v_spec_l6In (a0 : Int) (a1 : Int) (a2 : Int) : Bool := ocR (spec_l6In_b a0 a1 a2)
def p_spec_l6In (a0 : Int) (a1 : Int) (a2 : Int) : Prop := spec_l6In_b_ob a0 a1 a2
def s_spec_l6In : Spec := ⟨[(.int .i64), (.int .i64), (.int .i64)], .one .fr .bool, false, fun x => (v_spec_l6In x.1 x.2.1 x.2.2.1, 0), fun x => p_spec_l6In x.1 x.2.1 x.2.2.1⟩
theorem con_spec_l6In (G : Good Try.prog tt sp_spec_l6In) : Con Try.prog 93 s_spec_l6In :=
  con_run (pts := [(.int .i64), (.int .i64), (.int .i64)]) (rt := .one .fr .bool) (o := fun x => spec_l6In_b x.1 x.2.1 x.2.2.1) (ob := fun x => spec_l6In_b_ob x.1 x.2.1 x.2.2.1) G (fn := Try.f93) (c := bodyOf Try.f93) (by kernel_rfl) (by kernel_rfl) (by kernel_rfl) (rs := [.tmp 6]) (fz := F93.fz) (by kernel_rfl) (by kernel_rfl) (fun _ => rfl) rfl (fun x => spec_l6In_b_S x.1 x.2.1 x.2.2.1) (fun _ => ⟨rfl, rfl, rfl, rfl, rfl⟩) (fun x _ => spec_l6In_b_ok G x.1 x.2.1 x.2.2.1)

abbrev V120 := Plan → Int → Bool
abbrev Q120 := Plan → Int → Prop
def rs_spec_l21Ok (v : V120) (p : Q120) : Spec := ⟨[(.st .plan), (.int .i64)], .one .fr .bool, false, fun x => (v x.1 x.2.1, 0), fun x => p x.1 x.2.1⟩
def sp_spec_l21Ok (r120V : V120) (r120P : Q120) : SP := [(140, s_spec_l21Kids), (93, s_spec_l6In), (120, rs_spec_l21Ok r120V r120P)]
abbrev F120 : Fnn := ⟨[.tmp 4], .one .fr .bool, none, []⟩
abbrev rv120 : Bool → RV := fun q => (some (RT.av (.one .fr .bool) q), .dead)
abbrev Ok120 (fr : Fr) {A X Y Z : Type} (S : SubP Bool A X Y Z) : Prop := SubOk Try.prog tt ⟨Try.f120.ntmps, none, []⟩ fr (bodyOf Try.f120) F120 S
def spec_l21Ok_c2_r_t (r120V : V120) (r120P : Q120) (x6 _x7 _x8 : Int) (x9 : LP) (s13 : Int) : Tr Bool Int Unit Empty Empty :=
  .c (cmp .lss s13 (lenI .plan x9))
  (.w [inb s13 (lenI .plan x9), (r120P (Plan.mk (rd .plan x9 s13).Kind (rd .plan x9 s13).Num (rd .plan x9 s13).Kids) (ar .sub .i64 x6 1))] (.c (!(r120V (Plan.mk (rd .plan x9 s13).Kind (rd .plan x9 s13).Num (rd .plan x9 s13).Kids) (ar .sub .i64 x6 1)))
  (.l (.r false))
  (.l (.n (ar .add .i64 s13 1)))))
  (.l (.x ()))
def spec_l21Ok_c2_r := fun r120V r120P x6 x7 x8 x9 s13 => (spec_l21Ok_c2_r_t r120V r120P x6 x7 x8 x9 s13).val
def spec_l21Ok_c2_r_ob := fun r120V r120P x6 x7 x8 x9 s13 => (spec_l21Ok_c2_r_t r120V r120P x6 x7 x8 x9 s13).ob
def spec_l21Ok_c2_r_S := fun r120V r120P x6 x7 x8 x9 s13 => mkRd (spec_l21Ok_c2_r r120V r120P x6 x7 x8 x9 s13) (spec_l21Ok_c2_r_ob r120V r120P x6 x7 x8 x9 s13) [0,0,1,0,1,1,1] (fun q => [(1, .I x6), (2, .box [(.fr, .i x7), (.fr, .i x8), (.sh, .lst .plan x9)]), (8, .I q)]) s13 rv120 (fun _ => (0, [])) nE nE
theorem spec_l21Ok_c2_r_ok {r120V : V120} {r120P : Q120} (G : Good Try.prog tt (sp_spec_l21Ok r120V r120P)) {fr : Fr} : ∀ x6 x7 x8 x9 s13, Ok120 fr (spec_l21Ok_c2_r_S r120V r120P x6 x7 x8 x9 s13) :=
  fun x6 x7 x8 x9 s13 => run_ok G [] trivial [(5,[1,2,8,37]),(6,[1,2,8]),(7,[1,2,8,48]),(8,[4])] [] [] (spec_l21Ok_c2_r_t r120V r120P x6 x7 x8 x9 s13) rfl rfl (by kernel_rfl)
def spec_l21Ok_c2 := fun r120V r120P x6 x7 x8 x9 => lpV (fun s : Int => ocLp (spec_l21Ok_c2_r r120V r120P x6 x7 x8 x9 s)) 0
def spec_l21Ok_c2_ob := fun r120V r120P x6 x7 x8 x9 => LpT (fun s : Int => ocLp (spec_l21Ok_c2_r r120V r120P x6 x7 x8 x9 s)) (fun s => spec_l21Ok_c2_r_ob r120V r120P x6 x7 x8 x9 s) 0
def spec_l21Ok_c2_S := fun r120V r120P x6 x7 x8 x9 => lpS (spec_l21Ok_c2_r_S r120V r120P x6 x7 x8 x9 0) (spec_l21Ok_c2 r120V r120P x6 x7 x8 x9) (spec_l21Ok_c2_ob r120V r120P x6 x7 x8 x9)
theorem spec_l21Ok_c2_ok {r120V : V120} {r120P : Q120} (G : Good Try.prog tt (sp_spec_l21Ok r120V r120P)) {fr : Fr} : ∀ x6 x7 x8 x9, Ok120 fr (spec_l21Ok_c2_S r120V r120P x6 x7 x8 x9) :=
  fun x6 x7 x8 x9 => loop_ok (fun s : Int => spec_l21Ok_c2_r_S r120V r120P x6 x7 x8 x9 s) 0 (fun _ => rfl) (fun _ => ⟨rfl, rfl, rfl, rfl, rfl⟩) (by kernel_rfl) fun _ => spec_l21Ok_c2_r_ok G _ _ _ _ _
def spec_l21Ok_c1_t (r120V : V120) (r120P : Q120) (x2 x3 x4 : Int) (x5 : LP) : Tr Bool Unit Empty Empty Empty :=
  .s (spec_l21Ok_c2_S r120V r120P x2 x3 x4 x5) nE (fun _ => .l (.n ())) nE nE
def spec_l21Ok_c1 := fun r120V r120P x2 x3 x4 x5 => (spec_l21Ok_c1_t r120V r120P x2 x3 x4 x5).val
def spec_l21Ok_c1_ob := fun r120V r120P x2 x3 x4 x5 => (spec_l21Ok_c1_t r120V r120P x2 x3 x4 x5).ob
def spec_l21Ok_c1_S := fun r120V r120P x2 x3 x4 x5 => SubP.mk (spec_l21Ok_c1 r120V r120P x2 x3 x4 x5) (spec_l21Ok_c1_ob r120V r120P x2 x3 x4 x5) [0,1,1,1] [(1, .I x2), (2, .box [(.fr, .i x3), (.fr, .i x4), (.sh, .lst .plan x5)])] rv120 (fun _ => []) nE nE nE
theorem spec_l21Ok_c1_ok {r120V : V120} {r120P : Q120} (G : Good Try.prog tt (sp_spec_l21Ok r120V r120P)) {fr : Fr} : ∀ x2 x3 x4 x5, Ok120 fr (spec_l21Ok_c1_S r120V r120P x2 x3 x4 x5) :=
  fun x2 x3 x4 x5 => run_ok G [([0,1,0,1,1,1], fun e => ⟨spec_l21Ok_c2_S r120V r120P (gI e 1 0) (gI e 2 0) (gI e 2 1) (gL .plan e 2 2)⟩)] ⟨fun _ => ⟨rfl, spec_l21Ok_c2_ok G _ _ _ _⟩, trivial⟩ [(4,[1,2,8])] [] [] (spec_l21Ok_c1_t r120V r120P x2 x3 x4 x5) rfl rfl (by kernel_rfl)
def spec_l21Ok_b_t (r120V : V120) (r120P : Q120) (a0 : Plan) (a1 : Int) : Tr Bool Empty Empty Empty Empty :=
  .w [(p_spec_l21Kids a0.Kind)] (.w [(((!(cond (cmp .lss a1 1) true (cmp .neq (lenI .plan a0.Kids) (v_spec_l21Kids a0.Kind).1))) && true) = true → (p_spec_l6In a0.Num (v_spec_l21Kids a0.Kind).2.1 (v_spec_l21Kids a0.Kind).2.2.1))] (.c (cond (cond (cmp .lss a1 1) true (cmp .neq (lenI .plan a0.Kids) (v_spec_l21Kids a0.Kind).1)) true (!(v_spec_l6In a0.Num (v_spec_l21Kids a0.Kind).2.1 (v_spec_l21Kids a0.Kind).2.2.1)))
  (.l (.r false))
  (.s (spec_l21Ok_c1_S r120V r120P a1 a0.Kind a0.Num a0.Kids) (fun _ => .l (.r true)) nE nE nE)))
def spec_l21Ok_b := fun r120V r120P a0 a1 => (spec_l21Ok_b_t r120V r120P a0 a1).val
def spec_l21Ok_b_ob := fun r120V r120P a0 a1 => (spec_l21Ok_b_t r120V r120P a0 a1).ob
def spec_l21Ok_b_S := fun r120V r120P a0 a1 => SubP.mk (spec_l21Ok_b r120V r120P a0 a1) (spec_l21Ok_b_ob r120V r120P a0 a1) [] [(0, .agg false [.i a0.Kind, .i a0.Num, .lst .plan a0.Kids]), (1, .I a1)] rv120 nE nE nE nE
theorem spec_l21Ok_b_ok {r120V : V120} {r120P : Q120} (G : Good Try.prog tt (sp_spec_l21Ok r120V r120P)) {fr : Fr} : ∀ a0 a1, Ok120 fr (spec_l21Ok_b_S r120V r120P a0 a1) :=
  fun a0 a1 => run_ok G [([0,1,1,1], fun e => ⟨spec_l21Ok_c1_S r120V r120P (gI e 1 0) (gI e 2 0) (gI e 2 1) (gL .plan e 2 2)⟩)] ⟨fun _ => ⟨rfl, spec_l21Ok_c1_ok G _ _ _ _⟩, trivial⟩ [(0,[1,2]),(1,[1,2,5,6,7]),(2,[1,2,32]),(3,[4]),(9,[4])] [] [] (spec_l21Ok_b_t r120V r120P a0 a1) rfl rfl (by kernel_rfl)
theorem con_spec_l21Ok {r120V : V120} {r120P : Q120} (G : Good Try.prog tt (sp_spec_l21Ok r120V r120P)) : Con Try.prog 120 (rs_spec_l21Ok (fun a0 a1 => ocR (spec_l21Ok_b r120V r120P a0 a1)) (fun a0 a1 => spec_l21Ok_b_ob r120V r120P a0 a1)) :=
  con_run (pts := [(.st .plan), (.int .i64)]) (rt := .one .fr .bool) (o := fun x => spec_l21Ok_b r120V r120P x.1 x.2.1) (ob := fun x => spec_l21Ok_b_ob r120V r120P x.1 x.2.1) G (fn := Try.f120) (c := bodyOf Try.f120) (by kernel_rfl) (by kernel_rfl) (by kernel_rfl) (rs := [.tmp 4]) (fz := F120.fz) (by kernel_rfl) (by kernel_rfl) (fun _ => rfl) rfl (fun x => spec_l21Ok_b_S r120V r120P x.1 x.2.1) (fun _ => ⟨rfl, rfl, rfl, rfl, rfl⟩) (fun x _ => spec_l21Ok_b_ok G x.1 x.2.1)

def vp_spec_l21Ok : Nat → V120 × Q120
  | 0 => (fun _ _ => default, fun _ _ => False)
  | n + 1 => (fun a0 a1 => ocR (spec_l21Ok_b (vp_spec_l21Ok n).1 (vp_spec_l21Ok n).2 a0 a1), fun a0 a1 => spec_l21Ok_b_ob (vp_spec_l21Ok n).1 (vp_spec_l21Ok n).2 a0 a1)
def v_spec_l21Ok : V120 := (vp_spec_l21Ok fuelN).1
def p_spec_l21Ok : Q120 := (vp_spec_l21Ok fuelN).2
def s_spec_l21Ok : Spec := rs_spec_l21Ok v_spec_l21Ok p_spec_l21Ok

def sp_spec_PlanOk : SP := [(120, s_spec_l21Ok)]
abbrev F66 : Fnn := ⟨[.tmp 2], .one .fr .bool, none, []⟩
abbrev rv66 : Bool → RV := fun q => (some (RT.av (.one .fr .bool) q), .dead)
abbrev Ok66 (fr : Fr) {A X Y Z : Type} (S : SubP Bool A X Y Z) : Prop := SubOk Try.prog tt ⟨Try.f66.ntmps, none, []⟩ fr (bodyOf Try.f66) F66 S
def spec_PlanOk_b_t (a0 : Plan) : Tr Bool Empty Empty Empty Empty :=
  .w [(p_spec_l21Ok (Plan.mk a0.Kind a0.Num a0.Kids) 4)] (.l (.r (v_spec_l21Ok (Plan.mk a0.Kind a0.Num a0.Kids) 4)))
def spec_PlanOk_b := fun a0 => (spec_PlanOk_b_t a0).val
def spec_PlanOk_b_ob := fun a0 => (spec_PlanOk_b_t a0).ob
def spec_PlanOk_b_S := fun a0 => SubP.mk (spec_PlanOk_b a0) (spec_PlanOk_b_ob a0) [] [(0, .agg false [.i a0.Kind, .i a0.Num, .lst .plan a0.Kids])] rv66 nE nE nE nE
theorem spec_PlanOk_b_ok (G : Good Try.prog tt sp_spec_PlanOk) {fr : Fr} : ∀ a0, Ok66 fr (spec_PlanOk_b_S a0) :=
  fun a0 => run_ok G [] trivial [(0,[1]),(1,[2])] [] [] (spec_PlanOk_b_t a0) rfl rfl (by kernel_rfl)
def v_spec_PlanOk (a0 : Plan) : Bool := ocR (spec_PlanOk_b a0)
def p_spec_PlanOk (a0 : Plan) : Prop := spec_PlanOk_b_ob a0
def s_spec_PlanOk : Spec := ⟨[(.st .plan)], .one .fr .bool, false, fun x => (v_spec_PlanOk x.1, 0), fun x => p_spec_PlanOk x.1⟩
theorem con_spec_PlanOk (G : Good Try.prog tt sp_spec_PlanOk) : Con Try.prog 66 s_spec_PlanOk :=
  con_run (pts := [(.st .plan)]) (rt := .one .fr .bool) (o := fun x => spec_PlanOk_b x.1) (ob := fun x => spec_PlanOk_b_ob x.1) G (fn := Try.f66) (c := bodyOf Try.f66) (by kernel_rfl) (by kernel_rfl) (by kernel_rfl) (rs := [.tmp 2]) (fz := F66.fz) (by kernel_rfl) (by kernel_rfl) (fun _ => rfl) rfl (fun x => spec_PlanOk_b_S x.1) (fun _ => ⟨rfl, rfl, rfl, rfl, rfl⟩) (fun x _ => spec_PlanOk_b_ok G x.1)

abbrev V67 := Plan → Plan
abbrev Q67 := Plan → Prop
def rs_spec_l31Plan (v : V67) (p : Q67) : Spec := ⟨[(.st .plan)], .one .fr (.st .plan), false, fun x => (v x.1, 0), fun x => p x.1⟩
def sp_spec_l31Plan (r67V : V67) (r67P : Q67) : SP := [(67, rs_spec_l31Plan r67V r67P)]
abbrev F67 : Fnn := ⟨[.cell 2 28], .one .fr (.st .plan), none, []⟩
abbrev rv67 : Plan → RV := fun q => (some (RT.av (.one .fr (.st .plan)) q), .dead)
abbrev Ok67 (fr : Fr) {A X Y Z : Type} (S : SubP Plan A X Y Z) : Prop := SubOk Try.prog tt ⟨Try.f67.ntmps, none, []⟩ fr (bodyOf Try.f67) F67 S
def spec_l31Plan_c2_r_t (r67V : V67) (r67P : Q67) (_x4 _x5 : Int) (x6 s10 : LP) (s11 : Int) : Tr Plan (LP × Int) LP Empty Empty :=
  .c (cmp .lss s11 (lenI .plan x6))
  (.w [inb s11 (lenI .plan x6), (r67P (Plan.mk (rd .plan x6 s11).Kind (rd .plan x6 s11).Num (rd .plan x6 s11).Kids)), lim (lenI .plan s10) (lenI .plan [(Plan.mk (r67V (Plan.mk (rd .plan x6 s11).Kind (rd .plan x6 s11).Num (rd .plan x6 s11).Kids)).Kind (r67V (Plan.mk (rd .plan x6 s11).Kind (rd .plan x6 s11).Num (rd .plan x6 s11).Kids)).Num (r67V (Plan.mk (rd .plan x6 s11).Kind (rd .plan x6 s11).Num (rd .plan x6 s11).Kids)).Kids)])] (.l (.n ((s10 ++ [(Plan.mk (r67V (Plan.mk (rd .plan x6 s11).Kind (rd .plan x6 s11).Num (rd .plan x6 s11).Kids)).Kind (r67V (Plan.mk (rd .plan x6 s11).Kind (rd .plan x6 s11).Num (rd .plan x6 s11).Kids)).Num (r67V (Plan.mk (rd .plan x6 s11).Kind (rd .plan x6 s11).Num (rd .plan x6 s11).Kids)).Kids)]), (ar .add .i64 s11 1)))))
  (.l (.x s10))
def spec_l31Plan_c2_r := fun r67V r67P x4 x5 x6 s10 s11 => (spec_l31Plan_c2_r_t r67V r67P x4 x5 x6 s10 s11).val
def spec_l31Plan_c2_r_ob := fun r67V r67P x4 x5 x6 s10 s11 => (spec_l31Plan_c2_r_t r67V r67P x4 x5 x6 s10 s11).ob
def spec_l31Plan_c2_r_S := fun r67V r67P x4 x5 x6 s10 s11 => mkRd (spec_l31Plan_c2_r r67V r67P x4 x5 x6 s10 s11) (spec_l31Plan_c2_r_ob r67V r67P x4 x5 x6 s10 s11) [0,0,1,0,1,1] (fun q => [(1, .box [(.fr, .i x4), (.fr, .i x5), (.sh, .lst .plan x6)]), (2, .box [(.fr, .i 0), (.fr, .i 0), (.fr, .nl .plan)]), (3, .box [(.fr, .i x4), (.fr, .i x5), ((.acc true), .lst .plan q.1)]), (4, .I q.2)]) (s10, s11) rv67 (fun q => (0, [(2, .box [(.fr, .i 0), (.fr, .i 0), (.fr, .nl .plan)]), (3, .box [(.fr, .i x4), (.fr, .i x5), ((.acc true), .lst .plan q)])])) nE nE
theorem spec_l31Plan_c2_r_ok {r67V : V67} {r67P : Q67} (G : Good Try.prog tt (sp_spec_l31Plan r67V r67P)) {fr : Fr} : ∀ x4 x5 x6 s10 s11, Ok67 fr (spec_l31Plan_c2_r_S r67V r67P x4 x5 x6 s10 s11) :=
  fun x4 x5 x6 s10 s11 => run_ok G [] trivial [(3,[1,2,3,4,14]),(4,[1,2,3,4]),(5,[1,2,3,4])] [] [] (spec_l31Plan_c2_r_t r67V r67P x4 x5 x6 s10 s11) rfl rfl (by kernel_rfl)
def spec_l31Plan_c2 := fun r67V r67P x4 x5 x6 => lpV (fun s : LP × Int => ocLp (spec_l31Plan_c2_r r67V r67P x4 x5 x6 s.1 s.2)) ([], 0)
def spec_l31Plan_c2_ob := fun r67V r67P x4 x5 x6 => LpT (fun s : LP × Int => ocLp (spec_l31Plan_c2_r r67V r67P x4 x5 x6 s.1 s.2)) (fun s => spec_l31Plan_c2_r_ob r67V r67P x4 x5 x6 s.1 s.2) ([], 0)
def spec_l31Plan_c2_S := fun r67V r67P x4 x5 x6 => lpS (spec_l31Plan_c2_r_S r67V r67P x4 x5 x6 [] 0) (spec_l31Plan_c2 r67V r67P x4 x5 x6) (spec_l31Plan_c2_ob r67V r67P x4 x5 x6)
theorem spec_l31Plan_c2_ok {r67V : V67} {r67P : Q67} (G : Good Try.prog tt (sp_spec_l31Plan r67V r67P)) {fr : Fr} : ∀ x4 x5 x6, Ok67 fr (spec_l31Plan_c2_S r67V r67P x4 x5 x6) :=
  fun x4 x5 x6 => loop_ok (fun s : LP × Int => spec_l31Plan_c2_r_S r67V r67P x4 x5 x6 s.1 s.2) ([], 0) (fun _ => rfl) (fun _ => ⟨rfl, rfl, rfl, rfl, rfl⟩) (by kernel_rfl) fun _ => spec_l31Plan_c2_r_ok G _ _ _ _ _
def spec_l31Plan_c1_t (r67V : V67) (r67P : Q67) (x1 x2 : Int) (x3 : LP) : Tr Plan LP Empty Empty Empty :=
  .s (spec_l31Plan_c2_S r67V r67P x1 x2 x3) nE (fun q20 => .l (.n q20)) nE nE
def spec_l31Plan_c1 := fun r67V r67P x1 x2 x3 => (spec_l31Plan_c1_t r67V r67P x1 x2 x3).val
def spec_l31Plan_c1_ob := fun r67V r67P x1 x2 x3 => (spec_l31Plan_c1_t r67V r67P x1 x2 x3).ob
def spec_l31Plan_c1_S := fun r67V r67P x1 x2 x3 => SubP.mk (spec_l31Plan_c1 r67V r67P x1 x2 x3) (spec_l31Plan_c1_ob r67V r67P x1 x2 x3) [0,1,1] [(1, .box [(.fr, .i x1), (.fr, .i x2), (.sh, .lst .plan x3)]), (2, .box [(.fr, .i 0), (.fr, .i 0), (.fr, .nl .plan)]), (3, .box [(.fr, .i x1), (.fr, .i x2), (.fr, .nl .plan)])] rv67 (fun q => [(2, .box [(.fr, .i 0), (.fr, .i 0), (.fr, .nl .plan)]), (3, .box [(.fr, .i x1), (.fr, .i x2), ((.acc true), .lst .plan q)])]) nE nE nE
theorem spec_l31Plan_c1_ok {r67V : V67} {r67P : Q67} (G : Good Try.prog tt (sp_spec_l31Plan r67V r67P)) {fr : Fr} : ∀ x1 x2 x3, Ok67 fr (spec_l31Plan_c1_S r67V r67P x1 x2 x3) :=
  fun x1 x2 x3 => run_ok G [([0,1,0,1,1], fun e => ⟨spec_l31Plan_c2_S r67V r67P (gI e 1 0) (gI e 1 1) (gL .plan e 1 2)⟩)] ⟨fun _ => ⟨rfl, spec_l31Plan_c2_ok G _ _ _⟩, trivial⟩ [(2,[1,2,3,4])] [] [] (spec_l31Plan_c1_t r67V r67P x1 x2 x3) rfl rfl (by kernel_rfl)
def spec_l31Plan_b_t (r67V : V67) (r67P : Q67) (a0 : Plan) : Tr Plan Empty Empty Empty Empty :=
  .s (spec_l31Plan_c1_S r67V r67P a0.Kind a0.Num a0.Kids) (fun q23 => .l (.r (Plan.mk a0.Kind a0.Num q23))) nE nE nE
def spec_l31Plan_b := fun r67V r67P a0 => (spec_l31Plan_b_t r67V r67P a0).val
def spec_l31Plan_b_ob := fun r67V r67P a0 => (spec_l31Plan_b_t r67V r67P a0).ob
def spec_l31Plan_b_S := fun r67V r67P a0 => SubP.mk (spec_l31Plan_b r67V r67P a0) (spec_l31Plan_b_ob r67V r67P a0) [] [(0, .agg false [.i a0.Kind, .i a0.Num, .lst .plan a0.Kids])] rv67 nE nE nE nE
theorem spec_l31Plan_b_ok {r67V : V67} {r67P : Q67} (G : Good Try.prog tt (sp_spec_l31Plan r67V r67P)) {fr : Fr} : ∀ a0, Ok67 fr (spec_l31Plan_b_S r67V r67P a0) :=
  fun a0 => run_ok G [([0,1,1], fun e => ⟨spec_l31Plan_c1_S r67V r67P (gI e 1 0) (gI e 1 1) (gL .plan e 1 2)⟩)] ⟨fun _ => ⟨rfl, spec_l31Plan_c1_ok G _ _ _⟩, trivial⟩ [(0,[1,2]),(1,[1,2,3]),(6,[2])] [] [] (spec_l31Plan_b_t r67V r67P a0) rfl rfl (by kernel_rfl)
theorem con_spec_l31Plan {r67V : V67} {r67P : Q67} (G : Good Try.prog tt (sp_spec_l31Plan r67V r67P)) : Con Try.prog 67 (rs_spec_l31Plan (fun a0 => ocR (spec_l31Plan_b r67V r67P a0)) (fun a0 => spec_l31Plan_b_ob r67V r67P a0)) :=
  con_run (pts := [(.st .plan)]) (rt := .one .fr (.st .plan)) (o := fun x => spec_l31Plan_b r67V r67P x.1) (ob := fun x => spec_l31Plan_b_ob r67V r67P x.1) G (fn := Try.f67) (c := bodyOf Try.f67) (by kernel_rfl) (by kernel_rfl) (by kernel_rfl) (rs := [.cell 2 28]) (fz := F67.fz) (by kernel_rfl) (by kernel_rfl) (fun _ => rfl) rfl (fun x => spec_l31Plan_b_S r67V r67P x.1) (fun _ => ⟨rfl, rfl, rfl, rfl, rfl⟩) (fun x _ => spec_l31Plan_b_ok G x.1)

def vp_spec_l31Plan : Nat → V67 × Q67
  | 0 => (fun _ => default, fun _ => False)
  | n + 1 => (fun a0 => ocR (spec_l31Plan_b (vp_spec_l31Plan n).1 (vp_spec_l31Plan n).2 a0), fun a0 => spec_l31Plan_b_ob (vp_spec_l31Plan n).1 (vp_spec_l31Plan n).2 a0)
def v_spec_l31Plan : V67 := (vp_spec_l31Plan fuelN).1
def p_spec_l31Plan : Q67 := (vp_spec_l31Plan fuelN).2
def s_spec_l31Plan : Spec := rs_spec_l31Plan v_spec_l31Plan p_spec_l31Plan

def sp_spec_SessNew : SP := [(66, s_spec_PlanOk), (67, s_spec_l31Plan)]
abbrev F20 : Fnn := ⟨[.cell 2 33, .tmp 3], .tup [(false, (.st .sess)), (true, .bool)], none, []⟩
abbrev rv20 : Sess × Bool × Unit → RV := fun q => (some (RT.av (.tup [(false, (.st .sess)), (true, .bool)]) q), .dead)
abbrev Ok20 (fr : Fr) {A X Y Z : Type} (S : SubP (Sess × Bool × Unit) A X Y Z) : Prop := SubOk Try.prog tt ⟨Try.f20.ntmps, none, []⟩ fr (bodyOf Try.f20) F20 S
def spec_SessNew_b_t (a0 : Plan) : Tr (Sess × Bool × Unit) Empty Empty Empty Empty :=
  .w [(p_spec_PlanOk (Plan.mk a0.Kind a0.Num a0.Kids))] (.c (!(v_spec_PlanOk (Plan.mk a0.Kind a0.Num a0.Kids)))
  (.l (.r ((Sess.mk (Plan.mk 0 0 []) [] [] []), (false, ()))))
  (.w [(p_spec_l31Plan (Plan.mk a0.Kind a0.Num a0.Kids))] (.l (.r ((Sess.mk (Plan.mk (v_spec_l31Plan (Plan.mk a0.Kind a0.Num a0.Kids)).Kind (v_spec_l31Plan (Plan.mk a0.Kind a0.Num a0.Kids)).Num (v_spec_l31Plan (Plan.mk a0.Kind a0.Num a0.Kids)).Kids) [[], []] [(Time.mk 0 0)] []), (true, ()))))))
def spec_SessNew_b := fun a0 => (spec_SessNew_b_t a0).val
def spec_SessNew_b_ob := fun a0 => (spec_SessNew_b_t a0).ob
def spec_SessNew_b_S := fun a0 => SubP.mk (spec_SessNew_b a0) (spec_SessNew_b_ob a0) [] [(0, .agg false [.i a0.Kind, .i a0.Num, .lst .plan a0.Kids])] rv20 nE nE nE nE
theorem spec_SessNew_b_ok (G : Good Try.prog tt sp_spec_SessNew) {fr : Fr} : ∀ a0, Ok20 fr (spec_SessNew_b_S a0) :=
  fun a0 => run_ok G [] trivial [(0,[1,2]),(1,[1,2,6]),(2,[2,3]),(3,[2,3])] [] [] (spec_SessNew_b_t a0) rfl rfl (by kernel_rfl)
def v_spec_SessNew (a0 : Plan) : Sess × Bool × Unit := ocR (spec_SessNew_b a0)
def p_spec_SessNew (a0 : Plan) : Prop := spec_SessNew_b_ob a0
def s_spec_SessNew : Spec := ⟨[(.st .plan)], .tup [(false, (.st .sess)), (true, .bool)], false, fun x => (v_spec_SessNew x.1, 0), fun x => p_spec_SessNew x.1⟩
theorem con_spec_SessNew (G : Good Try.prog tt sp_spec_SessNew) : Con Try.prog 20 s_spec_SessNew :=
  con_run (pts := [(.st .plan)]) (rt := .tup [(false, (.st .sess)), (true, .bool)]) (o := fun x => spec_SessNew_b x.1) (ob := fun x => spec_SessNew_b_ob x.1) G (fn := Try.f20) (c := bodyOf Try.f20) (by kernel_rfl) (by kernel_rfl) (by kernel_rfl) (rs := [.cell 2 33, .tmp 3]) (fz := F20.fz) (by kernel_rfl) (by kernel_rfl) (fun _ => rfl) rfl (fun x => spec_SessNew_b_S x.1) (fun _ => ⟨rfl, rfl, rfl, rfl, rfl⟩) (fun x _ => spec_SessNew_b_ok G x.1)

def sp_impl_kidsOf : SP := []
abbrev F141 : Fnn := ⟨[.tmp 2, .tmp 3, .tmp 4], .tup [(true, (.int .i64)), (true, (.int .i64)), (true, (.int .i64))], none, []⟩
abbrev rv141 : Int × Int × Int × Unit → RV := fun q => (some (RT.av (.tup [(true, (.int .i64)), (true, (.int .i64)), (true, (.int .i64))]) q), .dead)
abbrev Ok141 (fr : Fr) {A X Y Z : Type} (S : SubP (Int × Int × Int × Unit) A X Y Z) : Prop := SubOk Try.prog tt ⟨Try.f141.ntmps, none, []⟩ fr (bodyOf Try.f141) F141 S
def impl_kidsOf_c2_t (x4 : Int) : Tr (Int × Int × Int × Unit) Bool Empty Empty Empty :=
  .c (cmp .eql x4 3)
  (.l (.n (cmp .eql x4 3)))
  (.l (.n (cmp .eql x4 5)))
def impl_kidsOf_c2 := fun x4 => (impl_kidsOf_c2_t x4).val
def impl_kidsOf_c2_ob := fun x4 => (impl_kidsOf_c2_t x4).ob
def impl_kidsOf_c2_S := fun x4 => SubP.mk (impl_kidsOf_c2 x4) (impl_kidsOf_c2_ob x4) [0,1,1,1,1,0,1,0,1] [(5, .I x4)] rv141 (fun q => [(5, .I x4), (10, .O q)]) nE nE nE
theorem impl_kidsOf_c2_ok (G : Good Try.prog tt sp_impl_kidsOf) {fr : Fr} : ∀ x4, Ok141 fr (impl_kidsOf_c2_S x4) :=
  fun x4 => run_ok G [] trivial [(6,[5,10]),(7,[5,10])] [] [] (impl_kidsOf_c2_t x4) rfl rfl (by kernel_rfl)
def impl_kidsOf_c1_t (x1 : Int) : Tr (Int × Int × Int × Unit) Unit Empty Empty Empty :=
  .c (cmp .eql x1 1)
  (.l (.r (0, (0, (1, ())))))
  (.c (cmp .eql x1 2)
  (.l (.r (1, (1, (7, ())))))
  (.s (impl_kidsOf_c2_S x1) (fun q7 => .c q7
  (.l (.r (2, (0, (0, ())))))
  (.c (cmp .eql x1 4)
  (.l (.r (1, (0, (0, ())))))
  (.c (cmp .eql x1 6)
  (.l (.r (1, (1, (3, ())))))
  (.l (.n ()))))) nE nE nE))
def impl_kidsOf_c1 := fun x1 => (impl_kidsOf_c1_t x1).val
def impl_kidsOf_c1_ob := fun x1 => (impl_kidsOf_c1_t x1).ob
def impl_kidsOf_c1_S := fun x1 => SubP.mk (impl_kidsOf_c1 x1) (impl_kidsOf_c1_ob x1) [0,1] [(0, .I x1)] rv141 (fun _ => []) nE nE nE
theorem impl_kidsOf_c1_ok (G : Good Try.prog tt sp_impl_kidsOf) {fr : Fr} : ∀ x1, Ok141 fr (impl_kidsOf_c1_S x1) :=
  fun x1 => run_ok G [([0,1,1,1,1,0,1,0,1], fun e => ⟨impl_kidsOf_c2_S (gI e 5 0)⟩)] ⟨fun _ => ⟨rfl, impl_kidsOf_c2_ok G _⟩, trivial⟩ [(1,[5]),(2,[5,6]),(3,[2,3,4]),(4,[5,8]),(5,[2,3,4]),(8,[2,3,4]),(9,[5,13]),(10,[2,3,4]),(11,[15]),(12,[2,3,4])] [] [] (impl_kidsOf_c1_t x1) rfl rfl (by kernel_rfl)
def impl_kidsOf_b_t (a0 : Int) : Tr (Int × Int × Int × Unit) Empty Empty Empty Empty :=
  .s (impl_kidsOf_c1_S a0) (fun _ => .l (.r ((-1), (0, (0, ()))))) nE nE nE
def impl_kidsOf_b := fun a0 => (impl_kidsOf_b_t a0).val
def impl_kidsOf_b_ob := fun a0 => (impl_kidsOf_b_t a0).ob
def impl_kidsOf_b_S := fun a0 => SubP.mk (impl_kidsOf_b a0) (impl_kidsOf_b_ob a0) [] [(0, .I a0)] rv141 nE nE nE nE
theorem impl_kidsOf_b_ok (G : Good Try.prog tt sp_impl_kidsOf) {fr : Fr} : ∀ a0, Ok141 fr (impl_kidsOf_b_S a0) :=
  fun a0 => run_ok G [([0,1], fun e => ⟨impl_kidsOf_c1_S (gI e 0 0)⟩)] ⟨fun _ => ⟨rfl, impl_kidsOf_c1_ok G _⟩, trivial⟩ [(0,[0]),(13,[2,3,4])] [] [] (impl_kidsOf_b_t a0) rfl rfl (by kernel_rfl)
def v_impl_kidsOf (a0 : Int) : Int × Int × Int × Unit := ocR (impl_kidsOf_b a0)
def p_impl_kidsOf (a0 : Int) : Prop := impl_kidsOf_b_ob a0
def s_impl_kidsOf : Spec := ⟨[(.int .i64)], .tup [(true, (.int .i64)), (true, (.int .i64)), (true, (.int .i64))], false, fun x => (v_impl_kidsOf x.1, 0), fun x => p_impl_kidsOf x.1⟩
theorem con_impl_kidsOf (G : Good Try.prog tt sp_impl_kidsOf) : Con Try.prog 141 s_impl_kidsOf :=
  con_run (pts := [(.int .i64)]) (rt := .tup [(true, (.int .i64)), (true, (.int .i64)), (true, (.int .i64))]) (o := fun x => impl_kidsOf_b x.1) (ob := fun x => impl_kidsOf_b_ob x.1) G (fn := Try.f141) (c := bodyOf Try.f141) (by kernel_rfl) (by kernel_rfl) (by kernel_rfl) (rs := [.tmp 2, .tmp 3, .tmp 4]) (fz := F141.fz) (by kernel_rfl) (by kernel_rfl) (fun _ => rfl) rfl (fun x => impl_kidsOf_b_S x.1) (fun _ => ⟨rfl, rfl, rfl, rfl, rfl⟩) (fun x _ => impl_kidsOf_b_ok G x.1)

abbrev V121 := Plan → Int → Bool
abbrev Q121 := Plan → Int → Prop
def rs_impl_planOk (v : V121) (p : Q121) : Spec := ⟨[(.st .plan), (.int .i64)], .one .fr .bool, false, fun x => (v x.1 x.2.1, 0), fun x => p x.1 x.2.1⟩
def sp_impl_planOk (r121V : V121) (r121P : Q121) : SP := [(141, s_impl_kidsOf), (121, rs_impl_planOk r121V r121P)]
abbrev F121 : Fnn := ⟨[.tmp 4], .one .fr .bool, none, []⟩
abbrev rv121 : Bool → RV := fun q => (some (RT.av (.one .fr .bool) q), .dead)
abbrev Ok121 (fr : Fr) {A X Y Z : Type} (S : SubP Bool A X Y Z) : Prop := SubOk Try.prog tt ⟨Try.f121.ntmps, none, []⟩ fr (bodyOf Try.f121) F121 S
def impl_planOk_c2_r_t (r121V : V121) (r121P : Q121) (x6 : Int) (x7 : LP) (x8 s12 : Int) : Tr Bool Int Unit Empty Empty :=
  .c (cmp .lss s12 x8)
  (.w [inb s12 (lenI .plan x7)] (.w [(r121P (Plan.mk (rd .plan x7 s12).Kind (rd .plan x7 s12).Num (rd .plan x7 s12).Kids) (ar .sub .i64 x6 1))] (.c (!(r121V (Plan.mk (rd .plan x7 s12).Kind (rd .plan x7 s12).Num (rd .plan x7 s12).Kids) (ar .sub .i64 x6 1)))
  (.l (.r false))
  (.l (.n (ar .add .i64 s12 1))))))
  (.l (.x ()))
def impl_planOk_c2_r := fun r121V r121P x6 x7 x8 s12 => (impl_planOk_c2_r_t r121V r121P x6 x7 x8 s12).val
def impl_planOk_c2_r_ob := fun r121V r121P x6 x7 x8 s12 => (impl_planOk_c2_r_t r121V r121P x6 x7 x8 s12).ob
def impl_planOk_c2_r_S := fun r121V r121P x6 x7 x8 s12 => mkRd (impl_planOk_c2_r r121V r121P x6 x7 x8 s12) (impl_planOk_c2_r_ob r121V r121P x6 x7 x8 s12) [0,0,1,0,1,1,1] (fun q => [(1, .I x6), (43, .S .plan x7), (44, .I x8), (45, .I q)]) s12 rv121 (fun _ => (0, [])) nE nE
theorem impl_planOk_c2_r_ok {r121V : V121} {r121P : Q121} (G : Good Try.prog tt (sp_impl_planOk r121V r121P)) {fr : Fr} : ∀ x6 x7 x8 s12, Ok121 fr (impl_planOk_c2_r_S r121V r121P x6 x7 x8 s12) :=
  fun x6 x7 x8 s12 => run_ok G [] trivial [(5,[1,43,44,45,46]),(6,[1,9,43,44,45]),(7,[1,43,44,45,53]),(8,[4]),(9,[1,43,44,45])] [] [] (impl_planOk_c2_r_t r121V r121P x6 x7 x8 s12) rfl rfl (by kernel_rfl)
def impl_planOk_c2 := fun r121V r121P x6 x7 x8 => lpV (fun s : Int => ocLp (impl_planOk_c2_r r121V r121P x6 x7 x8 s)) 0
def impl_planOk_c2_ob := fun r121V r121P x6 x7 x8 => LpT (fun s : Int => ocLp (impl_planOk_c2_r r121V r121P x6 x7 x8 s)) (fun s => impl_planOk_c2_r_ob r121V r121P x6 x7 x8 s) 0
def impl_planOk_c2_S := fun r121V r121P x6 x7 x8 => lpS (impl_planOk_c2_r_S r121V r121P x6 x7 x8 0) (impl_planOk_c2 r121V r121P x6 x7 x8) (impl_planOk_c2_ob r121V r121P x6 x7 x8)
theorem impl_planOk_c2_ok {r121V : V121} {r121P : Q121} (G : Good Try.prog tt (sp_impl_planOk r121V r121P)) {fr : Fr} : ∀ x6 x7 x8, Ok121 fr (impl_planOk_c2_S r121V r121P x6 x7 x8) :=
  fun x6 x7 x8 => loop_ok (fun s : Int => impl_planOk_c2_r_S r121V r121P x6 x7 x8 s) 0 (fun _ => rfl) (fun _ => ⟨rfl, rfl, rfl, rfl, rfl⟩) (by kernel_rfl) fun _ => impl_planOk_c2_r_ok G _ _ _ _
def impl_planOk_c1_t (r121V : V121) (r121P : Q121) (x2 _x3 _x4 : Int) (x5 : LP) : Tr Bool Unit Empty Empty Empty :=
  .s (impl_planOk_c2_S r121V r121P x2 x5 (lenI .plan x5)) nE (fun _ => .l (.n ())) nE nE
def impl_planOk_c1 := fun r121V r121P x2 x3 x4 x5 => (impl_planOk_c1_t r121V r121P x2 x3 x4 x5).val
def impl_planOk_c1_ob := fun r121V r121P x2 x3 x4 x5 => (impl_planOk_c1_t r121V r121P x2 x3 x4 x5).ob
def impl_planOk_c1_S := fun r121V r121P x2 x3 x4 x5 => SubP.mk (impl_planOk_c1 r121V r121P x2 x3 x4 x5) (impl_planOk_c1_ob r121V r121P x2 x3 x4 x5) [0,1,1,1] [(1, .I x2), (2, .box [(.fr, .i x3), (.fr, .i x4), (.sh, .lst .plan x5)])] rv121 (fun _ => []) nE nE nE
theorem impl_planOk_c1_ok {r121V : V121} {r121P : Q121} (G : Good Try.prog tt (sp_impl_planOk r121V r121P)) {fr : Fr} : ∀ x2 x3 x4 x5, Ok121 fr (impl_planOk_c1_S r121V r121P x2 x3 x4 x5) :=
  fun x2 x3 x4 x5 => run_ok G [([0,1,0,1,1,1], fun e => ⟨impl_planOk_c2_S r121V r121P (gI e 1 0) (gL .plan e 43 0) (gI e 44 0)⟩)] ⟨fun _ => ⟨rfl, impl_planOk_c2_ok G _ _ _⟩, trivial⟩ [(4,[1,43,44,45])] [] [] (impl_planOk_c1_t r121V r121P x2 x3 x4 x5) rfl rfl (by kernel_rfl)
def impl_planOk_b_t (r121V : V121) (r121P : Q121) (a0 : Plan) (a1 : Int) : Tr Bool Empty Empty Empty Empty :=
  .w [(p_impl_kidsOf a0.Kind)] (.c (cond (cond (cond (cond (cmp .lss a1 1) true (cmp .lss (v_impl_kidsOf a0.Kind).1 0)) true (cmp .neq (lenI .plan a0.Kids) (v_impl_kidsOf a0.Kind).1)) true (cmp .lss a0.Num (v_impl_kidsOf a0.Kind).2.1)) true (cmp .gtr a0.Num (v_impl_kidsOf a0.Kind).2.2.1))
  (.l (.r false))
  (.s (impl_planOk_c1_S r121V r121P a1 a0.Kind a0.Num a0.Kids) (fun _ => .l (.r true)) nE nE nE))
def impl_planOk_b := fun r121V r121P a0 a1 => (impl_planOk_b_t r121V r121P a0 a1).val
def impl_planOk_b_ob := fun r121V r121P a0 a1 => (impl_planOk_b_t r121V r121P a0 a1).ob
def impl_planOk_b_S := fun r121V r121P a0 a1 => SubP.mk (impl_planOk_b r121V r121P a0 a1) (impl_planOk_b_ob r121V r121P a0 a1) [] [(0, .agg false [.i a0.Kind, .i a0.Num, .lst .plan a0.Kids]), (1, .I a1)] rv121 nE nE nE nE
theorem impl_planOk_b_ok {r121V : V121} {r121P : Q121} (G : Good Try.prog tt (sp_impl_planOk r121V r121P)) {fr : Fr} : ∀ a0 a1, Ok121 fr (impl_planOk_b_S r121V r121P a0 a1) :=
  fun a0 a1 => run_ok G [([0,1,1,1], fun e => ⟨impl_planOk_c1_S r121V r121P (gI e 1 0) (gI e 2 0) (gI e 2 1) (gL .plan e 2 2)⟩)] ⟨fun _ => ⟨rfl, impl_planOk_c1_ok G _ _ _ _⟩, trivial⟩ [(0,[1,2]),(1,[1,2,5,6,7]),(2,[1,2,41]),(3,[4]),(10,[4])] [] [] (impl_planOk_b_t r121V r121P a0 a1) rfl rfl (by kernel_rfl)
theorem con_impl_planOk {r121V : V121} {r121P : Q121} (G : Good Try.prog tt (sp_impl_planOk r121V r121P)) : Con Try.prog 121 (rs_impl_planOk (fun a0 a1 => ocR (impl_planOk_b r121V r121P a0 a1)) (fun a0 a1 => impl_planOk_b_ob r121V r121P a0 a1)) :=
  con_run (pts := [(.st .plan), (.int .i64)]) (rt := .one .fr .bool) (o := fun x => impl_planOk_b r121V r121P x.1 x.2.1) (ob := fun x => impl_planOk_b_ob r121V r121P x.1 x.2.1) G (fn := Try.f121) (c := bodyOf Try.f121) (by kernel_rfl) (by kernel_rfl) (by kernel_rfl) (rs := [.tmp 4]) (fz := F121.fz) (by kernel_rfl) (by kernel_rfl) (fun _ => rfl) rfl (fun x => impl_planOk_b_S r121V r121P x.1 x.2.1) (fun _ => ⟨rfl, rfl, rfl, rfl, rfl⟩) (fun x _ => impl_planOk_b_ok G x.1 x.2.1)

def vp_impl_planOk : Nat → V121 × Q121
  | 0 => (fun _ _ => default, fun _ _ => False)
  | n + 1 => (fun a0 a1 => ocR (impl_planOk_b (vp_impl_planOk n).1 (vp_impl_planOk n).2 a0 a1), fun a0 a1 => impl_planOk_b_ob (vp_impl_planOk n).1 (vp_impl_planOk n).2 a0 a1)
def v_impl_planOk : V121 := (vp_impl_planOk fuelN).1
def p_impl_planOk : Q121 := (vp_impl_planOk fuelN).2
def s_impl_planOk : Spec := rs_impl_planOk v_impl_planOk p_impl_planOk

def sp_impl_PlanOk : SP := [(121, s_impl_planOk)]
abbrev F69 : Fnn := ⟨[.tmp 2], .one .fr .bool, none, []⟩
abbrev rv69 : Bool → RV := fun q => (some (RT.av (.one .fr .bool) q), .dead)
abbrev Ok69 (fr : Fr) {A X Y Z : Type} (S : SubP Bool A X Y Z) : Prop := SubOk Try.prog tt ⟨Try.f69.ntmps, none, []⟩ fr (bodyOf Try.f69) F69 S
def impl_PlanOk_b_t (a0 : Plan) : Tr Bool Empty Empty Empty Empty :=
  .w [(p_impl_planOk (Plan.mk a0.Kind a0.Num a0.Kids) 4)] (.l (.r (v_impl_planOk (Plan.mk a0.Kind a0.Num a0.Kids) 4)))
def impl_PlanOk_b := fun a0 => (impl_PlanOk_b_t a0).val
def impl_PlanOk_b_ob := fun a0 => (impl_PlanOk_b_t a0).ob
def impl_PlanOk_b_S := fun a0 => SubP.mk (impl_PlanOk_b a0) (impl_PlanOk_b_ob a0) [] [(0, .agg false [.i a0.Kind, .i a0.Num, .lst .plan a0.Kids])] rv69 nE nE nE nE
theorem impl_PlanOk_b_ok (G : Good Try.prog tt sp_impl_PlanOk) {fr : Fr} : ∀ a0, Ok69 fr (impl_PlanOk_b_S a0) :=
  fun a0 => run_ok G [] trivial [(0,[1]),(1,[2])] [] [] (impl_PlanOk_b_t a0) rfl rfl (by kernel_rfl)
def v_impl_PlanOk (a0 : Plan) : Bool := ocR (impl_PlanOk_b a0)
def p_impl_PlanOk (a0 : Plan) : Prop := impl_PlanOk_b_ob a0
def s_impl_PlanOk : Spec := ⟨[(.st .plan)], .one .fr .bool, false, fun x => (v_impl_PlanOk x.1, 0), fun x => p_impl_PlanOk x.1⟩
theorem con_impl_PlanOk (G : Good Try.prog tt sp_impl_PlanOk) : Con Try.prog 69 s_impl_PlanOk :=
  con_run (pts := [(.st .plan)]) (rt := .one .fr .bool) (o := fun x => impl_PlanOk_b x.1) (ob := fun x => impl_PlanOk_b_ob x.1) G (fn := Try.f69) (c := bodyOf Try.f69) (by kernel_rfl) (by kernel_rfl) (by kernel_rfl) (rs := [.tmp 2]) (fz := F69.fz) (by kernel_rfl) (by kernel_rfl) (fun _ => rfl) rfl (fun x => impl_PlanOk_b_S x.1) (fun _ => ⟨rfl, rfl, rfl, rfl, rfl⟩) (fun x _ => impl_PlanOk_b_ok G x.1)

abbrev V70 := Plan → Plan
abbrev Q70 := Plan → Prop
def rs_impl_planCopy (v : V70) (p : Q70) : Spec := ⟨[(.st .plan)], .one .fr (.st .plan), false, fun x => (v x.1, 0), fun x => p x.1⟩
def sp_impl_planCopy (r70V : V70) (r70P : Q70) : SP := [(70, rs_impl_planCopy r70V r70P)]
abbrev F70 : Fnn := ⟨[.cell 2 28], .one .fr (.st .plan), none, []⟩
abbrev rv70 : Plan → RV := fun q => (some (RT.av (.one .fr (.st .plan)) q), .dead)
abbrev Ok70 (fr : Fr) {A X Y Z : Type} (S : SubP Plan A X Y Z) : Prop := SubOk Try.prog tt ⟨Try.f70.ntmps, none, []⟩ fr (bodyOf Try.f70) F70 S
def impl_planCopy_c2_r_t (r70V : V70) (r70P : Q70) (_x4 _x5 : Int) (x6 : LP) (x7 : Int) (s11 : LP) (s12 : Int) : Tr Plan (LP × Int) LP Empty Empty :=
  .c (cmp .lss s12 x7)
  (.w [inb s12 (lenI .plan x6)] (.w [(r70P (Plan.mk (rd .plan x6 s12).Kind (rd .plan x6 s12).Num (rd .plan x6 s12).Kids)), lim (lenI .plan s11) (lenI .plan [(Plan.mk (r70V (Plan.mk (rd .plan x6 s12).Kind (rd .plan x6 s12).Num (rd .plan x6 s12).Kids)).Kind (r70V (Plan.mk (rd .plan x6 s12).Kind (rd .plan x6 s12).Num (rd .plan x6 s12).Kids)).Num (r70V (Plan.mk (rd .plan x6 s12).Kind (rd .plan x6 s12).Num (rd .plan x6 s12).Kids)).Kids)])] (.l (.n ((s11 ++ [(Plan.mk (r70V (Plan.mk (rd .plan x6 s12).Kind (rd .plan x6 s12).Num (rd .plan x6 s12).Kids)).Kind (r70V (Plan.mk (rd .plan x6 s12).Kind (rd .plan x6 s12).Num (rd .plan x6 s12).Kids)).Num (r70V (Plan.mk (rd .plan x6 s12).Kind (rd .plan x6 s12).Num (rd .plan x6 s12).Kids)).Kids)]), (ar .add .i64 s12 1))))))
  (.l (.x s11))
def impl_planCopy_c2_r := fun r70V r70P x4 x5 x6 x7 s11 s12 => (impl_planCopy_c2_r_t r70V r70P x4 x5 x6 x7 s11 s12).val
def impl_planCopy_c2_r_ob := fun r70V r70P x4 x5 x6 x7 s11 s12 => (impl_planCopy_c2_r_t r70V r70P x4 x5 x6 x7 s11 s12).ob
def impl_planCopy_c2_r_S := fun r70V r70P x4 x5 x6 x7 s11 s12 => mkRd (impl_planCopy_c2_r r70V r70P x4 x5 x6 x7 s11 s12) (impl_planCopy_c2_r_ob r70V r70P x4 x5 x6 x7 s11 s12) [0,0,1,0,1,1] (fun q => [(2, .box [(.fr, .i 0), (.fr, .i 0), (.fr, .nl .plan)]), (3, .box [(.fr, .i x4), (.fr, .i x5), ((.acc true), .lst .plan q.1)]), (12, .S .plan x6), (13, .I x7), (14, .I q.2)]) (s11, s12) rv70 (fun q => (0, [(2, .box [(.fr, .i 0), (.fr, .i 0), (.fr, .nl .plan)]), (3, .box [(.fr, .i x4), (.fr, .i x5), ((.acc true), .lst .plan q)])])) nE nE
theorem impl_planCopy_c2_r_ok {r70V : V70} {r70P : Q70} (G : Good Try.prog tt (sp_impl_planCopy r70V r70P)) {fr : Fr} : ∀ x4 x5 x6 x7 s11 s12, Ok70 fr (impl_planCopy_c2_r_S r70V r70P x4 x5 x6 x7 s11 s12) :=
  fun x4 x5 x6 x7 s11 s12 => run_ok G [] trivial [(3,[2,3,12,13,14,15]),(4,[2,3,5,12,13,14]),(5,[2,3,12,13,14]),(6,[2,3,12,13,14])] [] [] (impl_planCopy_c2_r_t r70V r70P x4 x5 x6 x7 s11 s12) rfl rfl (by kernel_rfl)
def impl_planCopy_c2 := fun r70V r70P x4 x5 x6 x7 => lpV (fun s : LP × Int => ocLp (impl_planCopy_c2_r r70V r70P x4 x5 x6 x7 s.1 s.2)) ([], 0)
def impl_planCopy_c2_ob := fun r70V r70P x4 x5 x6 x7 => LpT (fun s : LP × Int => ocLp (impl_planCopy_c2_r r70V r70P x4 x5 x6 x7 s.1 s.2)) (fun s => impl_planCopy_c2_r_ob r70V r70P x4 x5 x6 x7 s.1 s.2) ([], 0)
def impl_planCopy_c2_S := fun r70V r70P x4 x5 x6 x7 => lpS (impl_planCopy_c2_r_S r70V r70P x4 x5 x6 x7 [] 0) (impl_planCopy_c2 r70V r70P x4 x5 x6 x7) (impl_planCopy_c2_ob r70V r70P x4 x5 x6 x7)
theorem impl_planCopy_c2_ok {r70V : V70} {r70P : Q70} (G : Good Try.prog tt (sp_impl_planCopy r70V r70P)) {fr : Fr} : ∀ x4 x5 x6 x7, Ok70 fr (impl_planCopy_c2_S r70V r70P x4 x5 x6 x7) :=
  fun x4 x5 x6 x7 => loop_ok (fun s : LP × Int => impl_planCopy_c2_r_S r70V r70P x4 x5 x6 x7 s.1 s.2) ([], 0) (fun _ => rfl) (fun _ => ⟨rfl, rfl, rfl, rfl, rfl⟩) (by kernel_rfl) fun _ => impl_planCopy_c2_r_ok G _ _ _ _ _ _
def impl_planCopy_c1_t (r70V : V70) (r70P : Q70) (x1 x2 : Int) (x3 : LP) : Tr Plan LP Empty Empty Empty :=
  .s (impl_planCopy_c2_S r70V r70P x1 x2 x3 (lenI .plan x3)) nE (fun q21 => .l (.n q21)) nE nE
def impl_planCopy_c1 := fun r70V r70P x1 x2 x3 => (impl_planCopy_c1_t r70V r70P x1 x2 x3).val
def impl_planCopy_c1_ob := fun r70V r70P x1 x2 x3 => (impl_planCopy_c1_t r70V r70P x1 x2 x3).ob
def impl_planCopy_c1_S := fun r70V r70P x1 x2 x3 => SubP.mk (impl_planCopy_c1 r70V r70P x1 x2 x3) (impl_planCopy_c1_ob r70V r70P x1 x2 x3) [0,1,1] [(1, .box [(.fr, .i x1), (.fr, .i x2), (.sh, .lst .plan x3)]), (2, .box [(.fr, .i 0), (.fr, .i 0), (.fr, .nl .plan)]), (3, .box [(.fr, .i x1), (.fr, .i x2), (.fr, .nl .plan)])] rv70 (fun q => [(2, .box [(.fr, .i 0), (.fr, .i 0), (.fr, .nl .plan)]), (3, .box [(.fr, .i x1), (.fr, .i x2), ((.acc true), .lst .plan q)])]) nE nE nE
theorem impl_planCopy_c1_ok {r70V : V70} {r70P : Q70} (G : Good Try.prog tt (sp_impl_planCopy r70V r70P)) {fr : Fr} : ∀ x1 x2 x3, Ok70 fr (impl_planCopy_c1_S r70V r70P x1 x2 x3) :=
  fun x1 x2 x3 => run_ok G [([0,1,0,1,1], fun e => ⟨impl_planCopy_c2_S r70V r70P (gI e 3 0) (gI e 3 1) (gL .plan e 12 0) (gI e 13 0)⟩)] ⟨fun _ => ⟨rfl, impl_planCopy_c2_ok G _ _ _ _⟩, trivial⟩ [(2,[2,3,12,13,14])] [] [] (impl_planCopy_c1_t r70V r70P x1 x2 x3) rfl rfl (by kernel_rfl)
def impl_planCopy_b_t (r70V : V70) (r70P : Q70) (a0 : Plan) : Tr Plan Empty Empty Empty Empty :=
  .s (impl_planCopy_c1_S r70V r70P a0.Kind a0.Num a0.Kids) (fun q24 => .l (.r (Plan.mk a0.Kind a0.Num q24))) nE nE nE
def impl_planCopy_b := fun r70V r70P a0 => (impl_planCopy_b_t r70V r70P a0).val
def impl_planCopy_b_ob := fun r70V r70P a0 => (impl_planCopy_b_t r70V r70P a0).ob
def impl_planCopy_b_S := fun r70V r70P a0 => SubP.mk (impl_planCopy_b r70V r70P a0) (impl_planCopy_b_ob r70V r70P a0) [] [(0, .agg false [.i a0.Kind, .i a0.Num, .lst .plan a0.Kids])] rv70 nE nE nE nE
theorem impl_planCopy_b_ok {r70V : V70} {r70P : Q70} (G : Good Try.prog tt (sp_impl_planCopy r70V r70P)) {fr : Fr} : ∀ a0, Ok70 fr (impl_planCopy_b_S r70V r70P a0) :=
  fun a0 => run_ok G [([0,1,1], fun e => ⟨impl_planCopy_c1_S r70V r70P (gI e 1 0) (gI e 1 1) (gL .plan e 1 2)⟩)] ⟨fun _ => ⟨rfl, impl_planCopy_c1_ok G _ _ _⟩, trivial⟩ [(0,[1,2]),(1,[1,2,3]),(7,[2])] [] [] (impl_planCopy_b_t r70V r70P a0) rfl rfl (by kernel_rfl)
theorem con_impl_planCopy {r70V : V70} {r70P : Q70} (G : Good Try.prog tt (sp_impl_planCopy r70V r70P)) : Con Try.prog 70 (rs_impl_planCopy (fun a0 => ocR (impl_planCopy_b r70V r70P a0)) (fun a0 => impl_planCopy_b_ob r70V r70P a0)) :=
  con_run (pts := [(.st .plan)]) (rt := .one .fr (.st .plan)) (o := fun x => impl_planCopy_b r70V r70P x.1) (ob := fun x => impl_planCopy_b_ob r70V r70P x.1) G (fn := Try.f70) (c := bodyOf Try.f70) (by kernel_rfl) (by kernel_rfl) (by kernel_rfl) (rs := [.cell 2 28]) (fz := F70.fz) (by kernel_rfl) (by kernel_rfl) (fun _ => rfl) rfl (fun x => impl_planCopy_b_S r70V r70P x.1) (fun _ => ⟨rfl, rfl, rfl, rfl, rfl⟩) (fun x _ => impl_planCopy_b_ok G x.1)

def vp_impl_planCopy : Nat → V70 × Q70
  | 0 => (fun _ => default, fun _ => False)
  | n + 1 => (fun a0 => ocR (impl_planCopy_b (vp_impl_planCopy n).1 (vp_impl_planCopy n).2 a0), fun a0 => impl_planCopy_b_ob (vp_impl_planCopy n).1 (vp_impl_planCopy n).2 a0)
def v_impl_planCopy : V70 := (vp_impl_planCopy fuelN).1
def p_impl_planCopy : Q70 := (vp_impl_planCopy fuelN).2
def s_impl_planCopy : Spec := rs_impl_planCopy v_impl_planCopy p_impl_planCopy

def sp_impl_SessNew : SP := [(69, s_impl_PlanOk), (70, s_impl_planCopy)]
abbrev F22 : Fnn := ⟨[.cell 2 33, .tmp 3], .tup [(false, (.st .sess)), (true, .bool)], none, []⟩
abbrev rv22 : Sess × Bool × Unit → RV := fun q => (some (RT.av (.tup [(false, (.st .sess)), (true, .bool)]) q), .dead)
abbrev Ok22 (fr : Fr) {A X Y Z : Type} (S : SubP (Sess × Bool × Unit) A X Y Z) : Prop := SubOk Try.prog tt ⟨Try.f22.ntmps, none, []⟩ fr (bodyOf Try.f22) F22 S
def impl_SessNew_b_t (a0 : Plan) : Tr (Sess × Bool × Unit) Empty Empty Empty Empty :=
  .w [(p_impl_PlanOk (Plan.mk a0.Kind a0.Num a0.Kids))] (.c (!(v_impl_PlanOk (Plan.mk a0.Kind a0.Num a0.Kids)))
  (.l (.r ((Sess.mk (Plan.mk 0 0 []) [] [] []), (false, ()))))
  (.w [(p_impl_planCopy (Plan.mk a0.Kind a0.Num a0.Kids)), mkOk 2 2] (.l (.r ((Sess.mk (Plan.mk (v_impl_planCopy (Plan.mk a0.Kind a0.Num a0.Kids)).Kind (v_impl_planCopy (Plan.mk a0.Kind a0.Num a0.Kids)).Num (v_impl_planCopy (Plan.mk a0.Kind a0.Num a0.Kids)).Kids) (List.replicate (Int.toNat 2) []) [(Time.mk 0 0)] []), (true, ()))))))
def impl_SessNew_b := fun a0 => (impl_SessNew_b_t a0).val
def impl_SessNew_b_ob := fun a0 => (impl_SessNew_b_t a0).ob
def impl_SessNew_b_S := fun a0 => SubP.mk (impl_SessNew_b a0) (impl_SessNew_b_ob a0) [] [(0, .agg false [.i a0.Kind, .i a0.Num, .lst .plan a0.Kids])] rv22 nE nE nE nE
theorem impl_SessNew_b_ok (G : Good Try.prog tt sp_impl_SessNew) {fr : Fr} : ∀ a0, Ok22 fr (impl_SessNew_b_S a0) :=
  fun a0 => run_ok G [] trivial [(0,[1,2]),(1,[1,2,6]),(2,[2,3]),(3,[2,3])] [] [] (impl_SessNew_b_t a0) rfl rfl (by kernel_rfl)
def v_impl_SessNew (a0 : Plan) : Sess × Bool × Unit := ocR (impl_SessNew_b a0)
def p_impl_SessNew (a0 : Plan) : Prop := impl_SessNew_b_ob a0
def s_impl_SessNew : Spec := ⟨[(.st .plan)], .tup [(false, (.st .sess)), (true, .bool)], false, fun x => (v_impl_SessNew x.1, 0), fun x => p_impl_SessNew x.1⟩
theorem con_impl_SessNew (G : Good Try.prog tt sp_impl_SessNew) : Con Try.prog 22 s_impl_SessNew :=
  con_run (pts := [(.st .plan)]) (rt := .tup [(false, (.st .sess)), (true, .bool)]) (o := fun x => impl_SessNew_b x.1) (ob := fun x => impl_SessNew_b_ob x.1) G (fn := Try.f22) (c := bodyOf Try.f22) (by kernel_rfl) (by kernel_rfl) (by kernel_rfl) (rs := [.cell 2 33, .tmp 3]) (fz := F22.fz) (by kernel_rfl) (by kernel_rfl) (fun _ => rfl) rfl (fun x => impl_SessNew_b_S x.1) (fun _ => ⟨rfl, rfl, rfl, rfl, rfl⟩) (fun x _ => impl_SessNew_b_ok G x.1)

abbrev V64 := Plan → Plan → Bool
abbrev Q64 := Plan → Plan → Prop
def rs_laws_lwPlan (v : V64) (p : Q64) : Spec := ⟨[(.st .plan), (.st .plan)], .one .fr .bool, false, fun x => (v x.1 x.2.1, 0), fun x => p x.1 x.2.1⟩
def sp_laws_lwPlan (r64V : V64) (r64P : Q64) : SP := [(64, rs_laws_lwPlan r64V r64P)]
abbrev F64 : Fnn := ⟨[.tmp 4], .one .fr .bool, none, []⟩
abbrev rv64 : Bool → RV := fun q => (some (RT.av (.one .fr .bool) q), .dead)
abbrev Ok64 (fr : Fr) {A X Y Z : Type} (S : SubP Bool A X Y Z) : Prop := SubOk Try.prog tt ⟨Try.f64.ntmps, none, []⟩ fr (bodyOf Try.f64) F64 S
def laws_lwPlan_c2_r_t (r64V : V64) (r64P : Q64) (_x8 _x9 : Int) (x10 : LP) (_x11 _x12 : Int) (x13 : LP) (s17 : Int) : Tr Bool Int Unit Empty Empty :=
  .c (cmp .lss s17 (lenI .plan x10))
  (.w [inb s17 (lenI .plan x10), inb s17 (lenI .plan x13), (r64P (Plan.mk (rd .plan x10 s17).Kind (rd .plan x10 s17).Num (rd .plan x10 s17).Kids) (Plan.mk (rd .plan x13 s17).Kind (rd .plan x13 s17).Num (rd .plan x13 s17).Kids))] (.c (!(r64V (Plan.mk (rd .plan x10 s17).Kind (rd .plan x10 s17).Num (rd .plan x10 s17).Kids) (Plan.mk (rd .plan x13 s17).Kind (rd .plan x13 s17).Num (rd .plan x13 s17).Kids)))
  (.l (.r false))
  (.l (.n (ar .add .i64 s17 1)))))
  (.l (.x ()))
def laws_lwPlan_c2_r := fun r64V r64P x8 x9 x10 x11 x12 x13 s17 => (laws_lwPlan_c2_r_t r64V r64P x8 x9 x10 x11 x12 x13 s17).val
def laws_lwPlan_c2_r_ob := fun r64V r64P x8 x9 x10 x11 x12 x13 s17 => (laws_lwPlan_c2_r_t r64V r64P x8 x9 x10 x11 x12 x13 s17).ob
def laws_lwPlan_c2_r_S := fun r64V r64P x8 x9 x10 x11 x12 x13 s17 => mkRd (laws_lwPlan_c2_r r64V r64P x8 x9 x10 x11 x12 x13 s17) (laws_lwPlan_c2_r_ob r64V r64P x8 x9 x10 x11 x12 x13 s17) [0,0,1,0,1,1] (fun q => [(2, .box [(.fr, .i x8), (.fr, .i x9), (.sh, .lst .plan x10)]), (3, .box [(.fr, .i x11), (.fr, .i x12), (.sh, .lst .plan x13)]), (5, .I q)]) s17 rv64 (fun _ => (0, [])) nE nE
theorem laws_lwPlan_c2_r_ok {r64V : V64} {r64P : Q64} (G : Good Try.prog tt (sp_laws_lwPlan r64V r64P)) {fr : Fr} : ∀ x8 x9 x10 x11 x12 x13 s17, Ok64 fr (laws_lwPlan_c2_r_S r64V r64P x8 x9 x10 x11 x12 x13 s17) :=
  fun x8 x9 x10 x11 x12 x13 s17 => run_ok G [] trivial [(4,[2,3,5,31]),(5,[2,3,5]),(6,[2,3,5,45]),(7,[4])] [] [] (laws_lwPlan_c2_r_t r64V r64P x8 x9 x10 x11 x12 x13 s17) rfl rfl (by kernel_rfl)
def laws_lwPlan_c2 := fun r64V r64P x8 x9 x10 x11 x12 x13 => lpV (fun s : Int => ocLp (laws_lwPlan_c2_r r64V r64P x8 x9 x10 x11 x12 x13 s)) 0
def laws_lwPlan_c2_ob := fun r64V r64P x8 x9 x10 x11 x12 x13 => LpT (fun s : Int => ocLp (laws_lwPlan_c2_r r64V r64P x8 x9 x10 x11 x12 x13 s)) (fun s => laws_lwPlan_c2_r_ob r64V r64P x8 x9 x10 x11 x12 x13 s) 0
def laws_lwPlan_c2_S := fun r64V r64P x8 x9 x10 x11 x12 x13 => lpS (laws_lwPlan_c2_r_S r64V r64P x8 x9 x10 x11 x12 x13 0) (laws_lwPlan_c2 r64V r64P x8 x9 x10 x11 x12 x13) (laws_lwPlan_c2_ob r64V r64P x8 x9 x10 x11 x12 x13)
theorem laws_lwPlan_c2_ok {r64V : V64} {r64P : Q64} (G : Good Try.prog tt (sp_laws_lwPlan r64V r64P)) {fr : Fr} : ∀ x8 x9 x10 x11 x12 x13, Ok64 fr (laws_lwPlan_c2_S r64V r64P x8 x9 x10 x11 x12 x13) :=
  fun x8 x9 x10 x11 x12 x13 => loop_ok (fun s : Int => laws_lwPlan_c2_r_S r64V r64P x8 x9 x10 x11 x12 x13 s) 0 (fun _ => rfl) (fun _ => ⟨rfl, rfl, rfl, rfl, rfl⟩) (by kernel_rfl) fun _ => laws_lwPlan_c2_r_ok G _ _ _ _ _ _ _
def laws_lwPlan_c1_t (r64V : V64) (r64P : Q64) (x2 x3 : Int) (x4 : LP) (x5 x6 : Int) (x7 : LP) : Tr Bool Unit Empty Empty Empty :=
  .s (laws_lwPlan_c2_S r64V r64P x2 x3 x4 x5 x6 x7) nE (fun _ => .l (.n ())) nE nE
def laws_lwPlan_c1 := fun r64V r64P x2 x3 x4 x5 x6 x7 => (laws_lwPlan_c1_t r64V r64P x2 x3 x4 x5 x6 x7).val
def laws_lwPlan_c1_ob := fun r64V r64P x2 x3 x4 x5 x6 x7 => (laws_lwPlan_c1_t r64V r64P x2 x3 x4 x5 x6 x7).ob
def laws_lwPlan_c1_S := fun r64V r64P x2 x3 x4 x5 x6 x7 => SubP.mk (laws_lwPlan_c1 r64V r64P x2 x3 x4 x5 x6 x7) (laws_lwPlan_c1_ob r64V r64P x2 x3 x4 x5 x6 x7) [0,1,1] [(2, .box [(.fr, .i x2), (.fr, .i x3), (.sh, .lst .plan x4)]), (3, .box [(.fr, .i x5), (.fr, .i x6), (.sh, .lst .plan x7)])] rv64 (fun _ => []) nE nE nE
theorem laws_lwPlan_c1_ok {r64V : V64} {r64P : Q64} (G : Good Try.prog tt (sp_laws_lwPlan r64V r64P)) {fr : Fr} : ∀ x2 x3 x4 x5 x6 x7, Ok64 fr (laws_lwPlan_c1_S r64V r64P x2 x3 x4 x5 x6 x7) :=
  fun x2 x3 x4 x5 x6 x7 => run_ok G [([0,1,0,1,1], fun e => ⟨laws_lwPlan_c2_S r64V r64P (gI e 2 0) (gI e 2 1) (gL .plan e 2 2) (gI e 3 0) (gI e 3 1) (gL .plan e 3 2)⟩)] ⟨fun _ => ⟨rfl, laws_lwPlan_c2_ok G _ _ _ _ _ _⟩, trivial⟩ [(3,[2,3,5])] [] [] (laws_lwPlan_c1_t r64V r64P x2 x3 x4 x5 x6 x7) rfl rfl (by kernel_rfl)
def laws_lwPlan_b_t (r64V : V64) (r64P : Q64) (a0 a1 : Plan) : Tr Bool Empty Empty Empty Empty :=
  .c (cond (cond (cmp .neq a0.Kind a1.Kind) true (cmp .neq a0.Num a1.Num)) true (cmp .neq (lenI .plan a0.Kids) (lenI .plan a1.Kids)))
  (.l (.r false))
  (.s (laws_lwPlan_c1_S r64V r64P a0.Kind a0.Num a0.Kids a1.Kind a1.Num a1.Kids) (fun _ => .l (.r true)) nE nE nE)
def laws_lwPlan_b := fun r64V r64P a0 a1 => (laws_lwPlan_b_t r64V r64P a0 a1).val
def laws_lwPlan_b_ob := fun r64V r64P a0 a1 => (laws_lwPlan_b_t r64V r64P a0 a1).ob
def laws_lwPlan_b_S := fun r64V r64P a0 a1 => SubP.mk (laws_lwPlan_b r64V r64P a0 a1) (laws_lwPlan_b_ob r64V r64P a0 a1) [] [(0, .agg false [.i a0.Kind, .i a0.Num, .lst .plan a0.Kids]), (1, .agg false [.i a1.Kind, .i a1.Num, .lst .plan a1.Kids])] rv64 nE nE nE nE
theorem laws_lwPlan_b_ok {r64V : V64} {r64P : Q64} (G : Good Try.prog tt (sp_laws_lwPlan r64V r64P)) {fr : Fr} : ∀ a0 a1, Ok64 fr (laws_lwPlan_b_S r64V r64P a0 a1) :=
  fun a0 a1 => run_ok G [([0,1,1], fun e => ⟨laws_lwPlan_c1_S r64V r64P (gI e 2 0) (gI e 2 1) (gL .plan e 2 2) (gI e 3 0) (gI e 3 1) (gL .plan e 3 2)⟩)] ⟨fun _ => ⟨rfl, laws_lwPlan_c1_ok G _ _ _ _ _ _⟩, trivial⟩ [(0,[2,3]),(1,[2,3,26]),(2,[4]),(8,[4])] [] [] (laws_lwPlan_b_t r64V r64P a0 a1) rfl rfl (by kernel_rfl)
theorem con_laws_lwPlan {r64V : V64} {r64P : Q64} (G : Good Try.prog tt (sp_laws_lwPlan r64V r64P)) : Con Try.prog 64 (rs_laws_lwPlan (fun a0 a1 => ocR (laws_lwPlan_b r64V r64P a0 a1)) (fun a0 a1 => laws_lwPlan_b_ob r64V r64P a0 a1)) :=
  con_run (pts := [(.st .plan), (.st .plan)]) (rt := .one .fr .bool) (o := fun x => laws_lwPlan_b r64V r64P x.1 x.2.1) (ob := fun x => laws_lwPlan_b_ob r64V r64P x.1 x.2.1) G (fn := Try.f64) (c := bodyOf Try.f64) (by kernel_rfl) (by kernel_rfl) (by kernel_rfl) (rs := [.tmp 4]) (fz := F64.fz) (by kernel_rfl) (by kernel_rfl) (fun _ => rfl) rfl (fun x => laws_lwPlan_b_S r64V r64P x.1 x.2.1) (fun _ => ⟨rfl, rfl, rfl, rfl, rfl⟩) (fun x _ => laws_lwPlan_b_ok G x.1 x.2.1)

def vp_laws_lwPlan : Nat → V64 × Q64
  | 0 => (fun _ _ => default, fun _ _ => False)
  | n + 1 => (fun a0 a1 => ocR (laws_lwPlan_b (vp_laws_lwPlan n).1 (vp_laws_lwPlan n).2 a0 a1), fun a0 a1 => laws_lwPlan_b_ob (vp_laws_lwPlan n).1 (vp_laws_lwPlan n).2 a0 a1)
def v_laws_lwPlan : V64 := (vp_laws_lwPlan fuelN).1
def p_laws_lwPlan : Q64 := (vp_laws_lwPlan fuelN).2
def s_laws_lwPlan : Spec := rs_laws_lwPlan v_laws_lwPlan p_laws_lwPlan

def sp_laws_lwRows : SP := []
abbrev F54 : Fnn := ⟨[.tmp 4], .one .fr .bool, none, []⟩
abbrev rv54 : Bool → RV := fun q => (some (RT.av (.one .fr .bool) q), .dead)
abbrev Ok54 (fr : Fr) {A X Y Z : Type} (S : SubP Bool A X Y Z) : Prop := SubOk Try.prog tt ⟨Try.f54.ntmps, none, []⟩ fr (bodyOf Try.f54) F54 S
def laws_lwRows_c2_r_t (x4 x5 : LR) (s9 : Int) : Tr Bool Int Unit Empty Empty :=
  .c (cmp .lss s9 (lenI .row x4))
  (.w [inb s9 (lenI .row x4), inb s9 (lenI .row x5)] (.c (!(cmp .eql (rd .row x4 s9).Key (rd .row x5 s9).Key && (cmp .eql (rd .row x4 s9).Val (rd .row x5 s9).Val && (cmp .eql (rd .row x4 s9).At.A (rd .row x5 s9).At.A && (cmp .eql (rd .row x4 s9).At.B (rd .row x5 s9).At.B && (cmp .eql (rd .row x4 s9).Diff (rd .row x5 s9).Diff && true))))))
  (.l (.r false))
  (.l (.n (ar .add .i64 s9 1)))))
  (.l (.x ()))
def laws_lwRows_c2_r := fun x4 x5 s9 => (laws_lwRows_c2_r_t x4 x5 s9).val
def laws_lwRows_c2_r_ob := fun x4 x5 s9 => (laws_lwRows_c2_r_t x4 x5 s9).ob
def laws_lwRows_c2_r_S := fun x4 x5 s9 => mkRd (laws_lwRows_c2_r x4 x5 s9) (laws_lwRows_c2_r_ob x4 x5 s9) [0,0,1,0,1,1] (fun q => [(0, .S .row x4), (1, .S .row x5), (5, .I q)]) s9 rv54 (fun _ => (0, [])) nE nE
theorem laws_lwRows_c2_r_ok (G : Good Try.prog tt sp_laws_lwRows) {fr : Fr} : ∀ x4 x5 s9, Ok54 fr (laws_lwRows_c2_r_S x4 x5 s9) :=
  fun x4 x5 s9 => run_ok G [] trivial [(4,[0,1,5,14]),(5,[0,1,5]),(6,[0,1,5,25]),(7,[4])] [] [] (laws_lwRows_c2_r_t x4 x5 s9) rfl rfl (by kernel_rfl)
def laws_lwRows_c2 := fun x4 x5 => lpV (fun s : Int => ocLp (laws_lwRows_c2_r x4 x5 s)) 0
def laws_lwRows_c2_ob := fun x4 x5 => LpT (fun s : Int => ocLp (laws_lwRows_c2_r x4 x5 s)) (fun s => laws_lwRows_c2_r_ob x4 x5 s) 0
def laws_lwRows_c2_S := fun x4 x5 => lpS (laws_lwRows_c2_r_S x4 x5 0) (laws_lwRows_c2 x4 x5) (laws_lwRows_c2_ob x4 x5)
theorem laws_lwRows_c2_ok (G : Good Try.prog tt sp_laws_lwRows) {fr : Fr} : ∀ x4 x5, Ok54 fr (laws_lwRows_c2_S x4 x5) :=
  fun x4 x5 => loop_ok (fun s : Int => laws_lwRows_c2_r_S x4 x5 s) 0 (fun _ => rfl) (fun _ => ⟨rfl, rfl, rfl, rfl, rfl⟩) (by kernel_rfl) fun _ => laws_lwRows_c2_r_ok G _ _ _
def laws_lwRows_c1_t (x2 x3 : LR) : Tr Bool Unit Empty Empty Empty :=
  .s (laws_lwRows_c2_S x2 x3) nE (fun _ => .l (.n ())) nE nE
def laws_lwRows_c1 := fun x2 x3 => (laws_lwRows_c1_t x2 x3).val
def laws_lwRows_c1_ob := fun x2 x3 => (laws_lwRows_c1_t x2 x3).ob
def laws_lwRows_c1_S := fun x2 x3 => SubP.mk (laws_lwRows_c1 x2 x3) (laws_lwRows_c1_ob x2 x3) [0,1,1] [(0, .S .row x2), (1, .S .row x3)] rv54 (fun _ => []) nE nE nE
theorem laws_lwRows_c1_ok (G : Good Try.prog tt sp_laws_lwRows) {fr : Fr} : ∀ x2 x3, Ok54 fr (laws_lwRows_c1_S x2 x3) :=
  fun x2 x3 => run_ok G [([0,1,0,1,1], fun e => ⟨laws_lwRows_c2_S (gL .row e 0 0) (gL .row e 1 0)⟩)] ⟨fun _ => ⟨rfl, laws_lwRows_c2_ok G _ _⟩, trivial⟩ [(3,[0,1,5])] [] [] (laws_lwRows_c1_t x2 x3) rfl rfl (by kernel_rfl)
def laws_lwRows_b_t (a0 a1 : LR) : Tr Bool Empty Empty Empty Empty :=
  .c (cmp .neq (lenI .row a0) (lenI .row a1))
  (.l (.r false))
  (.s (laws_lwRows_c1_S a0 a1) (fun _ => .l (.r true)) nE nE nE)
def laws_lwRows_b := fun a0 a1 => (laws_lwRows_b_t a0 a1).val
def laws_lwRows_b_ob := fun a0 a1 => (laws_lwRows_b_t a0 a1).ob
def laws_lwRows_b_S := fun a0 a1 => SubP.mk (laws_lwRows_b a0 a1) (laws_lwRows_b_ob a0 a1) [] [(0, .S .row a0), (1, .S .row a1)] rv54 nE nE nE nE
theorem laws_lwRows_b_ok (G : Good Try.prog tt sp_laws_lwRows) {fr : Fr} : ∀ a0 a1, Ok54 fr (laws_lwRows_b_S a0 a1) :=
  fun a0 a1 => run_ok G [([0,1,1], fun e => ⟨laws_lwRows_c1_S (gL .row e 0 0) (gL .row e 1 0)⟩)] ⟨fun _ => ⟨rfl, laws_lwRows_c1_ok G _ _⟩, trivial⟩ [(0,[0,1]),(1,[0,1,10]),(2,[4]),(8,[4])] [] [] (laws_lwRows_b_t a0 a1) rfl rfl (by kernel_rfl)
def v_laws_lwRows (a0 : LR) (a1 : LR) : Bool := ocR (laws_lwRows_b a0 a1)
def p_laws_lwRows (a0 : LR) (a1 : LR) : Prop := laws_lwRows_b_ob a0 a1
def s_laws_lwRows : Spec := ⟨[(.lst .row), (.lst .row)], .one .fr .bool, false, fun x => (v_laws_lwRows x.1 x.2.1, 0), fun x => p_laws_lwRows x.1 x.2.1⟩
theorem con_laws_lwRows (G : Good Try.prog tt sp_laws_lwRows) : Con Try.prog 54 s_laws_lwRows :=
  con_run (pts := [(.lst .row), (.lst .row)]) (rt := .one .fr .bool) (o := fun x => laws_lwRows_b x.1 x.2.1) (ob := fun x => laws_lwRows_b_ob x.1 x.2.1) G (fn := Try.f54) (c := bodyOf Try.f54) (by kernel_rfl) (by kernel_rfl) (by kernel_rfl) (rs := [.tmp 4]) (fz := F54.fz) (by kernel_rfl) (by kernel_rfl) (fun _ => rfl) rfl (fun x => laws_lwRows_b_S x.1 x.2.1) (fun _ => ⟨rfl, rfl, rfl, rfl, rfl⟩) (fun x _ => laws_lwRows_b_ok G x.1 x.2.1)

def sp_laws_lwBatches : SP := [(54, s_laws_lwRows)]
abbrev F113 : Fnn := ⟨[.tmp 4], .one .fr .bool, none, []⟩
abbrev rv113 : Bool → RV := fun q => (some (RT.av (.one .fr .bool) q), .dead)
abbrev Ok113 (fr : Fr) {A X Y Z : Type} (S : SubP Bool A X Y Z) : Prop := SubOk Try.prog tt ⟨Try.f113.ntmps, none, []⟩ fr (bodyOf Try.f113) F113 S
def laws_lwBatches_c2_r_t (x4 x5 : List LR) (s9 : Int) : Tr Bool Int Unit Empty Empty :=
  .c (cmp .lss s9 (lenI .lrow x4))
  (.w [inb s9 (lenI .lrow x4), inb s9 (lenI .lrow x5), (p_laws_lwRows (rd .lrow x4 s9) (rd .lrow x5 s9))] (.c (!(v_laws_lwRows (rd .lrow x4 s9) (rd .lrow x5 s9)))
  (.l (.r false))
  (.l (.n (ar .add .i64 s9 1)))))
  (.l (.x ()))
def laws_lwBatches_c2_r := fun x4 x5 s9 => (laws_lwBatches_c2_r_t x4 x5 s9).val
def laws_lwBatches_c2_r_ob := fun x4 x5 s9 => (laws_lwBatches_c2_r_t x4 x5 s9).ob
def laws_lwBatches_c2_r_S := fun x4 x5 s9 => mkRd (laws_lwBatches_c2_r x4 x5 s9) (laws_lwBatches_c2_r_ob x4 x5 s9) [0,0,1,0,1,1] (fun q => [(0, .S .lrow x4), (1, .S .lrow x5), (5, .I q)]) s9 rv113 (fun _ => (0, [])) nE nE
theorem laws_lwBatches_c2_r_ok (G : Good Try.prog tt sp_laws_lwBatches) {fr : Fr} : ∀ x4 x5 s9, Ok113 fr (laws_lwBatches_c2_r_S x4 x5 s9) :=
  fun x4 x5 s9 => run_ok G [] trivial [(4,[0,1,5,14]),(5,[0,1,5]),(6,[0,1,5,26]),(7,[4])] [] [] (laws_lwBatches_c2_r_t x4 x5 s9) rfl rfl (by kernel_rfl)
def laws_lwBatches_c2 := fun x4 x5 => lpV (fun s : Int => ocLp (laws_lwBatches_c2_r x4 x5 s)) 0
def laws_lwBatches_c2_ob := fun x4 x5 => LpT (fun s : Int => ocLp (laws_lwBatches_c2_r x4 x5 s)) (fun s => laws_lwBatches_c2_r_ob x4 x5 s) 0
def laws_lwBatches_c2_S := fun x4 x5 => lpS (laws_lwBatches_c2_r_S x4 x5 0) (laws_lwBatches_c2 x4 x5) (laws_lwBatches_c2_ob x4 x5)
theorem laws_lwBatches_c2_ok (G : Good Try.prog tt sp_laws_lwBatches) {fr : Fr} : ∀ x4 x5, Ok113 fr (laws_lwBatches_c2_S x4 x5) :=
  fun x4 x5 => loop_ok (fun s : Int => laws_lwBatches_c2_r_S x4 x5 s) 0 (fun _ => rfl) (fun _ => ⟨rfl, rfl, rfl, rfl, rfl⟩) (by kernel_rfl) fun _ => laws_lwBatches_c2_r_ok G _ _ _
def laws_lwBatches_c1_t (x2 x3 : List LR) : Tr Bool Unit Empty Empty Empty :=
  .s (laws_lwBatches_c2_S x2 x3) nE (fun _ => .l (.n ())) nE nE
def laws_lwBatches_c1 := fun x2 x3 => (laws_lwBatches_c1_t x2 x3).val
def laws_lwBatches_c1_ob := fun x2 x3 => (laws_lwBatches_c1_t x2 x3).ob
def laws_lwBatches_c1_S := fun x2 x3 => SubP.mk (laws_lwBatches_c1 x2 x3) (laws_lwBatches_c1_ob x2 x3) [0,1,1] [(0, .S .lrow x2), (1, .S .lrow x3)] rv113 (fun _ => []) nE nE nE
theorem laws_lwBatches_c1_ok (G : Good Try.prog tt sp_laws_lwBatches) {fr : Fr} : ∀ x2 x3, Ok113 fr (laws_lwBatches_c1_S x2 x3) :=
  fun x2 x3 => run_ok G [([0,1,0,1,1], fun e => ⟨laws_lwBatches_c2_S (gL .lrow e 0 0) (gL .lrow e 1 0)⟩)] ⟨fun _ => ⟨rfl, laws_lwBatches_c2_ok G _ _⟩, trivial⟩ [(3,[0,1,5])] [] [] (laws_lwBatches_c1_t x2 x3) rfl rfl (by kernel_rfl)
def laws_lwBatches_b_t (a0 a1 : List LR) : Tr Bool Empty Empty Empty Empty :=
  .c (cmp .neq (lenI .lrow a0) (lenI .lrow a1))
  (.l (.r false))
  (.s (laws_lwBatches_c1_S a0 a1) (fun _ => .l (.r true)) nE nE nE)
def laws_lwBatches_b := fun a0 a1 => (laws_lwBatches_b_t a0 a1).val
def laws_lwBatches_b_ob := fun a0 a1 => (laws_lwBatches_b_t a0 a1).ob
def laws_lwBatches_b_S := fun a0 a1 => SubP.mk (laws_lwBatches_b a0 a1) (laws_lwBatches_b_ob a0 a1) [] [(0, .S .lrow a0), (1, .S .lrow a1)] rv113 nE nE nE nE
theorem laws_lwBatches_b_ok (G : Good Try.prog tt sp_laws_lwBatches) {fr : Fr} : ∀ a0 a1, Ok113 fr (laws_lwBatches_b_S a0 a1) :=
  fun a0 a1 => run_ok G [([0,1,1], fun e => ⟨laws_lwBatches_c1_S (gL .lrow e 0 0) (gL .lrow e 1 0)⟩)] ⟨fun _ => ⟨rfl, laws_lwBatches_c1_ok G _ _⟩, trivial⟩ [(0,[0,1]),(1,[0,1,10]),(2,[4]),(8,[4])] [] [] (laws_lwBatches_b_t a0 a1) rfl rfl (by kernel_rfl)
def v_laws_lwBatches (a0 : List LR) (a1 : List LR) : Bool := ocR (laws_lwBatches_b a0 a1)
def p_laws_lwBatches (a0 : List LR) (a1 : List LR) : Prop := laws_lwBatches_b_ob a0 a1
def s_laws_lwBatches : Spec := ⟨[(.lst .lrow), (.lst .lrow)], .one .fr .bool, false, fun x => (v_laws_lwBatches x.1 x.2.1, 0), fun x => p_laws_lwBatches x.1 x.2.1⟩
theorem con_laws_lwBatches (G : Good Try.prog tt sp_laws_lwBatches) : Con Try.prog 113 s_laws_lwBatches :=
  con_run (pts := [(.lst .lrow), (.lst .lrow)]) (rt := .one .fr .bool) (o := fun x => laws_lwBatches_b x.1 x.2.1) (ob := fun x => laws_lwBatches_b_ob x.1 x.2.1) G (fn := Try.f113) (c := bodyOf Try.f113) (by kernel_rfl) (by kernel_rfl) (by kernel_rfl) (rs := [.tmp 4]) (fz := F113.fz) (by kernel_rfl) (by kernel_rfl) (fun _ => rfl) rfl (fun x => laws_lwBatches_b_S x.1 x.2.1) (fun _ => ⟨rfl, rfl, rfl, rfl, rfl⟩) (fun x _ => laws_lwBatches_b_ok G x.1 x.2.1)

def sp_laws_lwTimes : SP := []
abbrev F114 : Fnn := ⟨[.tmp 4], .one .fr .bool, none, []⟩
abbrev rv114 : Bool → RV := fun q => (some (RT.av (.one .fr .bool) q), .dead)
abbrev Ok114 (fr : Fr) {A X Y Z : Type} (S : SubP Bool A X Y Z) : Prop := SubOk Try.prog tt ⟨Try.f114.ntmps, none, []⟩ fr (bodyOf Try.f114) F114 S
def laws_lwTimes_c2_r_t (x4 x5 : List Time) (s9 : Int) : Tr Bool Int Unit Empty Empty :=
  .c (cmp .lss s9 (lenI .time x4))
  (.w [inb s9 (lenI .time x4), inb s9 (lenI .time x5)] (.c (!(cmp .eql (rd .time x4 s9).A (rd .time x5 s9).A && (cmp .eql (rd .time x4 s9).B (rd .time x5 s9).B && true)))
  (.l (.r false))
  (.l (.n (ar .add .i64 s9 1)))))
  (.l (.x ()))
def laws_lwTimes_c2_r := fun x4 x5 s9 => (laws_lwTimes_c2_r_t x4 x5 s9).val
def laws_lwTimes_c2_r_ob := fun x4 x5 s9 => (laws_lwTimes_c2_r_t x4 x5 s9).ob
def laws_lwTimes_c2_r_S := fun x4 x5 s9 => mkRd (laws_lwTimes_c2_r x4 x5 s9) (laws_lwTimes_c2_r_ob x4 x5 s9) [0,0,1,0,1,1] (fun q => [(0, .S .time x4), (1, .S .time x5), (5, .I q)]) s9 rv114 (fun _ => (0, [])) nE nE
theorem laws_lwTimes_c2_r_ok (G : Good Try.prog tt sp_laws_lwTimes) {fr : Fr} : ∀ x4 x5 s9, Ok114 fr (laws_lwTimes_c2_r_S x4 x5 s9) :=
  fun x4 x5 s9 => run_ok G [] trivial [(4,[0,1,5,14]),(5,[0,1,5]),(6,[0,1,5,25]),(7,[4])] [] [] (laws_lwTimes_c2_r_t x4 x5 s9) rfl rfl (by kernel_rfl)
def laws_lwTimes_c2 := fun x4 x5 => lpV (fun s : Int => ocLp (laws_lwTimes_c2_r x4 x5 s)) 0
def laws_lwTimes_c2_ob := fun x4 x5 => LpT (fun s : Int => ocLp (laws_lwTimes_c2_r x4 x5 s)) (fun s => laws_lwTimes_c2_r_ob x4 x5 s) 0
def laws_lwTimes_c2_S := fun x4 x5 => lpS (laws_lwTimes_c2_r_S x4 x5 0) (laws_lwTimes_c2 x4 x5) (laws_lwTimes_c2_ob x4 x5)
theorem laws_lwTimes_c2_ok (G : Good Try.prog tt sp_laws_lwTimes) {fr : Fr} : ∀ x4 x5, Ok114 fr (laws_lwTimes_c2_S x4 x5) :=
  fun x4 x5 => loop_ok (fun s : Int => laws_lwTimes_c2_r_S x4 x5 s) 0 (fun _ => rfl) (fun _ => ⟨rfl, rfl, rfl, rfl, rfl⟩) (by kernel_rfl) fun _ => laws_lwTimes_c2_r_ok G _ _ _
def laws_lwTimes_c1_t (x2 x3 : List Time) : Tr Bool Unit Empty Empty Empty :=
  .s (laws_lwTimes_c2_S x2 x3) nE (fun _ => .l (.n ())) nE nE
def laws_lwTimes_c1 := fun x2 x3 => (laws_lwTimes_c1_t x2 x3).val
def laws_lwTimes_c1_ob := fun x2 x3 => (laws_lwTimes_c1_t x2 x3).ob
def laws_lwTimes_c1_S := fun x2 x3 => SubP.mk (laws_lwTimes_c1 x2 x3) (laws_lwTimes_c1_ob x2 x3) [0,1,1] [(0, .S .time x2), (1, .S .time x3)] rv114 (fun _ => []) nE nE nE
theorem laws_lwTimes_c1_ok (G : Good Try.prog tt sp_laws_lwTimes) {fr : Fr} : ∀ x2 x3, Ok114 fr (laws_lwTimes_c1_S x2 x3) :=
  fun x2 x3 => run_ok G [([0,1,0,1,1], fun e => ⟨laws_lwTimes_c2_S (gL .time e 0 0) (gL .time e 1 0)⟩)] ⟨fun _ => ⟨rfl, laws_lwTimes_c2_ok G _ _⟩, trivial⟩ [(3,[0,1,5])] [] [] (laws_lwTimes_c1_t x2 x3) rfl rfl (by kernel_rfl)
def laws_lwTimes_b_t (a0 a1 : List Time) : Tr Bool Empty Empty Empty Empty :=
  .c (cmp .neq (lenI .time a0) (lenI .time a1))
  (.l (.r false))
  (.s (laws_lwTimes_c1_S a0 a1) (fun _ => .l (.r true)) nE nE nE)
def laws_lwTimes_b := fun a0 a1 => (laws_lwTimes_b_t a0 a1).val
def laws_lwTimes_b_ob := fun a0 a1 => (laws_lwTimes_b_t a0 a1).ob
def laws_lwTimes_b_S := fun a0 a1 => SubP.mk (laws_lwTimes_b a0 a1) (laws_lwTimes_b_ob a0 a1) [] [(0, .S .time a0), (1, .S .time a1)] rv114 nE nE nE nE
theorem laws_lwTimes_b_ok (G : Good Try.prog tt sp_laws_lwTimes) {fr : Fr} : ∀ a0 a1, Ok114 fr (laws_lwTimes_b_S a0 a1) :=
  fun a0 a1 => run_ok G [([0,1,1], fun e => ⟨laws_lwTimes_c1_S (gL .time e 0 0) (gL .time e 1 0)⟩)] ⟨fun _ => ⟨rfl, laws_lwTimes_c1_ok G _ _⟩, trivial⟩ [(0,[0,1]),(1,[0,1,10]),(2,[4]),(8,[4])] [] [] (laws_lwTimes_b_t a0 a1) rfl rfl (by kernel_rfl)
def v_laws_lwTimes (a0 : List Time) (a1 : List Time) : Bool := ocR (laws_lwTimes_b a0 a1)
def p_laws_lwTimes (a0 : List Time) (a1 : List Time) : Prop := laws_lwTimes_b_ob a0 a1
def s_laws_lwTimes : Spec := ⟨[(.lst .time), (.lst .time)], .one .fr .bool, false, fun x => (v_laws_lwTimes x.1 x.2.1, 0), fun x => p_laws_lwTimes x.1 x.2.1⟩
theorem con_laws_lwTimes (G : Good Try.prog tt sp_laws_lwTimes) : Con Try.prog 114 s_laws_lwTimes :=
  con_run (pts := [(.lst .time), (.lst .time)]) (rt := .one .fr .bool) (o := fun x => laws_lwTimes_b x.1 x.2.1) (ob := fun x => laws_lwTimes_b_ob x.1 x.2.1) G (fn := Try.f114) (c := bodyOf Try.f114) (by kernel_rfl) (by kernel_rfl) (by kernel_rfl) (rs := [.tmp 4]) (fz := F114.fz) (by kernel_rfl) (by kernel_rfl) (fun _ => rfl) rfl (fun x => laws_lwTimes_b_S x.1 x.2.1) (fun _ => ⟨rfl, rfl, rfl, rfl, rfl⟩) (fun x _ => laws_lwTimes_b_ok G x.1 x.2.1)

def sp_laws_lwSess : SP := [(64, s_laws_lwPlan), (113, s_laws_lwBatches), (114, s_laws_lwTimes), (54, s_laws_lwRows)]
abbrev F60 : Fnn := ⟨[.tmp 4], .one .fr .bool, none, []⟩
abbrev rv60 : Bool → RV := fun q => (some (RT.av (.one .fr .bool) q), .dead)
abbrev Ok60 (fr : Fr) {A X Y Z : Type} (S : SubP Bool A X Y Z) : Prop := SubOk Try.prog tt ⟨Try.f60.ntmps, none, []⟩ fr (bodyOf Try.f60) F60 S
def laws_lwSess_b_t (a0 a1 : Sess) : Tr Bool Empty Empty Empty Empty :=
  .w [(p_laws_lwPlan (Plan.mk a0.Plan.Kind a0.Plan.Num a0.Plan.Kids) (Plan.mk a1.Plan.Kind a1.Plan.Num a1.Plan.Kids)), (((v_laws_lwPlan (Plan.mk a0.Plan.Kind a0.Plan.Num a0.Plan.Kids) (Plan.mk a1.Plan.Kind a1.Plan.Num a1.Plan.Kids)) && true) = true → (p_laws_lwBatches a0.Ins a1.Ins)), (((cond (v_laws_lwPlan (Plan.mk a0.Plan.Kind a0.Plan.Num a0.Plan.Kids) (Plan.mk a1.Plan.Kind a1.Plan.Num a1.Plan.Kids)) (v_laws_lwBatches a0.Ins a1.Ins) false) && true) = true → (p_laws_lwTimes a0.Front a1.Front)), (((cond (cond (v_laws_lwPlan (Plan.mk a0.Plan.Kind a0.Plan.Num a0.Plan.Kids) (Plan.mk a1.Plan.Kind a1.Plan.Num a1.Plan.Kids)) (v_laws_lwBatches a0.Ins a1.Ins) false) (v_laws_lwTimes a0.Front a1.Front) false) && true) = true → (p_laws_lwRows a0.Told a1.Told))] (.l (.r (cond (cond (cond (v_laws_lwPlan (Plan.mk a0.Plan.Kind a0.Plan.Num a0.Plan.Kids) (Plan.mk a1.Plan.Kind a1.Plan.Num a1.Plan.Kids)) (v_laws_lwBatches a0.Ins a1.Ins) false) (v_laws_lwTimes a0.Front a1.Front) false) (v_laws_lwRows a0.Told a1.Told) false)))
def laws_lwSess_b := fun a0 a1 => (laws_lwSess_b_t a0 a1).val
def laws_lwSess_b_ob := fun a0 a1 => (laws_lwSess_b_t a0 a1).ob
def laws_lwSess_b_S := fun a0 a1 => SubP.mk (laws_lwSess_b a0 a1) (laws_lwSess_b_ob a0 a1) [] [(0, .agg false [.i a0.Plan.Kind, .i a0.Plan.Num, .lst .plan a0.Plan.Kids, .lst .lrow a0.Ins, .lst .time a0.Front, .lst .row a0.Told]), (1, .agg false [.i a1.Plan.Kind, .i a1.Plan.Num, .lst .plan a1.Plan.Kids, .lst .lrow a1.Ins, .lst .time a1.Front, .lst .row a1.Told])] rv60 nE nE nE nE
theorem laws_lwSess_b_ok (G : Good Try.prog tt sp_laws_lwSess) {fr : Fr} : ∀ a0 a1, Ok60 fr (laws_lwSess_b_S a0 a1) :=
  fun a0 a1 => run_ok G [] trivial [(0,[2,3]),(1,[4])] [] [] (laws_lwSess_b_t a0 a1) rfl rfl (by kernel_rfl)
def v_laws_lwSess (a0 : Sess) (a1 : Sess) : Bool := ocR (laws_lwSess_b a0 a1)
def p_laws_lwSess (a0 : Sess) (a1 : Sess) : Prop := laws_lwSess_b_ob a0 a1
def s_laws_lwSess : Spec := ⟨[(.st .sess), (.st .sess)], .one .fr .bool, false, fun x => (v_laws_lwSess x.1 x.2.1, 0), fun x => p_laws_lwSess x.1 x.2.1⟩
theorem con_laws_lwSess (G : Good Try.prog tt sp_laws_lwSess) : Con Try.prog 60 s_laws_lwSess :=
  con_run (pts := [(.st .sess), (.st .sess)]) (rt := .one .fr .bool) (o := fun x => laws_lwSess_b x.1 x.2.1) (ob := fun x => laws_lwSess_b_ob x.1 x.2.1) G (fn := Try.f60) (c := bodyOf Try.f60) (by kernel_rfl) (by kernel_rfl) (by kernel_rfl) (rs := [.tmp 4]) (fz := F60.fz) (by kernel_rfl) (by kernel_rfl) (fun _ => rfl) rfl (fun x => laws_lwSess_b_S x.1 x.2.1) (fun _ => ⟨rfl, rfl, rfl, rfl, rfl⟩) (fun x _ => laws_lwSess_b_ok G x.1 x.2.1)

def sp_laws_lwAll : SP := []
abbrev F61 : Fnn := ⟨[.tmp 0], .one (.acc true) (.lst .time), none, []⟩
abbrev rv61 : List Time → RV := fun q => (some (RT.av (.one (.acc true) (.lst .time)) q), .dead)
abbrev Ok61 (fr : Fr) {A X Y Z : Type} (S : SubP (List Time) A X Y Z) : Prop := SubOk Try.prog tt ⟨Try.f61.ntmps, none, []⟩ fr (bodyOf Try.f61) F61 S
def laws_lwAll_c4_r_t (_x29 : List Time) (x30 : Int) (s34 : List Time) (s35 : Int) : Tr (List Time) ((List Time) × Int) ((List Time)) Empty Empty :=
  .c (cmp .leq s35 7)
  (.w [lim (lenI .time s34) (lenI .time [(Time.mk x30 s35)])] (.l (.n ((s34 ++ [(Time.mk x30 s35)]), (ar .add .i64 s35 1)))))
  (.l (.x s34))
def laws_lwAll_c4_r := fun x29 x30 s34 s35 => (laws_lwAll_c4_r_t x29 x30 s34 s35).val
def laws_lwAll_c4_r_ob := fun x29 x30 s34 s35 => (laws_lwAll_c4_r_t x29 x30 s34 s35).ob
def laws_lwAll_c4_r_S := fun x29 x30 s34 s35 => mkRd (laws_lwAll_c4_r x29 x30 s34 s35) (laws_lwAll_c4_r_ob x29 x30 s34 s35) [0,0,1,0,0,1,0,0,1,0,1,1] (fun q => [(1, .A .time q.1), (2, .I x30), (3, .I q.2)]) (s34, s35) rv61 (fun q => (2, [(1, .A .time q), (2, .I x30)])) nE nE
theorem laws_lwAll_c4_r_ok (G : Good Try.prog tt sp_laws_lwAll) {fr : Fr} : ∀ x29 x30 s34 s35, Ok61 fr (laws_lwAll_c4_r_S x29 x30 s34 s35) :=
  fun x29 x30 s34 s35 => run_ok G [] trivial [(6,[1,2,3,10]),(7,[1,2,3]),(8,[1,2,3])] [] [] (laws_lwAll_c4_r_t x29 x30 s34 s35) rfl rfl (by kernel_rfl)
def laws_lwAll_c4 := fun x29 x30 => lpV (fun s : (List Time) × Int => ocLp (laws_lwAll_c4_r x29 x30 s.1 s.2)) (x29, 0)
def laws_lwAll_c4_ob := fun x29 x30 => LpT (fun s : (List Time) × Int => ocLp (laws_lwAll_c4_r x29 x30 s.1 s.2)) (fun s => laws_lwAll_c4_r_ob x29 x30 s.1 s.2) (x29, 0)
def laws_lwAll_c4_S := fun x29 x30 => lpS (laws_lwAll_c4_r_S x29 x30 x29 0) (laws_lwAll_c4 x29 x30) (laws_lwAll_c4_ob x29 x30)
theorem laws_lwAll_c4_ok (G : Good Try.prog tt sp_laws_lwAll) {fr : Fr} : ∀ x29 x30, Ok61 fr (laws_lwAll_c4_S x29 x30) :=
  fun x29 x30 => loop_ok (fun s : (List Time) × Int => laws_lwAll_c4_r_S x29 x30 s.1 s.2) (x29, 0) (fun _ => rfl) (fun _ => ⟨rfl, rfl, rfl, rfl, rfl⟩) (by kernel_rfl) fun _ => laws_lwAll_c4_r_ok G _ _ _ _
def laws_lwAll_c3_t (x27 : List Time) (x28 : Int) : Tr (List Time) ((List Time)) Empty Empty Empty :=
  .s (laws_lwAll_c4_S x27 x28) nE (fun q44 => .l (.n q44)) nE nE
def laws_lwAll_c3 := fun x27 x28 => (laws_lwAll_c3_t x27 x28).val
def laws_lwAll_c3_ob := fun x27 x28 => (laws_lwAll_c3_t x27 x28).ob
def laws_lwAll_c3_S := fun x27 x28 => SubP.mk (laws_lwAll_c3 x27 x28) (laws_lwAll_c3_ob x27 x28) [0,1,0,0,1,0,1,1] [(1, .A .time x27), (2, .I x28)] rv61 (fun q => [(1, .A .time q), (2, .I x28)]) nE nE nE
theorem laws_lwAll_c3_ok (G : Good Try.prog tt sp_laws_lwAll) {fr : Fr} : ∀ x27 x28, Ok61 fr (laws_lwAll_c3_S x27 x28) :=
  fun x27 x28 => run_ok G [([0,1,0,0,1,0,0,1,0,1,1], fun e => ⟨laws_lwAll_c4_S (gL .time e 1 0) (gI e 2 0)⟩)] ⟨fun _ => ⟨rfl, laws_lwAll_c4_ok G _ _⟩, trivial⟩ [(5,[1,2,3])] [] [] (laws_lwAll_c3_t x27 x28) rfl rfl (by kernel_rfl)
def laws_lwAll_c2_r_t (s24 : List Time) (s25 : Int) : Tr (List Time) ((List Time) × Int) ((List Time)) Empty Empty :=
  .c (cmp .leq s25 7)
  (.s (laws_lwAll_c3_S s24 s25) (fun q47 => .l (.n (q47, (ar .add .i64 s25 1)))) nE nE nE)
  (.l (.x s24))
def laws_lwAll_c2_r := fun s24 s25 => (laws_lwAll_c2_r_t s24 s25).val
def laws_lwAll_c2_r_ob := fun s24 s25 => (laws_lwAll_c2_r_t s24 s25).ob
def laws_lwAll_c2_r_S := fun s24 s25 => mkRd (laws_lwAll_c2_r s24 s25) (laws_lwAll_c2_r_ob s24 s25) [0,0,1,0,1,1] (fun q => [(1, .A .time q.1), (2, .I q.2)]) (s24, s25) rv61 (fun q => (0, [(1, .A .time q)])) nE nE
theorem laws_lwAll_c2_r_ok (G : Good Try.prog tt sp_laws_lwAll) {fr : Fr} : ∀ s24 s25, Ok61 fr (laws_lwAll_c2_r_S s24 s25) :=
  fun s24 s25 => run_ok G [([0,1,0,0,1,0,1,1], fun e => ⟨laws_lwAll_c3_S (gL .time e 1 0) (gI e 2 0)⟩)] ⟨fun _ => ⟨rfl, laws_lwAll_c3_ok G _ _⟩, trivial⟩ [(3,[1,2,6]),(4,[1,2])] [] [] (laws_lwAll_c2_r_t s24 s25) rfl rfl (by kernel_rfl)
def laws_lwAll_c2 := lpV (fun s : (List Time) × Int => ocLp (laws_lwAll_c2_r s.1 s.2)) ([], 0)
def laws_lwAll_c2_ob := LpT (fun s : (List Time) × Int => ocLp (laws_lwAll_c2_r s.1 s.2)) (fun s => laws_lwAll_c2_r_ob s.1 s.2) ([], 0)
def laws_lwAll_c2_S := lpS (laws_lwAll_c2_r_S [] 0) (laws_lwAll_c2) (laws_lwAll_c2_ob)
theorem laws_lwAll_c2_ok (G : Good Try.prog tt sp_laws_lwAll) {fr : Fr} : Ok61 fr (laws_lwAll_c2_S) :=
  loop_ok (fun s : (List Time) × Int => laws_lwAll_c2_r_S s.1 s.2) ([], 0) (fun _ => rfl) (fun _ => ⟨rfl, rfl, rfl, rfl, rfl⟩) (by kernel_rfl) fun _ => laws_lwAll_c2_r_ok G _ _
def laws_lwAll_c1_t : Tr (List Time) ((List Time)) Empty Empty Empty :=
  .s laws_lwAll_c2_S nE (fun q58 => .l (.n q58)) nE nE
def laws_lwAll_c1 := (laws_lwAll_c1_t).val
def laws_lwAll_c1_ob := (laws_lwAll_c1_t).ob
def laws_lwAll_c1_S := SubP.mk (laws_lwAll_c1) (laws_lwAll_c1_ob) [0,1,1] [(1, .A .time [])] rv61 (fun q => [(1, .A .time q)]) nE nE nE
theorem laws_lwAll_c1_ok (G : Good Try.prog tt sp_laws_lwAll) {fr : Fr} : Ok61 fr (laws_lwAll_c1_S) :=
  run_ok G [([0,1,0,1,1], fun e => ⟨laws_lwAll_c2_S⟩)] ⟨fun _ => ⟨rfl, laws_lwAll_c2_ok G⟩, trivial⟩ [(2,[1,2])] [] [] (laws_lwAll_c1_t) rfl rfl (by kernel_rfl)
def laws_lwAll_b_t : Tr (List Time) Empty Empty Empty Empty :=
  .s laws_lwAll_c1_S (fun q61 => .l (.r q61)) nE nE nE
def laws_lwAll_b := (laws_lwAll_b_t).val
def laws_lwAll_b_ob := (laws_lwAll_b_t).ob
def laws_lwAll_b_S := SubP.mk (laws_lwAll_b) (laws_lwAll_b_ob) [] [] rv61 nE nE nE nE
theorem laws_lwAll_b_ok (G : Good Try.prog tt sp_laws_lwAll) {fr : Fr} : Ok61 fr (laws_lwAll_b_S) :=
  run_ok G [([0,1,1], fun e => ⟨laws_lwAll_c1_S⟩)] ⟨fun _ => ⟨rfl, laws_lwAll_c1_ok G⟩, trivial⟩ [(0,[]),(1,[1]),(9,[0])] [] [] (laws_lwAll_b_t) rfl rfl (by kernel_rfl)
def v_laws_lwAll  : List Time := ocR (laws_lwAll_b)
def p_laws_lwAll  : Prop := laws_lwAll_b_ob
def s_laws_lwAll : Spec := ⟨[], .one (.acc true) (.lst .time), false, fun _ => (v_laws_lwAll, 0), fun _ => p_laws_lwAll⟩
theorem con_laws_lwAll (G : Good Try.prog tt sp_laws_lwAll) : Con Try.prog 61 s_laws_lwAll :=
  con_run (pts := []) (rt := .one (.acc true) (.lst .time)) (o := fun _ => laws_lwAll_b) (ob := fun _ => laws_lwAll_b_ob) G (fn := Try.f61) (c := bodyOf Try.f61) (by kernel_rfl) (by kernel_rfl) (by kernel_rfl) (rs := [.tmp 0]) (fz := F61.fz) (by kernel_rfl) (by kernel_rfl) (fun _ => rfl) rfl (fun _ => laws_lwAll_b_S) (fun _ => ⟨rfl, rfl, rfl, rfl, rfl⟩) (fun _ _ => laws_lwAll_b_ok G)

def sp_impl_TimeOk : SP := []
abbrev F110 : Fnn := ⟨[.tmp 2], .one .fr .bool, none, []⟩
abbrev rv110 : Bool → RV := fun q => (some (RT.av (.one .fr .bool) q), .dead)
abbrev Ok110 (fr : Fr) {A X Y Z : Type} (S : SubP Bool A X Y Z) : Prop := SubOk Try.prog tt ⟨Try.f110.ntmps, none, []⟩ fr (bodyOf Try.f110) F110 S
def impl_TimeOk_b_t (a0 : Time) : Tr Bool Empty Empty Empty Empty :=
  .l (.r (cond (cond (cond (cmp .geq a0.A 0) (cmp .leq a0.A 7) false) (cmp .geq a0.B 0) false) (cmp .leq a0.B 7) false))
def impl_TimeOk_b := fun a0 => (impl_TimeOk_b_t a0).val
def impl_TimeOk_b_ob := fun a0 => (impl_TimeOk_b_t a0).ob
def impl_TimeOk_b_S := fun a0 => SubP.mk (impl_TimeOk_b a0) (impl_TimeOk_b_ob a0) [] [(0, .agg true [.i a0.A, .i a0.B])] rv110 nE nE nE nE
theorem impl_TimeOk_b_ok (G : Good Try.prog tt sp_impl_TimeOk) {fr : Fr} : ∀ a0, Ok110 fr (impl_TimeOk_b_S a0) :=
  fun a0 => run_ok G [] trivial [(0,[1]),(1,[2])] [] [] (impl_TimeOk_b_t a0) rfl rfl (by kernel_rfl)
def v_impl_TimeOk (a0 : Time) : Bool := ocR (impl_TimeOk_b a0)
def p_impl_TimeOk (a0 : Time) : Prop := impl_TimeOk_b_ob a0
def s_impl_TimeOk : Spec := ⟨[(.st .time)], .one .fr .bool, false, fun x => (v_impl_TimeOk x.1, 0), fun x => p_impl_TimeOk x.1⟩
theorem con_impl_TimeOk (G : Good Try.prog tt sp_impl_TimeOk) : Con Try.prog 110 s_impl_TimeOk :=
  con_run (pts := [(.st .time)]) (rt := .one .fr .bool) (o := fun x => impl_TimeOk_b x.1) (ob := fun x => impl_TimeOk_b_ob x.1) G (fn := Try.f110) (c := bodyOf Try.f110) (by kernel_rfl) (by kernel_rfl) (by kernel_rfl) (rs := [.tmp 2]) (fz := F110.fz) (by kernel_rfl) (by kernel_rfl) (fun _ => rfl) rfl (fun x => impl_TimeOk_b_S x.1) (fun _ => ⟨rfl, rfl, rfl, rfl, rfl⟩) (fun x _ => impl_TimeOk_b_ok G x.1)

def sp_impl_FrontOk : SP := [(110, s_impl_TimeOk)]
abbrev F116 : Fnn := ⟨[.tmp 2], .one .fr .bool, none, []⟩
abbrev rv116 : Bool → RV := fun q => (some (RT.av (.one .fr .bool) q), .dead)
abbrev Ok116 (fr : Fr) {A X Y Z : Type} (S : SubP Bool A X Y Z) : Prop := SubOk Try.prog tt ⟨Try.f116.ntmps, none, []⟩ fr (bodyOf Try.f116) F116 S
def impl_FrontOk_c2_r_t (x2 : List Time) (x3 s7 : Int) : Tr Bool Int Unit Empty Empty :=
  .c (cmp .lss s7 x3)
  (.w [inb s7 (lenI .time x2)] (.w [(p_impl_TimeOk (rd .time x2 s7)), (((cmp .gtr s7 0) && ((!(!(v_impl_TimeOk (rd .time x2 s7)))) && true)) = true → inb (ar .sub .i64 s7 1) (lenI .time x2)), (((!(cmp .geq (rd .time x2 (ar .sub .i64 s7 1)).A (rd .time x2 s7).A)) && ((cmp .gtr s7 0) && ((!(!(v_impl_TimeOk (rd .time x2 s7)))) && true))) = true → inb (ar .sub .i64 s7 1) (lenI .time x2))] (.c (cond (!(v_impl_TimeOk (rd .time x2 s7))) true (cond (cmp .gtr s7 0) (cond (cmp .geq (rd .time x2 (ar .sub .i64 s7 1)).A (rd .time x2 s7).A) true (cmp .leq (rd .time x2 (ar .sub .i64 s7 1)).B (rd .time x2 s7).B)) false))
  (.l (.r false))
  (.l (.n (ar .add .i64 s7 1))))))
  (.l (.x ()))
def impl_FrontOk_c2_r := fun x2 x3 s7 => (impl_FrontOk_c2_r_t x2 x3 s7).val
def impl_FrontOk_c2_r_ob := fun x2 x3 s7 => (impl_FrontOk_c2_r_t x2 x3 s7).ob
def impl_FrontOk_c2_r_S := fun x2 x3 s7 => mkRd (impl_FrontOk_c2_r x2 x3 s7) (impl_FrontOk_c2_r_ob x2 x3 s7) [0,0,1,0,1] (fun q => [(0, .S .time x2), (5, .S .time x2), (6, .I x3), (7, .I q)]) s7 rv116 (fun _ => (0, [])) nE nE
theorem impl_FrontOk_c2_r_ok (G : Good Try.prog tt sp_impl_FrontOk) {fr : Fr} : ∀ x2 x3 s7, Ok116 fr (impl_FrontOk_c2_r_S x2 x3 s7) :=
  fun x2 x3 s7 => run_ok G [] trivial [(2,[0,5,6,7,8]),(3,[0,3,4,5,6,7]),(4,[0,5,6,7,40]),(5,[2]),(6,[0,5,6,7])] [] [] (impl_FrontOk_c2_r_t x2 x3 s7) rfl rfl (by kernel_rfl)
def impl_FrontOk_c2 := fun x2 x3 => lpV (fun s : Int => ocLp (impl_FrontOk_c2_r x2 x3 s)) 0
def impl_FrontOk_c2_ob := fun x2 x3 => LpT (fun s : Int => ocLp (impl_FrontOk_c2_r x2 x3 s)) (fun s => impl_FrontOk_c2_r_ob x2 x3 s) 0
def impl_FrontOk_c2_S := fun x2 x3 => lpS (impl_FrontOk_c2_r_S x2 x3 0) (impl_FrontOk_c2 x2 x3) (impl_FrontOk_c2_ob x2 x3)
theorem impl_FrontOk_c2_ok (G : Good Try.prog tt sp_impl_FrontOk) {fr : Fr} : ∀ x2 x3, Ok116 fr (impl_FrontOk_c2_S x2 x3) :=
  fun x2 x3 => loop_ok (fun s : Int => impl_FrontOk_c2_r_S x2 x3 s) 0 (fun _ => rfl) (fun _ => ⟨rfl, rfl, rfl, rfl, rfl⟩) (by kernel_rfl) fun _ => impl_FrontOk_c2_r_ok G _ _ _
def impl_FrontOk_c1_t (x1 : List Time) : Tr Bool Unit Empty Empty Empty :=
  .s (impl_FrontOk_c2_S x1 (lenI .time x1)) nE (fun _ => .l (.n ())) nE nE
def impl_FrontOk_c1 := fun x1 => (impl_FrontOk_c1_t x1).val
def impl_FrontOk_c1_ob := fun x1 => (impl_FrontOk_c1_t x1).ob
def impl_FrontOk_c1_S := fun x1 => SubP.mk (impl_FrontOk_c1 x1) (impl_FrontOk_c1_ob x1) [0,1] [(0, .S .time x1)] rv116 (fun _ => []) nE nE nE
theorem impl_FrontOk_c1_ok (G : Good Try.prog tt sp_impl_FrontOk) {fr : Fr} : ∀ x1, Ok116 fr (impl_FrontOk_c1_S x1) :=
  fun x1 => run_ok G [([0,1,0,1], fun e => ⟨impl_FrontOk_c2_S (gL .time e 0 0) (gI e 6 0)⟩)] ⟨fun _ => ⟨rfl, impl_FrontOk_c2_ok G _ _⟩, trivial⟩ [(1,[0,5,6,7])] [] [] (impl_FrontOk_c1_t x1) rfl rfl (by kernel_rfl)
def impl_FrontOk_b_t (a0 : List Time) : Tr Bool Empty Empty Empty Empty :=
  .s (impl_FrontOk_c1_S a0) (fun _ => .l (.r true)) nE nE nE
def impl_FrontOk_b := fun a0 => (impl_FrontOk_b_t a0).val
def impl_FrontOk_b_ob := fun a0 => (impl_FrontOk_b_t a0).ob
def impl_FrontOk_b_S := fun a0 => SubP.mk (impl_FrontOk_b a0) (impl_FrontOk_b_ob a0) [] [(0, .S .time a0)] rv116 nE nE nE nE
theorem impl_FrontOk_b_ok (G : Good Try.prog tt sp_impl_FrontOk) {fr : Fr} : ∀ a0, Ok116 fr (impl_FrontOk_b_S a0) :=
  fun a0 => run_ok G [([0,1], fun e => ⟨impl_FrontOk_c1_S (gL .time e 0 0)⟩)] ⟨fun _ => ⟨rfl, impl_FrontOk_c1_ok G _⟩, trivial⟩ [(0,[0]),(7,[2])] [] [] (impl_FrontOk_b_t a0) rfl rfl (by kernel_rfl)
def v_impl_FrontOk (a0 : List Time) : Bool := ocR (impl_FrontOk_b a0)
def p_impl_FrontOk (a0 : List Time) : Prop := impl_FrontOk_b_ob a0
def s_impl_FrontOk : Spec := ⟨[(.lst .time)], .one .fr .bool, false, fun x => (v_impl_FrontOk x.1, 0), fun x => p_impl_FrontOk x.1⟩
theorem con_impl_FrontOk (G : Good Try.prog tt sp_impl_FrontOk) : Con Try.prog 116 s_impl_FrontOk :=
  con_run (pts := [(.lst .time)]) (rt := .one .fr .bool) (o := fun x => impl_FrontOk_b x.1) (ob := fun x => impl_FrontOk_b_ob x.1) G (fn := Try.f116) (c := bodyOf Try.f116) (by kernel_rfl) (by kernel_rfl) (by kernel_rfl) (rs := [.tmp 2]) (fz := F116.fz) (by kernel_rfl) (by kernel_rfl) (fun _ => rfl) rfl (fun x => impl_FrontOk_b_S x.1) (fun _ => ⟨rfl, rfl, rfl, rfl, rfl⟩) (fun x _ => impl_FrontOk_b_ok G x.1)

def sp_impl_ahead : SP := []
abbrev F137 : Fnn := ⟨[.tmp 4], .one .fr .bool, none, []⟩
abbrev rv137 : Bool → RV := fun q => (some (RT.av (.one .fr .bool) q), .dead)
abbrev Ok137 (fr : Fr) {A X Y Z : Type} (S : SubP Bool A X Y Z) : Prop := SubOk Try.prog tt ⟨Try.f137.ntmps, none, []⟩ fr (bodyOf Try.f137) F137 S
def impl_ahead_b_t (a0 a1 : Time) : Tr Bool Empty Empty Empty Empty :=
  .l (.r (cond (cmp .lss a0.A a1.A) true (cond (cmp .eql a0.A a1.A) (cmp .lss a0.B a1.B) false)))
def impl_ahead_b := fun a0 a1 => (impl_ahead_b_t a0 a1).val
def impl_ahead_b_ob := fun a0 a1 => (impl_ahead_b_t a0 a1).ob
def impl_ahead_b_S := fun a0 a1 => SubP.mk (impl_ahead_b a0 a1) (impl_ahead_b_ob a0 a1) [] [(0, .agg true [.i a0.A, .i a0.B]), (1, .agg true [.i a1.A, .i a1.B])] rv137 nE nE nE nE
theorem impl_ahead_b_ok (G : Good Try.prog tt sp_impl_ahead) {fr : Fr} : ∀ a0 a1, Ok137 fr (impl_ahead_b_S a0 a1) :=
  fun a0 a1 => run_ok G [] trivial [(0,[2,3]),(1,[4])] [] [] (impl_ahead_b_t a0 a1) rfl rfl (by kernel_rfl)
def v_impl_ahead (a0 : Time) (a1 : Time) : Bool := ocR (impl_ahead_b a0 a1)
def p_impl_ahead (a0 : Time) (a1 : Time) : Prop := impl_ahead_b_ob a0 a1
def s_impl_ahead : Spec := ⟨[(.st .time), (.st .time)], .one .fr .bool, false, fun x => (v_impl_ahead x.1 x.2.1, 0), fun x => p_impl_ahead x.1 x.2.1⟩
theorem con_impl_ahead (G : Good Try.prog tt sp_impl_ahead) : Con Try.prog 137 s_impl_ahead :=
  con_run (pts := [(.st .time), (.st .time)]) (rt := .one .fr .bool) (o := fun x => impl_ahead_b x.1 x.2.1) (ob := fun x => impl_ahead_b_ob x.1 x.2.1) G (fn := Try.f137) (c := bodyOf Try.f137) (by kernel_rfl) (by kernel_rfl) (by kernel_rfl) (rs := [.tmp 4]) (fz := F137.fz) (by kernel_rfl) (by kernel_rfl) (fun _ => rfl) rfl (fun x => impl_ahead_b_S x.1 x.2.1) (fun _ => ⟨rfl, rfl, rfl, rfl, rfl⟩) (fun x _ => impl_ahead_b_ok G x.1 x.2.1)

def sp_impl_rowAhead : SP := [(137, s_impl_ahead)]
abbrev F111 : Fnn := ⟨[.tmp 4], .one .fr .bool, none, []⟩
abbrev rv111 : Bool → RV := fun q => (some (RT.av (.one .fr .bool) q), .dead)
abbrev Ok111 (fr : Fr) {A X Y Z : Type} (S : SubP Bool A X Y Z) : Prop := SubOk Try.prog tt ⟨Try.f111.ntmps, none, []⟩ fr (bodyOf Try.f111) F111 S
def impl_rowAhead_b_t (a0 a1 : Row) : Tr Bool Empty Empty Empty Empty :=
  .c (cmp .neq a0.Key a1.Key)
  (.l (.r (cmp .lss a0.Key a1.Key)))
  (.c (cmp .neq a0.Val a1.Val)
  (.l (.r (cmp .lss a0.Val a1.Val)))
  (.w [(p_impl_ahead a0.At a1.At)] (.l (.r (v_impl_ahead a0.At a1.At)))))
def impl_rowAhead_b := fun a0 a1 => (impl_rowAhead_b_t a0 a1).val
def impl_rowAhead_b_ob := fun a0 a1 => (impl_rowAhead_b_t a0 a1).ob
def impl_rowAhead_b_S := fun a0 a1 => SubP.mk (impl_rowAhead_b a0 a1) (impl_rowAhead_b_ob a0 a1) [] [(0, .agg true [.i a0.Key, .i a0.Val, .i a0.At.A, .i a0.At.B, .i a0.Diff]), (1, .agg true [.i a1.Key, .i a1.Val, .i a1.At.A, .i a1.At.B, .i a1.Diff])] rv111 nE nE nE nE
theorem impl_rowAhead_b_ok (G : Good Try.prog tt sp_impl_rowAhead) {fr : Fr} : ∀ a0 a1, Ok111 fr (impl_rowAhead_b_S a0 a1) :=
  fun a0 a1 => run_ok G [] trivial [(0,[2,3]),(1,[2,3,5]),(2,[4]),(3,[2,3,16]),(4,[4]),(5,[4])] [] [] (impl_rowAhead_b_t a0 a1) rfl rfl (by kernel_rfl)
def v_impl_rowAhead (a0 : Row) (a1 : Row) : Bool := ocR (impl_rowAhead_b a0 a1)
def p_impl_rowAhead (a0 : Row) (a1 : Row) : Prop := impl_rowAhead_b_ob a0 a1
def s_impl_rowAhead : Spec := ⟨[(.st .row), (.st .row)], .one .fr .bool, false, fun x => (v_impl_rowAhead x.1 x.2.1, 0), fun x => p_impl_rowAhead x.1 x.2.1⟩
theorem con_impl_rowAhead (G : Good Try.prog tt sp_impl_rowAhead) : Con Try.prog 111 s_impl_rowAhead :=
  con_run (pts := [(.st .row), (.st .row)]) (rt := .one .fr .bool) (o := fun x => impl_rowAhead_b x.1 x.2.1) (ob := fun x => impl_rowAhead_b_ob x.1 x.2.1) G (fn := Try.f111) (c := bodyOf Try.f111) (by kernel_rfl) (by kernel_rfl) (by kernel_rfl) (rs := [.tmp 4]) (fz := F111.fz) (by kernel_rfl) (by kernel_rfl) (fun _ => rfl) rfl (fun x => impl_rowAhead_b_S x.1 x.2.1) (fun _ => ⟨rfl, rfl, rfl, rfl, rfl⟩) (fun x _ => impl_rowAhead_b_ok G x.1 x.2.1)

def sp_impl_RowsOk : SP := [(110, s_impl_TimeOk)]
abbrev F90 : Fnn := ⟨[.tmp 2], .one .fr .bool, none, []⟩
abbrev rv90 : Bool → RV := fun q => (some (RT.av (.one .fr .bool) q), .dead)
abbrev Ok90 (fr : Fr) {A X Y Z : Type} (S : SubP Bool A X Y Z) : Prop := SubOk Try.prog tt ⟨Try.f90.ntmps, none, []⟩ fr (bodyOf Try.f90) F90 S
def impl_RowsOk_c2_r_t (x2 : LR) (x3 s7 : Int) : Tr Bool Int Unit Empty Empty :=
  .c (cmp .lss s7 x3)
  (.w [inb s7 (lenI .row x2)] (.w [(((!(cond (cond (cond (cmp .lss (rd .row x2 s7).Key 0) true (cmp .geq (rd .row x2 s7).Key 4)) true (cmp .lss (rd .row x2 s7).Val 0)) true (cmp .geq (rd .row x2 s7).Val 100))) && true) = true → (p_impl_TimeOk (rd .row x2 s7).At))] (.c (cond (cond (cond (cond (cond (cond (cmp .lss (rd .row x2 s7).Key 0) true (cmp .geq (rd .row x2 s7).Key 4)) true (cmp .lss (rd .row x2 s7).Val 0)) true (cmp .geq (rd .row x2 s7).Val 100)) true (!(v_impl_TimeOk (rd .row x2 s7).At))) true (cmp .lss (rd .row x2 s7).Diff (-99999))) true (cmp .gtr (rd .row x2 s7).Diff 99999))
  (.l (.r false))
  (.l (.n (ar .add .i64 s7 1))))))
  (.l (.x ()))
def impl_RowsOk_c2_r := fun x2 x3 s7 => (impl_RowsOk_c2_r_t x2 x3 s7).val
def impl_RowsOk_c2_r_ob := fun x2 x3 s7 => (impl_RowsOk_c2_r_t x2 x3 s7).ob
def impl_RowsOk_c2_r_S := fun x2 x3 s7 => mkRd (impl_RowsOk_c2_r x2 x3 s7) (impl_RowsOk_c2_r_ob x2 x3 s7) [0,0,1,0,1] (fun q => [(0, .S .row x2), (5, .S .row x2), (6, .I x3), (7, .I q)]) s7 rv90 (fun _ => (0, [(0, .S .row x2)])) nE nE
theorem impl_RowsOk_c2_r_ok (G : Good Try.prog tt sp_impl_RowsOk) {fr : Fr} : ∀ x2 x3 s7, Ok90 fr (impl_RowsOk_c2_r_S x2 x3 s7) :=
  fun x2 x3 s7 => run_ok G [] trivial [(2,[0,5,6,7,8]),(3,[0,4,5,6,7]),(4,[0,5,6,7,44]),(5,[2]),(6,[0,5,6,7])] [] [] (impl_RowsOk_c2_r_t x2 x3 s7) rfl rfl (by kernel_rfl)
def impl_RowsOk_c2 := fun x2 x3 => lpV (fun s : Int => ocLp (impl_RowsOk_c2_r x2 x3 s)) 0
def impl_RowsOk_c2_ob := fun x2 x3 => LpT (fun s : Int => ocLp (impl_RowsOk_c2_r x2 x3 s)) (fun s => impl_RowsOk_c2_r_ob x2 x3 s) 0
def impl_RowsOk_c2_S := fun x2 x3 => lpS (impl_RowsOk_c2_r_S x2 x3 0) (impl_RowsOk_c2 x2 x3) (impl_RowsOk_c2_ob x2 x3)
theorem impl_RowsOk_c2_ok (G : Good Try.prog tt sp_impl_RowsOk) {fr : Fr} : ∀ x2 x3, Ok90 fr (impl_RowsOk_c2_S x2 x3) :=
  fun x2 x3 => loop_ok (fun s : Int => impl_RowsOk_c2_r_S x2 x3 s) 0 (fun _ => rfl) (fun _ => ⟨rfl, rfl, rfl, rfl, rfl⟩) (by kernel_rfl) fun _ => impl_RowsOk_c2_r_ok G _ _ _
def impl_RowsOk_c1_t (x1 : LR) : Tr Bool Unit Empty Empty Empty :=
  .s (impl_RowsOk_c2_S x1 (lenI .row x1)) nE (fun _ => .l (.n ())) nE nE
def impl_RowsOk_c1 := fun x1 => (impl_RowsOk_c1_t x1).val
def impl_RowsOk_c1_ob := fun x1 => (impl_RowsOk_c1_t x1).ob
def impl_RowsOk_c1_S := fun x1 => SubP.mk (impl_RowsOk_c1 x1) (impl_RowsOk_c1_ob x1) [0,1] [(0, .S .row x1)] rv90 (fun _ => [(0, .S .row x1)]) nE nE nE
theorem impl_RowsOk_c1_ok (G : Good Try.prog tt sp_impl_RowsOk) {fr : Fr} : ∀ x1, Ok90 fr (impl_RowsOk_c1_S x1) :=
  fun x1 => run_ok G [([0,1,0,1], fun e => ⟨impl_RowsOk_c2_S (gL .row e 0 0) (gI e 6 0)⟩)] ⟨fun _ => ⟨rfl, impl_RowsOk_c2_ok G _ _⟩, trivial⟩ [(1,[0,5,6,7])] [] [] (impl_RowsOk_c1_t x1) rfl rfl (by kernel_rfl)
def impl_RowsOk_b_t (a0 : LR) : Tr Bool Empty Empty Empty Empty :=
  .s (impl_RowsOk_c1_S a0) (fun _ => .l (.r (cmp .leq (lenI .row a0) 400))) nE nE nE
def impl_RowsOk_b := fun a0 => (impl_RowsOk_b_t a0).val
def impl_RowsOk_b_ob := fun a0 => (impl_RowsOk_b_t a0).ob
def impl_RowsOk_b_S := fun a0 => SubP.mk (impl_RowsOk_b a0) (impl_RowsOk_b_ob a0) [] [(0, .S .row a0)] rv90 nE nE nE nE
theorem impl_RowsOk_b_ok (G : Good Try.prog tt sp_impl_RowsOk) {fr : Fr} : ∀ a0, Ok90 fr (impl_RowsOk_b_S a0) :=
  fun a0 => run_ok G [([0,1], fun e => ⟨impl_RowsOk_c1_S (gL .row e 0 0)⟩)] ⟨fun _ => ⟨rfl, impl_RowsOk_c1_ok G _⟩, trivial⟩ [(0,[0]),(7,[2])] [] [] (impl_RowsOk_b_t a0) rfl rfl (by kernel_rfl)
def v_impl_RowsOk (a0 : LR) : Bool := ocR (impl_RowsOk_b a0)
def p_impl_RowsOk (a0 : LR) : Prop := impl_RowsOk_b_ob a0
def s_impl_RowsOk : Spec := ⟨[(.lst .row)], .one .fr .bool, false, fun x => (v_impl_RowsOk x.1, 0), fun x => p_impl_RowsOk x.1⟩
theorem con_impl_RowsOk (G : Good Try.prog tt sp_impl_RowsOk) : Con Try.prog 90 s_impl_RowsOk :=
  con_run (pts := [(.lst .row)]) (rt := .one .fr .bool) (o := fun x => impl_RowsOk_b x.1) (ob := fun x => impl_RowsOk_b_ob x.1) G (fn := Try.f90) (c := bodyOf Try.f90) (by kernel_rfl) (by kernel_rfl) (by kernel_rfl) (rs := [.tmp 2]) (fz := F90.fz) (by kernel_rfl) (by kernel_rfl) (fun _ => rfl) rfl (fun x => impl_RowsOk_b_S x.1) (fun _ => ⟨rfl, rfl, rfl, rfl, rfl⟩) (fun x _ => impl_RowsOk_b_ok G x.1)

def sp_impl_BatchOk : SP := [(111, s_impl_rowAhead), (90, s_impl_RowsOk)]
abbrev F58 : Fnn := ⟨[.tmp 2], .one .fr .bool, none, []⟩
abbrev rv58 : Bool → RV := fun q => (some (RT.av (.one .fr .bool) q), .dead)
abbrev Ok58 (fr : Fr) {A X Y Z : Type} (S : SubP Bool A X Y Z) : Prop := SubOk Try.prog tt ⟨Try.f58.ntmps, none, []⟩ fr (bodyOf Try.f58) F58 S
def impl_BatchOk_c2_r_t (x2 : LR) (x3 s7 : Int) : Tr Bool Int Unit Empty Empty :=
  .c (cmp .lss s7 x3)
  (.w [inb s7 (lenI .row x2)] (.w [(((cmp .gtr s7 0) && ((!(cmp .eql (rd .row x2 s7).Diff 0)) && true)) = true → inb (ar .sub .i64 s7 1) (lenI .row x2)), (((cmp .gtr s7 0) && ((!(cmp .eql (rd .row x2 s7).Diff 0)) && true)) = true → (p_impl_rowAhead (rd .row x2 (ar .sub .i64 s7 1)) (rd .row x2 s7)))] (.c (cond (cmp .eql (rd .row x2 s7).Diff 0) true (cond (cmp .gtr s7 0) (!(v_impl_rowAhead (rd .row x2 (ar .sub .i64 s7 1)) (rd .row x2 s7))) false))
  (.l (.r false))
  (.l (.n (ar .add .i64 s7 1))))))
  (.l (.x ()))
def impl_BatchOk_c2_r := fun x2 x3 s7 => (impl_BatchOk_c2_r_t x2 x3 s7).val
def impl_BatchOk_c2_r_ob := fun x2 x3 s7 => (impl_BatchOk_c2_r_t x2 x3 s7).ob
def impl_BatchOk_c2_r_S := fun x2 x3 s7 => mkRd (impl_BatchOk_c2_r x2 x3 s7) (impl_BatchOk_c2_r_ob x2 x3 s7) [0,0,1,0,1] (fun q => [(0, .S .row x2), (5, .S .row x2), (6, .I x3), (7, .I q)]) s7 rv58 (fun _ => (0, [(0, .S .row x2)])) nE nE
theorem impl_BatchOk_c2_r_ok (G : Good Try.prog tt sp_impl_BatchOk) {fr : Fr} : ∀ x2 x3 s7, Ok58 fr (impl_BatchOk_c2_r_S x2 x3 s7) :=
  fun x2 x3 s7 => run_ok G [] trivial [(2,[0,5,6,7,8]),(3,[0,3,4,5,6,7]),(4,[0,5,6,7,28]),(5,[2]),(6,[0,5,6,7])] [] [] (impl_BatchOk_c2_r_t x2 x3 s7) rfl rfl (by kernel_rfl)
def impl_BatchOk_c2 := fun x2 x3 => lpV (fun s : Int => ocLp (impl_BatchOk_c2_r x2 x3 s)) 0
def impl_BatchOk_c2_ob := fun x2 x3 => LpT (fun s : Int => ocLp (impl_BatchOk_c2_r x2 x3 s)) (fun s => impl_BatchOk_c2_r_ob x2 x3 s) 0
def impl_BatchOk_c2_S := fun x2 x3 => lpS (impl_BatchOk_c2_r_S x2 x3 0) (impl_BatchOk_c2 x2 x3) (impl_BatchOk_c2_ob x2 x3)
theorem impl_BatchOk_c2_ok (G : Good Try.prog tt sp_impl_BatchOk) {fr : Fr} : ∀ x2 x3, Ok58 fr (impl_BatchOk_c2_S x2 x3) :=
  fun x2 x3 => loop_ok (fun s : Int => impl_BatchOk_c2_r_S x2 x3 s) 0 (fun _ => rfl) (fun _ => ⟨rfl, rfl, rfl, rfl, rfl⟩) (by kernel_rfl) fun _ => impl_BatchOk_c2_r_ok G _ _ _
def impl_BatchOk_c1_t (x1 : LR) : Tr Bool Unit Empty Empty Empty :=
  .s (impl_BatchOk_c2_S x1 (lenI .row x1)) nE (fun _ => .l (.n ())) nE nE
def impl_BatchOk_c1 := fun x1 => (impl_BatchOk_c1_t x1).val
def impl_BatchOk_c1_ob := fun x1 => (impl_BatchOk_c1_t x1).ob
def impl_BatchOk_c1_S := fun x1 => SubP.mk (impl_BatchOk_c1 x1) (impl_BatchOk_c1_ob x1) [0,1] [(0, .S .row x1)] rv58 (fun _ => [(0, .S .row x1)]) nE nE nE
theorem impl_BatchOk_c1_ok (G : Good Try.prog tt sp_impl_BatchOk) {fr : Fr} : ∀ x1, Ok58 fr (impl_BatchOk_c1_S x1) :=
  fun x1 => run_ok G [([0,1,0,1], fun e => ⟨impl_BatchOk_c2_S (gL .row e 0 0) (gI e 6 0)⟩)] ⟨fun _ => ⟨rfl, impl_BatchOk_c2_ok G _ _⟩, trivial⟩ [(1,[0,5,6,7])] [] [] (impl_BatchOk_c1_t x1) rfl rfl (by kernel_rfl)
def impl_BatchOk_b_t (a0 : LR) : Tr Bool Empty Empty Empty Empty :=
  .s (impl_BatchOk_c1_S a0) (fun _ => .w [(p_impl_RowsOk a0)] (.l (.r (v_impl_RowsOk a0)))) nE nE nE
def impl_BatchOk_b := fun a0 => (impl_BatchOk_b_t a0).val
def impl_BatchOk_b_ob := fun a0 => (impl_BatchOk_b_t a0).ob
def impl_BatchOk_b_S := fun a0 => SubP.mk (impl_BatchOk_b a0) (impl_BatchOk_b_ob a0) [] [(0, .S .row a0)] rv58 nE nE nE nE
theorem impl_BatchOk_b_ok (G : Good Try.prog tt sp_impl_BatchOk) {fr : Fr} : ∀ a0, Ok58 fr (impl_BatchOk_b_S a0) :=
  fun a0 => run_ok G [([0,1], fun e => ⟨impl_BatchOk_c1_S (gL .row e 0 0)⟩)] ⟨fun _ => ⟨rfl, impl_BatchOk_c1_ok G _⟩, trivial⟩ [(0,[0]),(7,[2])] [] [] (impl_BatchOk_b_t a0) rfl rfl (by kernel_rfl)
def v_impl_BatchOk (a0 : LR) : Bool := ocR (impl_BatchOk_b a0)
def p_impl_BatchOk (a0 : LR) : Prop := impl_BatchOk_b_ob a0
def s_impl_BatchOk : Spec := ⟨[(.lst .row)], .one .fr .bool, false, fun x => (v_impl_BatchOk x.1, 0), fun x => p_impl_BatchOk x.1⟩
theorem con_impl_BatchOk (G : Good Try.prog tt sp_impl_BatchOk) : Con Try.prog 58 s_impl_BatchOk :=
  con_run (pts := [(.lst .row)]) (rt := .one .fr .bool) (o := fun x => impl_BatchOk_b x.1) (ob := fun x => impl_BatchOk_b_ob x.1) G (fn := Try.f58) (c := bodyOf Try.f58) (by kernel_rfl) (by kernel_rfl) (by kernel_rfl) (rs := [.tmp 2]) (fz := F58.fz) (by kernel_rfl) (by kernel_rfl) (fun _ => rfl) rfl (fun x => impl_BatchOk_b_S x.1) (fun _ => ⟨rfl, rfl, rfl, rfl, rfl⟩) (fun x _ => impl_BatchOk_b_ok G x.1)

def sp_impl_rowsCopy : SP := []
abbrev F150 : Fnn := ⟨[.tmp 2], .one (.acc false) (.lst .row), none, [2]⟩
abbrev rv150 : LR → RV := fun q => (some (RT.av (.one (.acc false) (.lst .row)) q), .dead)
abbrev Ok150 (fr : Fr) {A X Y Z : Type} (S : SubP LR A X Y Z) : Prop := SubOk Try.prog tt ⟨Try.f150.ntmps, none, []⟩ fr (bodyOf Try.f150) F150 S
def impl_rowsCopy_b_t (a0 : LR) : Tr LR Empty Empty Empty Empty :=
  .w [mkOk (lenI .row a0) (lenI .row a0)] (.l (.r (List.take (List.length (List.replicate (Int.toNat (lenI .row a0)) (Row.mk 0 0 (Time.mk 0 0) 0))) a0 ++ List.drop (List.length a0) (List.replicate (Int.toNat (lenI .row a0)) (Row.mk 0 0 (Time.mk 0 0) 0)))))
def impl_rowsCopy_b := fun a0 => (impl_rowsCopy_b_t a0).val
def impl_rowsCopy_b_ob := fun a0 => (impl_rowsCopy_b_t a0).ob
def impl_rowsCopy_b_S := fun a0 => SubP.mk (impl_rowsCopy_b a0) (impl_rowsCopy_b_ob a0) [] [(0, .S .row a0)] rv150 nE nE nE nE
theorem impl_rowsCopy_b_ok (G : Good Try.prog tt sp_impl_rowsCopy) {fr : Fr} : ∀ a0, Ok150 fr (impl_rowsCopy_b_S a0) :=
  fun a0 => run_ok G [] trivial [(0,[0]),(1,[0,3]),(2,[3]),(3,[2])] [] [] (impl_rowsCopy_b_t a0) rfl rfl (by kernel_rfl)
def v_impl_rowsCopy (a0 : LR) : LR := ocR (impl_rowsCopy_b a0)
def p_impl_rowsCopy (a0 : LR) : Prop := impl_rowsCopy_b_ob a0
def s_impl_rowsCopy : Spec := ⟨[(.lst .row)], .one (.acc false) (.lst .row), false, fun x => (v_impl_rowsCopy x.1, 0), fun x => p_impl_rowsCopy x.1⟩
theorem con_impl_rowsCopy (G : Good Try.prog tt sp_impl_rowsCopy) : Con Try.prog 150 s_impl_rowsCopy :=
  con_run (pts := [(.lst .row)]) (rt := .one (.acc false) (.lst .row)) (o := fun x => impl_rowsCopy_b x.1) (ob := fun x => impl_rowsCopy_b_ob x.1) G (fn := Try.f150) (c := bodyOf Try.f150) (by kernel_rfl) (by kernel_rfl) (by kernel_rfl) (rs := [.tmp 2]) (fz := F150.fz) (by kernel_rfl) (by kernel_rfl) (fun _ => rfl) rfl (fun x => impl_rowsCopy_b_S x.1) (fun _ => ⟨rfl, rfl, rfl, rfl, rfl⟩) (fun x _ => impl_rowsCopy_b_ok G x.1)

def sp_impl_each : SP := []
abbrev F177 : Fnn := ⟨[.tmp 6, .tmp 7, .tmp 8], .tup [(true, (.int .i64)), (true, (.int .i64)), (true, .bool)], none, []⟩
abbrev rv177 : Int × Int × Bool × Unit → RV := fun q => (some (RT.av (.tup [(true, (.int .i64)), (true, (.int .i64)), (true, .bool)]) q), .dead)
abbrev Ok177 (fr : Fr) {A X Y Z : Type} (S : SubP (Int × Int × Bool × Unit) A X Y Z) : Prop := SubOk Try.prog tt ⟨Try.f177.ntmps, none, []⟩ fr (bodyOf Try.f177) F177 S
def impl_each_b_t (a0 a1 a2 : Int) : Tr (Int × Int × Bool × Unit) Empty Empty Empty Empty :=
  .c (cmp .eql a2 1)
  (.w [(4 : Int) ≠ 0, (4 : Int) ≠ 0] (.l (.r ((ar .rem .i64 a1 4), ((ar .add .i64 (ar .sub .i64 a1 (ar .rem .i64 a1 4)) a0), (true, ()))))))
  (.c (cmp .eql a2 2)
  (.w [(100 : Int) ≠ 0] (.l (.r (a0, ((ar .rem .i64 (ar .add .i64 a1 1) 100), (true, ()))))))
  (.c (cmp .eql a2 3)
  (.w [(4 : Int) ≠ 0] (.l (.r ((ar .rem .i64 a1 4), (a1, (true, ()))))))
  (.c (cmp .eql a2 4)
  (.l (.r (0, (a1, (true, ())))))
  (.c (cmp .eql a2 5)
  (.w [(2 : Int) ≠ 0] (.l (.r (a0, (a1, ((cmp .eql (ar .rem .i64 a1 2) 0), ()))))))
  (.c (cmp .eql a2 6)
  (.w [(2 : Int) ≠ 0] (.l (.r (a0, (a1, ((cmp .eql (ar .rem .i64 a0 2) 0), ()))))))
  (.c (cmp .eql a2 7)
  (.l (.r (a0, (a1, ((cmp .lss a1 10), ())))))
  (.l (.r (0, (0, (false, ())))))))))))
def impl_each_b := fun a0 a1 a2 => (impl_each_b_t a0 a1 a2).val
def impl_each_b_ob := fun a0 a1 a2 => (impl_each_b_t a0 a1 a2).ob
def impl_each_b_S := fun a0 a1 a2 => SubP.mk (impl_each_b a0 a1 a2) (impl_each_b_ob a0 a1 a2) [] [(0, .I a0), (1, .I a1), (2, .I a2)] rv177 nE nE nE nE
theorem impl_each_b_ok (G : Good Try.prog tt sp_impl_each) {fr : Fr} : ∀ a0 a1 a2, Ok177 fr (impl_each_b_S a0 a1 a2) :=
  fun a0 a1 a2 => run_ok G [] trivial [(0,[0,1,2]),(1,[0,1,9]),(2,[0,1,9,10]),(3,[6,7,8]),(4,[0,1,9,20]),(5,[6,7,8]),(6,[0,1,9,26]),(7,[6,7,8]),(8,[0,1,9,31]),(9,[6,7,8]),(10,[0,1,9,34]),(11,[6,7,8]),(12,[0,1,9,41]),(13,[6,7,8]),(14,[0,1,48]),(15,[6,7,8]),(16,[6,7,8])] [] [] (impl_each_b_t a0 a1 a2) rfl rfl (by kernel_rfl)
def v_impl_each (a0 : Int) (a1 : Int) (a2 : Int) : Int × Int × Bool × Unit := ocR (impl_each_b a0 a1 a2)
def p_impl_each (a0 : Int) (a1 : Int) (a2 : Int) : Prop := impl_each_b_ob a0 a1 a2
def s_impl_each : Spec := ⟨[(.int .i64), (.int .i64), (.int .i64)], .tup [(true, (.int .i64)), (true, (.int .i64)), (true, .bool)], false, fun x => (v_impl_each x.1 x.2.1 x.2.2.1, 0), fun x => p_impl_each x.1 x.2.1 x.2.2.1⟩
theorem con_impl_each (G : Good Try.prog tt sp_impl_each) : Con Try.prog 177 s_impl_each :=
  con_run (pts := [(.int .i64), (.int .i64), (.int .i64)]) (rt := .tup [(true, (.int .i64)), (true, (.int .i64)), (true, .bool)]) (o := fun x => impl_each_b x.1 x.2.1 x.2.2.1) (ob := fun x => impl_each_b_ob x.1 x.2.1 x.2.2.1) G (fn := Try.f177) (c := bodyOf Try.f177) (by kernel_rfl) (by kernel_rfl) (by kernel_rfl) (rs := [.tmp 6, .tmp 7, .tmp 8]) (fz := F177.fz) (by kernel_rfl) (by kernel_rfl) (fun _ => rfl) rfl (fun x => impl_each_b_S x.1 x.2.1 x.2.2.1) (fun _ => ⟨rfl, rfl, rfl, rfl, rfl⟩) (fun x _ => impl_each_b_ok G x.1 x.2.1 x.2.2.1)

def sp_impl_batch : SP := [(128, s_impl_consolidated), (58, s_impl_BatchOk)]
abbrev F91 : Fnn := ⟨[.tmp 2, .tmp 3], .tup [(false, (.lst .row)), (true, .bool)], none, []⟩
abbrev rv91 : LR × Bool × Unit → RV := fun q => (some (RT.av (.tup [(false, (.lst .row)), (true, .bool)]) q), .dead)
abbrev Ok91 (fr : Fr) {A X Y Z : Type} (S : SubP (LR × Bool × Unit) A X Y Z) : Prop := SubOk Try.prog tt ⟨Try.f91.ntmps, none, []⟩ fr (bodyOf Try.f91) F91 S
def impl_batch_b_t (a0 : LR) : Tr (LR × Bool × Unit) Empty Empty Empty Empty :=
  .w [(p_impl_consolidated a0)] (.w [(p_impl_BatchOk (v_impl_consolidated a0))] (.c (!(v_impl_BatchOk (v_impl_consolidated a0)))
  (.l (.r ([], (false, ()))))
  (.l (.r ((v_impl_consolidated a0), (true, ()))))))
def impl_batch_b := fun a0 => (impl_batch_b_t a0).val
def impl_batch_b_ob := fun a0 => (impl_batch_b_t a0).ob
def impl_batch_b_S := fun a0 => SubP.mk (impl_batch_b a0) (impl_batch_b_ob a0) [] [(0, .S .row a0)] rv91 nE nE nE nE
theorem impl_batch_b_ok (G : Good Try.prog tt sp_impl_batch) {fr : Fr} : ∀ a0, Ok91 fr (impl_batch_b_S a0) :=
  fun a0 => run_ok G [] trivial [(0,[0]),(1,[4]),(2,[4,9]),(3,[2,3]),(4,[2,3])] [] [] (impl_batch_b_t a0) rfl rfl (by kernel_rfl)
def v_impl_batch (a0 : LR) : LR × Bool × Unit := ocR (impl_batch_b a0)
def p_impl_batch (a0 : LR) : Prop := impl_batch_b_ob a0
def s_impl_batch : Spec := ⟨[(.lst .row)], .tup [(false, (.lst .row)), (true, .bool)], false, fun x => (v_impl_batch x.1, 0), fun x => p_impl_batch x.1⟩
theorem con_impl_batch (G : Good Try.prog tt sp_impl_batch) : Con Try.prog 91 s_impl_batch :=
  con_run (pts := [(.lst .row)]) (rt := .tup [(false, (.lst .row)), (true, .bool)]) (o := fun x => impl_batch_b x.1) (ob := fun x => impl_batch_b_ob x.1) G (fn := Try.f91) (c := bodyOf Try.f91) (by kernel_rfl) (by kernel_rfl) (by kernel_rfl) (rs := [.tmp 2, .tmp 3]) (fz := F91.fz) (by kernel_rfl) (by kernel_rfl) (fun _ => rfl) rfl (fun x => impl_batch_b_S x.1) (fun _ => ⟨rfl, rfl, rfl, rfl, rfl⟩) (fun x _ => impl_batch_b_ok G x.1)

def sp_impl_flowEach : SP := [(177, s_impl_each), (91, s_impl_batch)]
abbrev F151 : Fnn := ⟨[.tmp 4, .tmp 5], .tup [(false, (.lst .row)), (true, .bool)], none, []⟩
abbrev rv151 : LR × Bool × Unit → RV := fun q => (some (RT.av (.tup [(false, (.lst .row)), (true, .bool)]) q), .dead)
abbrev Ok151 (fr : Fr) {A X Y Z : Type} (S : SubP (LR × Bool × Unit) A X Y Z) : Prop := SubOk Try.prog tt ⟨Try.f151.ntmps, none, []⟩ fr (bodyOf Try.f151) F151 S
def impl_flowEach_c3_t (x21 : Int) (x22 x23 : LR) (_x24 x25 : Int) : Tr (LR × Bool × Unit) LR Empty Empty Empty :=
  .w [inb x25 (lenI .row x23)] (.w [(p_impl_each (rd .row x23 x25).Key (rd .row x23 x25).Val x21)] (.c (v_impl_each (rd .row x23 x25).Key (rd .row x23 x25).Val x21).2.2.1
  (.w [lim (lenI .row x22) (lenI .row [(Row.mk (v_impl_each (rd .row x23 x25).Key (rd .row x23 x25).Val x21).1 (v_impl_each (rd .row x23 x25).Key (rd .row x23 x25).Val x21).2.1 (rd .row x23 x25).At (rd .row x23 x25).Diff)])] (.l (.n (x22 ++ [(Row.mk (v_impl_each (rd .row x23 x25).Key (rd .row x23 x25).Val x21).1 (v_impl_each (rd .row x23 x25).Key (rd .row x23 x25).Val x21).2.1 (rd .row x23 x25).At (rd .row x23 x25).Diff)]))))
  (.l (.n x22))))
def impl_flowEach_c3 := fun x21 x22 x23 x24 x25 => (impl_flowEach_c3_t x21 x22 x23 x24 x25).val
def impl_flowEach_c3_ob := fun x21 x22 x23 x24 x25 => (impl_flowEach_c3_t x21 x22 x23 x24 x25).ob
def impl_flowEach_c3_S := fun x21 x22 x23 x24 x25 => SubP.mk (impl_flowEach_c3 x21 x22 x23 x24 x25) (impl_flowEach_c3_ob x21 x22 x23 x24 x25) [0,1,1,0,0,1,0,1,1] [(1, .I x21), (6, .A .row x22), (13, .S .row x23), (14, .I x24), (15, .I x25)] rv151 (fun q => [(1, .I x21), (6, .A .row q), (13, .S .row x23), (14, .I x24), (15, .I x25)]) nE nE nE
theorem impl_flowEach_c3_ok (G : Good Try.prog tt sp_impl_flowEach) {fr : Fr} : ∀ x21 x22 x23 x24 x25, Ok151 fr (impl_flowEach_c3_S x21 x22 x23 x24 x25) :=
  fun x21 x22 x23 x24 x25 => run_ok G [] trivial [(4,[1,6,8,13,14,15]),(5,[1,6,8,9,10,11,13,14,15]),(6,[1,6,8,9,10,13,14,15,29]),(7,[1,6,13,14,15])] [] [] (impl_flowEach_c3_t x21 x22 x23 x24 x25) rfl rfl (by kernel_rfl)
def impl_flowEach_c2_r_t (x3 : Int) (x4 : LR) (x5 : Int) (s18 : LR) (s19 : Int) : Tr (LR × Bool × Unit) (LR × Int) LR Empty Empty :=
  .c (cmp .lss s19 x5)
  (.s (impl_flowEach_c3_S x3 s18 x4 x5 s19) (fun q28 => .l (.n (q28, (ar .add .i64 s19 1)))) nE nE nE)
  (.l (.x s18))
def impl_flowEach_c2_r := fun x3 x4 x5 s18 s19 => (impl_flowEach_c2_r_t x3 x4 x5 s18 s19).val
def impl_flowEach_c2_r_ob := fun x3 x4 x5 s18 s19 => (impl_flowEach_c2_r_t x3 x4 x5 s18 s19).ob
def impl_flowEach_c2_r_S := fun x3 x4 x5 s18 s19 => mkRd (impl_flowEach_c2_r x3 x4 x5 s18 s19) (impl_flowEach_c2_r_ob x3 x4 x5 s18 s19) [0,0,1,0,1,1] (fun q => [(1, .I x3), (6, .A .row q.1), (13, .S .row x4), (14, .I x5), (15, .I q.2)]) (s18, s19) rv151 (fun q => (0, [(6, .A .row q)])) nE nE
theorem impl_flowEach_c2_r_ok (G : Good Try.prog tt sp_impl_flowEach) {fr : Fr} : ∀ x3 x4 x5 s18 s19, Ok151 fr (impl_flowEach_c2_r_S x3 x4 x5 s18 s19) :=
  fun x3 x4 x5 s18 s19 => run_ok G [([0,1,1,0,0,1,0,1,1], fun e => ⟨impl_flowEach_c3_S (gI e 1 0) (gL .row e 6 0) (gL .row e 13 0) (gI e 14 0) (gI e 15 0)⟩)] ⟨fun _ => ⟨rfl, impl_flowEach_c3_ok G _ _ _ _ _⟩, trivial⟩ [(3,[1,6,13,14,15,16]),(8,[1,6,13,14,15])] [] [] (impl_flowEach_c2_r_t x3 x4 x5 s18 s19) rfl rfl (by kernel_rfl)
def impl_flowEach_c2 := fun x3 x4 x5 => lpV (fun s : LR × Int => ocLp (impl_flowEach_c2_r x3 x4 x5 s.1 s.2)) ([], 0)
def impl_flowEach_c2_ob := fun x3 x4 x5 => LpT (fun s : LR × Int => ocLp (impl_flowEach_c2_r x3 x4 x5 s.1 s.2)) (fun s => impl_flowEach_c2_r_ob x3 x4 x5 s.1 s.2) ([], 0)
def impl_flowEach_c2_S := fun x3 x4 x5 => lpS (impl_flowEach_c2_r_S x3 x4 x5 [] 0) (impl_flowEach_c2 x3 x4 x5) (impl_flowEach_c2_ob x3 x4 x5)
theorem impl_flowEach_c2_ok (G : Good Try.prog tt sp_impl_flowEach) {fr : Fr} : ∀ x3 x4 x5, Ok151 fr (impl_flowEach_c2_S x3 x4 x5) :=
  fun x3 x4 x5 => loop_ok (fun s : LR × Int => impl_flowEach_c2_r_S x3 x4 x5 s.1 s.2) ([], 0) (fun _ => rfl) (fun _ => ⟨rfl, rfl, rfl, rfl, rfl⟩) (by kernel_rfl) fun _ => impl_flowEach_c2_r_ok G _ _ _ _ _
def impl_flowEach_c1_t (x1 : LR) (x2 : Int) : Tr (LR × Bool × Unit) LR Empty Empty Empty :=
  .s (impl_flowEach_c2_S x2 x1 (lenI .row x1)) nE (fun q39 => .l (.n q39)) nE nE
def impl_flowEach_c1 := fun x1 x2 => (impl_flowEach_c1_t x1 x2).val
def impl_flowEach_c1_ob := fun x1 x2 => (impl_flowEach_c1_t x1 x2).ob
def impl_flowEach_c1_S := fun x1 x2 => SubP.mk (impl_flowEach_c1 x1 x2) (impl_flowEach_c1_ob x1 x2) [0,1,1] [(0, .S .row x1), (1, .I x2), (6, .A .row [])] rv151 (fun q => [(6, .A .row q)]) nE nE nE
theorem impl_flowEach_c1_ok (G : Good Try.prog tt sp_impl_flowEach) {fr : Fr} : ∀ x1 x2, Ok151 fr (impl_flowEach_c1_S x1 x2) :=
  fun x1 x2 => run_ok G [([0,1,0,1,1], fun e => ⟨impl_flowEach_c2_S (gI e 1 0) (gL .row e 13 0) (gI e 14 0)⟩)] ⟨fun _ => ⟨rfl, impl_flowEach_c2_ok G _ _ _⟩, trivial⟩ [(2,[1,6,13,14,15])] [] [] (impl_flowEach_c1_t x1 x2) rfl rfl (by kernel_rfl)
def impl_flowEach_b_t (a0 : LR) (a1 : Int) : Tr (LR × Bool × Unit) Empty Empty Empty Empty :=
  .s (impl_flowEach_c1_S a0 a1) (fun q42 => .w [(p_impl_batch q42)] (.l (.r ((v_impl_batch q42).1, ((v_impl_batch q42).2.1, ()))))) nE nE nE
def impl_flowEach_b := fun a0 a1 => (impl_flowEach_b_t a0 a1).val
def impl_flowEach_b_ob := fun a0 a1 => (impl_flowEach_b_t a0 a1).ob
def impl_flowEach_b_S := fun a0 a1 => SubP.mk (impl_flowEach_b a0 a1) (impl_flowEach_b_ob a0 a1) [] [(0, .S .row a0), (1, .I a1)] rv151 nE nE nE nE
theorem impl_flowEach_b_ok (G : Good Try.prog tt sp_impl_flowEach) {fr : Fr} : ∀ a0 a1, Ok151 fr (impl_flowEach_b_S a0 a1) :=
  fun a0 a1 => run_ok G [([0,1,1], fun e => ⟨impl_flowEach_c1_S (gL .row e 0 0) (gI e 1 0)⟩)] ⟨fun _ => ⟨rfl, impl_flowEach_c1_ok G _ _⟩, trivial⟩ [(0,[0,1]),(1,[0,1,6]),(9,[4,5])] [] [] (impl_flowEach_b_t a0 a1) rfl rfl (by kernel_rfl)
def v_impl_flowEach (a0 : LR) (a1 : Int) : LR × Bool × Unit := ocR (impl_flowEach_b a0 a1)
def p_impl_flowEach (a0 : LR) (a1 : Int) : Prop := impl_flowEach_b_ob a0 a1
def s_impl_flowEach : Spec := ⟨[(.lst .row), (.int .i64)], .tup [(false, (.lst .row)), (true, .bool)], false, fun x => (v_impl_flowEach x.1 x.2.1, 0), fun x => p_impl_flowEach x.1 x.2.1⟩
theorem con_impl_flowEach (G : Good Try.prog tt sp_impl_flowEach) : Con Try.prog 151 s_impl_flowEach :=
  con_run (pts := [(.lst .row), (.int .i64)]) (rt := .tup [(false, (.lst .row)), (true, .bool)]) (o := fun x => impl_flowEach_b x.1 x.2.1) (ob := fun x => impl_flowEach_b_ob x.1 x.2.1) G (fn := Try.f151) (c := bodyOf Try.f151) (by kernel_rfl) (by kernel_rfl) (by kernel_rfl) (rs := [.tmp 4, .tmp 5]) (fz := F151.fz) (by kernel_rfl) (by kernel_rfl) (fun _ => rfl) rfl (fun x => impl_flowEach_b_S x.1 x.2.1) (fun _ => ⟨rfl, rfl, rfl, rfl, rfl⟩) (fun x _ => impl_flowEach_b_ok G x.1 x.2.1)

def sp_impl_together : SP := []
abbrev F152 : Fnn := ⟨[.tmp 4], .one (.acc false) (.lst .row), none, []⟩
abbrev rv152 : LR → RV := fun q => (some (RT.av (.one (.acc false) (.lst .row)) q), .dead)
abbrev Ok152 (fr : Fr) {A X Y Z : Type} (S : SubP LR A X Y Z) : Prop := SubOk Try.prog tt ⟨Try.f152.ntmps, none, []⟩ fr (bodyOf Try.f152) F152 S
def impl_together_b_t (a0 a1 : LR) : Tr LR Empty Empty Empty Empty :=
  .w [lim (lenI .row []) (lenI .row a0), lim (lenI .row ([] ++ a0)) (lenI .row a1)] (.l (.r (([] ++ a0) ++ a1)))
def impl_together_b := fun a0 a1 => (impl_together_b_t a0 a1).val
def impl_together_b_ob := fun a0 a1 => (impl_together_b_t a0 a1).ob
def impl_together_b_S := fun a0 a1 => SubP.mk (impl_together_b a0 a1) (impl_together_b_ob a0 a1) [] [(0, .S .row a0), (1, .S .row a1)] rv152 nE nE nE nE
theorem impl_together_b_ok (G : Good Try.prog tt sp_impl_together) {fr : Fr} : ∀ a0 a1, Ok152 fr (impl_together_b_S a0 a1) :=
  fun a0 a1 => run_ok G [] trivial [(0,[0,1]),(1,[4])] [] [] (impl_together_b_t a0 a1) rfl rfl (by kernel_rfl)
def v_impl_together (a0 : LR) (a1 : LR) : LR := ocR (impl_together_b a0 a1)
def p_impl_together (a0 : LR) (a1 : LR) : Prop := impl_together_b_ob a0 a1
def s_impl_together : Spec := ⟨[(.lst .row), (.lst .row)], .one (.acc false) (.lst .row), false, fun x => (v_impl_together x.1 x.2.1, 0), fun x => p_impl_together x.1 x.2.1⟩
theorem con_impl_together (G : Good Try.prog tt sp_impl_together) : Con Try.prog 152 s_impl_together :=
  con_run (pts := [(.lst .row), (.lst .row)]) (rt := .one (.acc false) (.lst .row)) (o := fun x => impl_together_b x.1 x.2.1) (ob := fun x => impl_together_b_ob x.1 x.2.1) G (fn := Try.f152) (c := bodyOf Try.f152) (by kernel_rfl) (by kernel_rfl) (by kernel_rfl) (rs := [.tmp 4]) (fz := F152.fz) (by kernel_rfl) (by kernel_rfl) (fun _ => rfl) rfl (fun x => impl_together_b_S x.1 x.2.1) (fun _ => ⟨rfl, rfl, rfl, rfl, rfl⟩) (fun x _ => impl_together_b_ok G x.1 x.2.1)

def sp_impl_negated : SP := []
abbrev F153 : Fnn := ⟨[.tmp 2], .one (.acc false) (.lst .row), none, [2]⟩
abbrev rv153 : LR → RV := fun q => (some (RT.av (.one (.acc false) (.lst .row)) q), .dead)
abbrev Ok153 (fr : Fr) {A X Y Z : Type} (S : SubP LR A X Y Z) : Prop := SubOk Try.prog tt ⟨Try.f153.ntmps, none, []⟩ fr (bodyOf Try.f153) F153 S
def impl_negated_c2_r_t (_x2 : LR) (x3 : Int) (s7 : LR) (s8 : Int) : Tr LR (LR × Int) LR Empty Empty :=
  .c (cmp .lss s8 x3)
  (.w [inb s8 (lenI .row s7), inb s8 (lenI .row s7), inb s8 (lenI .row s7)] (.l (.n ((List.set s7 (Int.toNat s8) (Row.mk (rd .row s7 s8).Key (rd .row s7 s8).Val (rd .row s7 s8).At (IntKind.wrap .i64 (0 - (rd .row s7 s8).Diff)))), (ar .add .i64 s8 1)))))
  (.l (.x s7))
def impl_negated_c2_r := fun x2 x3 s7 s8 => (impl_negated_c2_r_t x2 x3 s7 s8).val
def impl_negated_c2_r_ob := fun x2 x3 s7 s8 => (impl_negated_c2_r_t x2 x3 s7 s8).ob
def impl_negated_c2_r_S := fun x2 x3 s7 s8 => mkRd (impl_negated_c2_r x2 x3 s7 s8) (impl_negated_c2_r_ob x2 x3 s7 s8) [0,0,1,0,1,1] (fun q => [(3, .v (.own false) (.lst .row q.1)), (9, .I x3), (10, .I q.2)]) (s7, s8) rv153 (fun q => (0, [(3, .v (.own false) (.lst .row q))])) nE nE
theorem impl_negated_c2_r_ok (G : Good Try.prog tt sp_impl_negated) {fr : Fr} : ∀ x2 x3 s7 s8, Ok153 fr (impl_negated_c2_r_S x2 x3 s7 s8) :=
  fun x2 x3 s7 s8 => run_ok G [] trivial [(3,[3,9,10,11]),(4,[3,4,9,10]),(5,[3,9,10]),(6,[3,9,10])] [] [] (impl_negated_c2_r_t x2 x3 s7 s8) rfl rfl (by kernel_rfl)
def impl_negated_c2 := fun x2 x3 => lpV (fun s : LR × Int => ocLp (impl_negated_c2_r x2 x3 s.1 s.2)) (x2, 0)
def impl_negated_c2_ob := fun x2 x3 => LpT (fun s : LR × Int => ocLp (impl_negated_c2_r x2 x3 s.1 s.2)) (fun s => impl_negated_c2_r_ob x2 x3 s.1 s.2) (x2, 0)
def impl_negated_c2_S := fun x2 x3 => lpS (impl_negated_c2_r_S x2 x3 x2 0) (impl_negated_c2 x2 x3) (impl_negated_c2_ob x2 x3)
theorem impl_negated_c2_ok (G : Good Try.prog tt sp_impl_negated) {fr : Fr} : ∀ x2 x3, Ok153 fr (impl_negated_c2_S x2 x3) :=
  fun x2 x3 => loop_ok (fun s : LR × Int => impl_negated_c2_r_S x2 x3 s.1 s.2) (x2, 0) (fun _ => rfl) (fun _ => ⟨rfl, rfl, rfl, rfl, rfl⟩) (by kernel_rfl) fun _ => impl_negated_c2_r_ok G _ _ _ _
def impl_negated_c1_t (x1 : LR) : Tr LR LR Empty Empty Empty :=
  .s (impl_negated_c2_S x1 (lenI .row x1)) nE (fun q17 => .l (.n q17)) nE nE
def impl_negated_c1 := fun x1 => (impl_negated_c1_t x1).val
def impl_negated_c1_ob := fun x1 => (impl_negated_c1_t x1).ob
def impl_negated_c1_S := fun x1 => SubP.mk (impl_negated_c1 x1) (impl_negated_c1_ob x1) [0,1,1] [(3, .v (.acc false) (.lst .row x1))] rv153 (fun q => [(3, .v (.own false) (.lst .row q))]) nE nE nE
theorem impl_negated_c1_ok (G : Good Try.prog tt sp_impl_negated) {fr : Fr} : ∀ x1, Ok153 fr (impl_negated_c1_S x1) :=
  fun x1 => run_ok G [([0,1,0,1,1], fun e => ⟨impl_negated_c2_S (gL .row e 3 0) (gI e 9 0)⟩)] ⟨fun _ => ⟨rfl, impl_negated_c2_ok G _ _⟩, trivial⟩ [(2,[3,9,10])] [(2,3)] [] (impl_negated_c1_t x1) rfl rfl (by kernel_rfl)
def impl_negated_b_t (a0 : LR) : Tr LR Empty Empty Empty Empty :=
  .w [lim (lenI .row []) (lenI .row a0)] (.s (impl_negated_c1_S ([] ++ a0)) (fun q20 => .l (.r q20)) nE nE nE)
def impl_negated_b := fun a0 => (impl_negated_b_t a0).val
def impl_negated_b_ob := fun a0 => (impl_negated_b_t a0).ob
def impl_negated_b_S := fun a0 => SubP.mk (impl_negated_b a0) (impl_negated_b_ob a0) [] [(0, .S .row a0)] rv153 nE nE nE nE
theorem impl_negated_b_ok (G : Good Try.prog tt sp_impl_negated) {fr : Fr} : ∀ a0, Ok153 fr (impl_negated_b_S a0) :=
  fun a0 => run_ok G [([0,1,1], fun e => ⟨impl_negated_c1_S (gL .row e 3 0)⟩)] ⟨fun _ => ⟨rfl, impl_negated_c1_ok G _⟩, trivial⟩ [(0,[0]),(1,[3]),(7,[2])] [] [] (impl_negated_b_t a0) rfl rfl (by kernel_rfl)
def v_impl_negated (a0 : LR) : LR := ocR (impl_negated_b a0)
def p_impl_negated (a0 : LR) : Prop := impl_negated_b_ob a0
def s_impl_negated : Spec := ⟨[(.lst .row)], .one (.acc false) (.lst .row), false, fun x => (v_impl_negated x.1, 0), fun x => p_impl_negated x.1⟩
theorem con_impl_negated (G : Good Try.prog tt sp_impl_negated) : Con Try.prog 153 s_impl_negated :=
  con_run (pts := [(.lst .row)]) (rt := .one (.acc false) (.lst .row)) (o := fun x => impl_negated_b x.1) (ob := fun x => impl_negated_b_ob x.1) G (fn := Try.f153) (c := bodyOf Try.f153) (by kernel_rfl) (by kernel_rfl) (by kernel_rfl) (rs := [.tmp 2]) (fz := F153.fz) (by kernel_rfl) (by kernel_rfl) (fun _ => rfl) rfl (fun x => impl_negated_b_S x.1) (fun _ => ⟨rfl, rfl, rfl, rfl, rfl⟩) (fun x _ => impl_negated_b_ok G x.1)

def sp_impl_joinedVal : SP := []
abbrev F178 : Fnn := ⟨[.tmp 4], .one .fr (.int .i64), none, []⟩
abbrev rv178 : Int → RV := fun q => (some (RT.av (.one .fr (.int .i64)) q), .dead)
abbrev Ok178 (fr : Fr) {A X Y Z : Type} (S : SubP Int A X Y Z) : Prop := SubOk Try.prog tt ⟨Try.f178.ntmps, none, []⟩ fr (bodyOf Try.f178) F178 S
def impl_joinedVal_b_t (a0 a1 : Int) : Tr Int Empty Empty Empty Empty :=
  .w [(100 : Int) ≠ 0] (.l (.r (ar .rem .i64 (ar .add .i64 (ar .mul .i64 10 a0) a1) 100)))
def impl_joinedVal_b := fun a0 a1 => (impl_joinedVal_b_t a0 a1).val
def impl_joinedVal_b_ob := fun a0 a1 => (impl_joinedVal_b_t a0 a1).ob
def impl_joinedVal_b_S := fun a0 a1 => SubP.mk (impl_joinedVal_b a0 a1) (impl_joinedVal_b_ob a0 a1) [] [(0, .I a0), (1, .I a1)] rv178 nE nE nE nE
theorem impl_joinedVal_b_ok (G : Good Try.prog tt sp_impl_joinedVal) {fr : Fr} : ∀ a0 a1, Ok178 fr (impl_joinedVal_b_S a0 a1) :=
  fun a0 a1 => run_ok G [] trivial [(0,[0,1]),(1,[4])] [] [] (impl_joinedVal_b_t a0 a1) rfl rfl (by kernel_rfl)
def v_impl_joinedVal (a0 : Int) (a1 : Int) : Int := ocR (impl_joinedVal_b a0 a1)
def p_impl_joinedVal (a0 : Int) (a1 : Int) : Prop := impl_joinedVal_b_ob a0 a1
def s_impl_joinedVal : Spec := ⟨[(.int .i64), (.int .i64)], .one .fr (.int .i64), false, fun x => (v_impl_joinedVal x.1 x.2.1, 0), fun x => p_impl_joinedVal x.1 x.2.1⟩
theorem con_impl_joinedVal (G : Good Try.prog tt sp_impl_joinedVal) : Con Try.prog 178 s_impl_joinedVal :=
  con_run (pts := [(.int .i64), (.int .i64)]) (rt := .one .fr (.int .i64)) (o := fun x => impl_joinedVal_b x.1 x.2.1) (ob := fun x => impl_joinedVal_b_ob x.1 x.2.1) G (fn := Try.f178) (c := bodyOf Try.f178) (by kernel_rfl) (by kernel_rfl) (by kernel_rfl) (rs := [.tmp 4]) (fz := F178.fz) (by kernel_rfl) (by kernel_rfl) (fun _ => rfl) rfl (fun x => impl_joinedVal_b_S x.1 x.2.1) (fun _ => ⟨rfl, rfl, rfl, rfl, rfl⟩) (fun x _ => impl_joinedVal_b_ok G x.1 x.2.1)

def sp_impl_TimeJoin : SP := [(110, s_impl_TimeOk)]
abbrev F179 : Fnn := ⟨[.cell 4 74], .one .fr (.st .time), none, []⟩
abbrev rv179 : Time → RV := fun q => (some (RT.av (.one .fr (.st .time)) q), .dead)
abbrev Ok179 (fr : Fr) {A X Y Z : Type} (S : SubP Time A X Y Z) : Prop := SubOk Try.prog tt ⟨Try.f179.ntmps, none, []⟩ fr (bodyOf Try.f179) F179 S
def impl_TimeJoin_b_t (a0 a1 : Time) : Tr Time Empty Empty Empty Empty :=
  .w [(p_impl_TimeOk a0), (((!(!(v_impl_TimeOk a0))) && true) = true → (p_impl_TimeOk a1))] (.c (cond (!(v_impl_TimeOk a0)) true (!(v_impl_TimeOk a1)))
  (.l (.r (Time.mk 0 0)))
  (.l (.r (Time.mk (mx a0.A a1.A) (mx a0.B a1.B)))))
def impl_TimeJoin_b := fun a0 a1 => (impl_TimeJoin_b_t a0 a1).val
def impl_TimeJoin_b_ob := fun a0 a1 => (impl_TimeJoin_b_t a0 a1).ob
def impl_TimeJoin_b_S := fun a0 a1 => SubP.mk (impl_TimeJoin_b a0 a1) (impl_TimeJoin_b_ob a0 a1) [] [(0, .agg true [.i a0.A, .i a0.B]), (1, .agg true [.i a1.A, .i a1.B])] rv179 nE nE nE nE
theorem impl_TimeJoin_b_ok (G : Good Try.prog tt sp_impl_TimeJoin) {fr : Fr} : ∀ a0 a1, Ok179 fr (impl_TimeJoin_b_S a0 a1) :=
  fun a0 a1 => run_ok G [] trivial [(0,[2,3,4]),(1,[2,3,4,12]),(2,[4]),(3,[4])] [] [] (impl_TimeJoin_b_t a0 a1) rfl rfl (by kernel_rfl)
def v_impl_TimeJoin (a0 : Time) (a1 : Time) : Time := ocR (impl_TimeJoin_b a0 a1)
def p_impl_TimeJoin (a0 : Time) (a1 : Time) : Prop := impl_TimeJoin_b_ob a0 a1
def s_impl_TimeJoin : Spec := ⟨[(.st .time), (.st .time)], .one .fr (.st .time), false, fun x => (v_impl_TimeJoin x.1 x.2.1, 0), fun x => p_impl_TimeJoin x.1 x.2.1⟩
theorem con_impl_TimeJoin (G : Good Try.prog tt sp_impl_TimeJoin) : Con Try.prog 179 s_impl_TimeJoin :=
  con_run (pts := [(.st .time), (.st .time)]) (rt := .one .fr (.st .time)) (o := fun x => impl_TimeJoin_b x.1 x.2.1) (ob := fun x => impl_TimeJoin_b_ob x.1 x.2.1) G (fn := Try.f179) (c := bodyOf Try.f179) (by kernel_rfl) (by kernel_rfl) (by kernel_rfl) (rs := [.cell 4 74]) (fz := F179.fz) (by kernel_rfl) (by kernel_rfl) (fun _ => rfl) rfl (fun x => impl_TimeJoin_b_S x.1 x.2.1) (fun _ => ⟨rfl, rfl, rfl, rfl, rfl⟩) (fun x _ => impl_TimeJoin_b_ok G x.1 x.2.1)

def sp_impl_flowJoin : SP := [(178, s_impl_joinedVal), (179, s_impl_TimeJoin), (91, s_impl_batch)]
abbrev F154 : Fnn := ⟨[.tmp 4, .tmp 5], .tup [(false, (.lst .row)), (true, .bool)], none, []⟩
abbrev rv154 : LR × Bool × Unit → RV := fun q => (some (RT.av (.tup [(false, (.lst .row)), (true, .bool)]) q), .dead)
abbrev Ok154 (fr : Fr) {A X Y Z : Type} (S : SubP (LR × Bool × Unit) A X Y Z) : Prop := SubOk Try.prog tt ⟨Try.f154.ntmps, none, []⟩ fr (bodyOf Try.f154) F154 S
def impl_flowJoin_c5_t (x95 x96 : LR) (x97 : Row) (_x98 : LR) (_x99 _x100 _x101 x102 : Int) : Tr (LR × Bool × Unit) LR Empty Empty Empty :=
  .w [inb x102 (lenI .row x95)] (.c (cmp .eql x97.Key (rd .row x95 x102).Key)
  (.w [(p_impl_joinedVal x97.Val (rd .row x95 x102).Val), (p_impl_TimeJoin x97.At (rd .row x95 x102).At), lim (lenI .row x96) (lenI .row [(Row.mk x97.Key (v_impl_joinedVal x97.Val (rd .row x95 x102).Val) (v_impl_TimeJoin x97.At (rd .row x95 x102).At) (ar .mul .i64 x97.Diff (rd .row x95 x102).Diff))])] (.l (.n (x96 ++ [(Row.mk x97.Key (v_impl_joinedVal x97.Val (rd .row x95 x102).Val) (v_impl_TimeJoin x97.At (rd .row x95 x102).At) (ar .mul .i64 x97.Diff (rd .row x95 x102).Diff))]))))
  (.l (.n x96)))
def impl_flowJoin_c5 := fun x95 x96 x97 x98 x99 x100 x101 x102 => (impl_flowJoin_c5_t x95 x96 x97 x98 x99 x100 x101 x102).val
def impl_flowJoin_c5_ob := fun x95 x96 x97 x98 x99 x100 x101 x102 => (impl_flowJoin_c5_t x95 x96 x97 x98 x99 x100 x101 x102).ob
def impl_flowJoin_c5_S := fun x95 x96 x97 x98 x99 x100 x101 x102 => SubP.mk (impl_flowJoin_c5 x95 x96 x97 x98 x99 x100 x101 x102) (impl_flowJoin_c5_ob x95 x96 x97 x98 x99 x100 x101 x102) [0,1,1,0,0,1,1,0,0,1,1,0,0,1,0,1,1] [(1, .S .row x95), (6, .A .row x96), (8, .box [(.fr, .i x97.Key), (.fr, .i x97.Val), (.fr, .i x97.At.A), (.fr, .i x97.At.B), (.fr, .i x97.Diff)]), (12, .S .row x98), (13, .I x99), (14, .I x100), (18, .S .row x95), (19, .I x101), (20, .I x102)] rv154 (fun q => [(1, .S .row x95), (6, .A .row q), (8, .box [(.fr, .i x97.Key), (.fr, .i x97.Val), (.fr, .i x97.At.A), (.fr, .i x97.At.B), (.fr, .i x97.Diff)]), (12, .S .row x98), (13, .I x99), (14, .I x100), (18, .S .row x95), (19, .I x101), (20, .I x102)]) nE nE nE
theorem impl_flowJoin_c5_ok (G : Good Try.prog tt sp_impl_flowJoin) {fr : Fr} : ∀ x95 x96 x97 x98 x99 x100 x101 x102, Ok154 fr (impl_flowJoin_c5_S x95 x96 x97 x98 x99 x100 x101 x102) :=
  fun x95 x96 x97 x98 x99 x100 x101 x102 => run_ok G [] trivial [(7,[1,6,8,10,12,13,14,18,19,20]),(8,[1,6,8,10,12,13,14,18,19,20,28]),(9,[1,6,8,12,13,14,18,19,20])] [] [] (impl_flowJoin_c5_t x95 x96 x97 x98 x99 x100 x101 x102) rfl rfl (by kernel_rfl)
def impl_flowJoin_c4_r_t (x69 _x70 : LR) (x71 : Row) (x72 : LR) (x73 x74 x75 : Int) (s92 : LR) (s93 : Int) : Tr (LR × Bool × Unit) (LR × Int) LR Empty Empty :=
  .c (cmp .lss s93 x75)
  (.s (impl_flowJoin_c5_S x69 s92 x71 x72 x73 x74 x75 s93) (fun q105 => .l (.n (q105, (ar .add .i64 s93 1)))) nE nE nE)
  (.l (.x s92))
def impl_flowJoin_c4_r := fun x69 x70 x71 x72 x73 x74 x75 s92 s93 => (impl_flowJoin_c4_r_t x69 x70 x71 x72 x73 x74 x75 s92 s93).val
def impl_flowJoin_c4_r_ob := fun x69 x70 x71 x72 x73 x74 x75 s92 s93 => (impl_flowJoin_c4_r_t x69 x70 x71 x72 x73 x74 x75 s92 s93).ob
def impl_flowJoin_c4_r_S := fun x69 x70 x71 x72 x73 x74 x75 s92 s93 => mkRd (impl_flowJoin_c4_r x69 x70 x71 x72 x73 x74 x75 s92 s93) (impl_flowJoin_c4_r_ob x69 x70 x71 x72 x73 x74 x75 s92 s93) [0,0,1,1,0,0,1,1,0,0,1,0,1,1] (fun q => [(1, .S .row x69), (6, .A .row q.1), (8, .box [(.fr, .i x71.Key), (.fr, .i x71.Val), (.fr, .i x71.At.A), (.fr, .i x71.At.B), (.fr, .i x71.Diff)]), (12, .S .row x72), (13, .I x73), (14, .I x74), (18, .S .row x69), (19, .I x75), (20, .I q.2)]) (s92, s93) rv154 (fun q => (2, [(1, .S .row x69), (6, .A .row q), (12, .S .row x72), (13, .I x73), (14, .I x74)])) nE nE
theorem impl_flowJoin_c4_r_ok (G : Good Try.prog tt sp_impl_flowJoin) {fr : Fr} : ∀ x69 x70 x71 x72 x73 x74 x75 s92 s93, Ok154 fr (impl_flowJoin_c4_r_S x69 x70 x71 x72 x73 x74 x75 s92 s93) :=
  fun x69 x70 x71 x72 x73 x74 x75 s92 s93 => run_ok G [([0,1,1,0,0,1,1,0,0,1,1,0,0,1,0,1,1], fun e => ⟨impl_flowJoin_c5_S (gL .row e 1 0) (gL .row e 6 0) (gRow e 8) (gL .row e 12 0) (gI e 13 0) (gI e 14 0) (gI e 19 0) (gI e 20 0)⟩)] ⟨fun _ => ⟨rfl, impl_flowJoin_c5_ok G _ _ _ _ _ _ _ _⟩, trivial⟩ [(6,[1,6,8,12,13,14,18,19,20,21]),(10,[1,6,8,12,13,14,18,19,20])] [] [] (impl_flowJoin_c4_r_t x69 x70 x71 x72 x73 x74 x75 s92 s93) rfl rfl (by kernel_rfl)
def impl_flowJoin_c4 := fun x69 x70 x71 x72 x73 x74 x75 => lpV (fun s : LR × Int => ocLp (impl_flowJoin_c4_r x69 x70 x71 x72 x73 x74 x75 s.1 s.2)) (x70, 0)
def impl_flowJoin_c4_ob := fun x69 x70 x71 x72 x73 x74 x75 => LpT (fun s : LR × Int => ocLp (impl_flowJoin_c4_r x69 x70 x71 x72 x73 x74 x75 s.1 s.2)) (fun s => impl_flowJoin_c4_r_ob x69 x70 x71 x72 x73 x74 x75 s.1 s.2) (x70, 0)
def impl_flowJoin_c4_S := fun x69 x70 x71 x72 x73 x74 x75 => lpS (impl_flowJoin_c4_r_S x69 x70 x71 x72 x73 x74 x75 x70 0) (impl_flowJoin_c4 x69 x70 x71 x72 x73 x74 x75) (impl_flowJoin_c4_ob x69 x70 x71 x72 x73 x74 x75)
theorem impl_flowJoin_c4_ok (G : Good Try.prog tt sp_impl_flowJoin) {fr : Fr} : ∀ x69 x70 x71 x72 x73 x74 x75, Ok154 fr (impl_flowJoin_c4_S x69 x70 x71 x72 x73 x74 x75) :=
  fun x69 x70 x71 x72 x73 x74 x75 => loop_ok (fun s : LR × Int => impl_flowJoin_c4_r_S x69 x70 x71 x72 x73 x74 x75 s.1 s.2) (x70, 0) (fun _ => rfl) (fun _ => ⟨rfl, rfl, rfl, rfl, rfl⟩) (by kernel_rfl) fun _ => impl_flowJoin_c4_r_ok G _ _ _ _ _ _ _ _ _
def impl_flowJoin_c3_t (x64 x65 x66 : LR) (x67 x68 : Int) : Tr (LR × Bool × Unit) LR Empty Empty Empty :=
  .w [inb x68 (lenI .row x66)] (.s (impl_flowJoin_c4_S x64 x65 (rd .row x66 x68) x66 x67 x68 (lenI .row x64)) nE (fun q116 => .l (.n q116)) nE nE)
def impl_flowJoin_c3 := fun x64 x65 x66 x67 x68 => (impl_flowJoin_c3_t x64 x65 x66 x67 x68).val
def impl_flowJoin_c3_ob := fun x64 x65 x66 x67 x68 => (impl_flowJoin_c3_t x64 x65 x66 x67 x68).ob
def impl_flowJoin_c3_S := fun x64 x65 x66 x67 x68 => SubP.mk (impl_flowJoin_c3 x64 x65 x66 x67 x68) (impl_flowJoin_c3_ob x64 x65 x66 x67 x68) [0,1,1,0,0,1,0,1,1] [(1, .S .row x64), (6, .A .row x65), (12, .S .row x66), (13, .I x67), (14, .I x68)] rv154 (fun q => [(1, .S .row x64), (6, .A .row q), (12, .S .row x66), (13, .I x67), (14, .I x68)]) nE nE nE
theorem impl_flowJoin_c3_ok (G : Good Try.prog tt sp_impl_flowJoin) {fr : Fr} : ∀ x64 x65 x66 x67 x68, Ok154 fr (impl_flowJoin_c3_S x64 x65 x66 x67 x68) :=
  fun x64 x65 x66 x67 x68 => run_ok G [([0,1,1,0,0,1,1,0,0,1,0,1,1], fun e => ⟨impl_flowJoin_c4_S (gL .row e 1 0) (gL .row e 6 0) (gRow e 8) (gL .row e 12 0) (gI e 13 0) (gI e 14 0) (gI e 19 0)⟩)] ⟨fun _ => ⟨rfl, impl_flowJoin_c4_ok G _ _ _ _ _ _ _⟩, trivial⟩ [(4,[1,6,8,12,13,14]),(5,[1,6,8,12,13,14,18,19,20])] [] [] (impl_flowJoin_c3_t x64 x65 x66 x67 x68) rfl rfl (by kernel_rfl)
def impl_flowJoin_c2_r_t (x3 x4 : LR) (x5 : Int) (s61 : LR) (s62 : Int) : Tr (LR × Bool × Unit) (LR × Int) LR Empty Empty :=
  .c (cmp .lss s62 x5)
  (.s (impl_flowJoin_c3_S x3 s61 x4 x5 s62) (fun q119 => .l (.n (q119, (ar .add .i64 s62 1)))) nE nE nE)
  (.l (.x s61))
def impl_flowJoin_c2_r := fun x3 x4 x5 s61 s62 => (impl_flowJoin_c2_r_t x3 x4 x5 s61 s62).val
def impl_flowJoin_c2_r_ob := fun x3 x4 x5 s61 s62 => (impl_flowJoin_c2_r_t x3 x4 x5 s61 s62).ob
def impl_flowJoin_c2_r_S := fun x3 x4 x5 s61 s62 => mkRd (impl_flowJoin_c2_r x3 x4 x5 s61 s62) (impl_flowJoin_c2_r_ob x3 x4 x5 s61 s62) [0,0,1,0,1,1] (fun q => [(1, .S .row x3), (6, .A .row q.1), (12, .S .row x4), (13, .I x5), (14, .I q.2)]) (s61, s62) rv154 (fun q => (0, [(6, .A .row q)])) nE nE
theorem impl_flowJoin_c2_r_ok (G : Good Try.prog tt sp_impl_flowJoin) {fr : Fr} : ∀ x3 x4 x5 s61 s62, Ok154 fr (impl_flowJoin_c2_r_S x3 x4 x5 s61 s62) :=
  fun x3 x4 x5 s61 s62 => run_ok G [([0,1,1,0,0,1,0,1,1], fun e => ⟨impl_flowJoin_c3_S (gL .row e 1 0) (gL .row e 6 0) (gL .row e 12 0) (gI e 13 0) (gI e 14 0)⟩)] ⟨fun _ => ⟨rfl, impl_flowJoin_c3_ok G _ _ _ _ _⟩, trivial⟩ [(3,[1,6,12,13,14,15]),(11,[1,6,12,13,14])] [] [] (impl_flowJoin_c2_r_t x3 x4 x5 s61 s62) rfl rfl (by kernel_rfl)
def impl_flowJoin_c2 := fun x3 x4 x5 => lpV (fun s : LR × Int => ocLp (impl_flowJoin_c2_r x3 x4 x5 s.1 s.2)) ([], 0)
def impl_flowJoin_c2_ob := fun x3 x4 x5 => LpT (fun s : LR × Int => ocLp (impl_flowJoin_c2_r x3 x4 x5 s.1 s.2)) (fun s => impl_flowJoin_c2_r_ob x3 x4 x5 s.1 s.2) ([], 0)
def impl_flowJoin_c2_S := fun x3 x4 x5 => lpS (impl_flowJoin_c2_r_S x3 x4 x5 [] 0) (impl_flowJoin_c2 x3 x4 x5) (impl_flowJoin_c2_ob x3 x4 x5)
theorem impl_flowJoin_c2_ok (G : Good Try.prog tt sp_impl_flowJoin) {fr : Fr} : ∀ x3 x4 x5, Ok154 fr (impl_flowJoin_c2_S x3 x4 x5) :=
  fun x3 x4 x5 => loop_ok (fun s : LR × Int => impl_flowJoin_c2_r_S x3 x4 x5 s.1 s.2) ([], 0) (fun _ => rfl) (fun _ => ⟨rfl, rfl, rfl, rfl, rfl⟩) (by kernel_rfl) fun _ => impl_flowJoin_c2_r_ok G _ _ _ _ _
def impl_flowJoin_c1_t (x1 x2 : LR) : Tr (LR × Bool × Unit) LR Empty Empty Empty :=
  .s (impl_flowJoin_c2_S x2 x1 (lenI .row x1)) nE (fun q130 => .l (.n q130)) nE nE
def impl_flowJoin_c1 := fun x1 x2 => (impl_flowJoin_c1_t x1 x2).val
def impl_flowJoin_c1_ob := fun x1 x2 => (impl_flowJoin_c1_t x1 x2).ob
def impl_flowJoin_c1_S := fun x1 x2 => SubP.mk (impl_flowJoin_c1 x1 x2) (impl_flowJoin_c1_ob x1 x2) [0,1,1] [(0, .S .row x1), (1, .S .row x2), (6, .A .row [])] rv154 (fun q => [(6, .A .row q)]) nE nE nE
theorem impl_flowJoin_c1_ok (G : Good Try.prog tt sp_impl_flowJoin) {fr : Fr} : ∀ x1 x2, Ok154 fr (impl_flowJoin_c1_S x1 x2) :=
  fun x1 x2 => run_ok G [([0,1,0,1,1], fun e => ⟨impl_flowJoin_c2_S (gL .row e 1 0) (gL .row e 12 0) (gI e 13 0)⟩)] ⟨fun _ => ⟨rfl, impl_flowJoin_c2_ok G _ _ _⟩, trivial⟩ [(2,[1,6,12,13,14])] [] [] (impl_flowJoin_c1_t x1 x2) rfl rfl (by kernel_rfl)
def impl_flowJoin_b_t (a0 a1 : LR) : Tr (LR × Bool × Unit) Empty Empty Empty Empty :=
  .s (impl_flowJoin_c1_S a0 a1) (fun q133 => .w [(p_impl_batch q133)] (.l (.r ((v_impl_batch q133).1, ((v_impl_batch q133).2.1, ()))))) nE nE nE
def impl_flowJoin_b := fun a0 a1 => (impl_flowJoin_b_t a0 a1).val
def impl_flowJoin_b_ob := fun a0 a1 => (impl_flowJoin_b_t a0 a1).ob
def impl_flowJoin_b_S := fun a0 a1 => SubP.mk (impl_flowJoin_b a0 a1) (impl_flowJoin_b_ob a0 a1) [] [(0, .S .row a0), (1, .S .row a1)] rv154 nE nE nE nE
theorem impl_flowJoin_b_ok (G : Good Try.prog tt sp_impl_flowJoin) {fr : Fr} : ∀ a0 a1, Ok154 fr (impl_flowJoin_b_S a0 a1) :=
  fun a0 a1 => run_ok G [([0,1,1], fun e => ⟨impl_flowJoin_c1_S (gL .row e 0 0) (gL .row e 1 0)⟩)] ⟨fun _ => ⟨rfl, impl_flowJoin_c1_ok G _ _⟩, trivial⟩ [(0,[0,1]),(1,[0,1,6]),(12,[4,5])] [] [] (impl_flowJoin_b_t a0 a1) rfl rfl (by kernel_rfl)
def v_impl_flowJoin (a0 : LR) (a1 : LR) : LR × Bool × Unit := ocR (impl_flowJoin_b a0 a1)
def p_impl_flowJoin (a0 : LR) (a1 : LR) : Prop := impl_flowJoin_b_ob a0 a1
def s_impl_flowJoin : Spec := ⟨[(.lst .row), (.lst .row)], .tup [(false, (.lst .row)), (true, .bool)], false, fun x => (v_impl_flowJoin x.1 x.2.1, 0), fun x => p_impl_flowJoin x.1 x.2.1⟩
theorem con_impl_flowJoin (G : Good Try.prog tt sp_impl_flowJoin) : Con Try.prog 154 s_impl_flowJoin :=
  con_run (pts := [(.lst .row), (.lst .row)]) (rt := .tup [(false, (.lst .row)), (true, .bool)]) (o := fun x => impl_flowJoin_b x.1 x.2.1) (ob := fun x => impl_flowJoin_b_ob x.1 x.2.1) G (fn := Try.f154) (c := bodyOf Try.f154) (by kernel_rfl) (by kernel_rfl) (by kernel_rfl) (rs := [.tmp 4, .tmp 5]) (fz := F154.fz) (by kernel_rfl) (by kernel_rfl) (fun _ => rfl) rfl (fun x => impl_flowJoin_b_S x.1 x.2.1) (fun _ => ⟨rfl, rfl, rfl, rfl, rfl⟩) (fun x _ => impl_flowJoin_b_ok G x.1 x.2.1)

def sp_impl_below : SP := []
abbrev F133 : Fnn := ⟨[.tmp 4], .one .fr .bool, none, []⟩
abbrev rv133 : Bool → RV := fun q => (some (RT.av (.one .fr .bool) q), .dead)
abbrev Ok133 (fr : Fr) {A X Y Z : Type} (S : SubP Bool A X Y Z) : Prop := SubOk Try.prog tt ⟨Try.f133.ntmps, none, []⟩ fr (bodyOf Try.f133) F133 S
def impl_below_b_t (a0 a1 : Time) : Tr Bool Empty Empty Empty Empty :=
  .l (.r (cond (cmp .leq a0.A a1.A) (cmp .leq a0.B a1.B) false))
def impl_below_b := fun a0 a1 => (impl_below_b_t a0 a1).val
def impl_below_b_ob := fun a0 a1 => (impl_below_b_t a0 a1).ob
def impl_below_b_S := fun a0 a1 => SubP.mk (impl_below_b a0 a1) (impl_below_b_ob a0 a1) [] [(0, .agg true [.i a0.A, .i a0.B]), (1, .agg true [.i a1.A, .i a1.B])] rv133 nE nE nE nE
theorem impl_below_b_ok (G : Good Try.prog tt sp_impl_below) {fr : Fr} : ∀ a0 a1, Ok133 fr (impl_below_b_S a0 a1) :=
  fun a0 a1 => run_ok G [] trivial [(0,[2,3]),(1,[4])] [] [] (impl_below_b_t a0 a1) rfl rfl (by kernel_rfl)
def v_impl_below (a0 : Time) (a1 : Time) : Bool := ocR (impl_below_b a0 a1)
def p_impl_below (a0 : Time) (a1 : Time) : Prop := impl_below_b_ob a0 a1
def s_impl_below : Spec := ⟨[(.st .time), (.st .time)], .one .fr .bool, false, fun x => (v_impl_below x.1 x.2.1, 0), fun x => p_impl_below x.1 x.2.1⟩
theorem con_impl_below (G : Good Try.prog tt sp_impl_below) : Con Try.prog 133 s_impl_below :=
  con_run (pts := [(.st .time), (.st .time)]) (rt := .one .fr .bool) (o := fun x => impl_below_b x.1 x.2.1) (ob := fun x => impl_below_b_ob x.1 x.2.1) G (fn := Try.f133) (c := bodyOf Try.f133) (by kernel_rfl) (by kernel_rfl) (by kernel_rfl) (rs := [.tmp 4]) (fz := F133.fz) (by kernel_rfl) (by kernel_rfl) (fun _ => rfl) rfl (fun x => impl_below_b_S x.1 x.2.1) (fun _ => ⟨rfl, rfl, rfl, rfl, rfl⟩) (fun x _ => impl_below_b_ok G x.1 x.2.1)

def sp_impl_present : SP := [(133, s_impl_below), (107, s_impl_gathered)]
abbrev F106 : Fnn := ⟨[.tmp 4], .one .fr (.lst .item), none, []⟩
abbrev rv106 : LI → RV := fun q => (some (RT.av (.one .fr (.lst .item)) q), .dead)
abbrev Ok106 (fr : Fr) {A X Y Z : Type} (S : SubP LI A X Y Z) : Prop := SubOk Try.prog tt ⟨Try.f106.ntmps, none, []⟩ fr (bodyOf Try.f106) F106 S
def impl_present_c3_t (x21 : Time) (x22 : LI) (x23 : LR) (_x24 x25 : Int) : Tr LI LI Empty Empty Empty :=
  .w [inb x25 (lenI .row x23)] (.w [(p_impl_below (rd .row x23 x25).At x21)] (.c (v_impl_below (rd .row x23 x25).At x21)
  (.w [lim (lenI .item x22) (lenI .item [(Item.mk (rd .row x23 x25).Key (rd .row x23 x25).Val (rd .row x23 x25).Diff)])] (.l (.n (x22 ++ [(Item.mk (rd .row x23 x25).Key (rd .row x23 x25).Val (rd .row x23 x25).Diff)]))))
  (.l (.n x22))))
def impl_present_c3 := fun x21 x22 x23 x24 x25 => (impl_present_c3_t x21 x22 x23 x24 x25).val
def impl_present_c3_ob := fun x21 x22 x23 x24 x25 => (impl_present_c3_t x21 x22 x23 x24 x25).ob
def impl_present_c3_S := fun x21 x22 x23 x24 x25 => SubP.mk (impl_present_c3 x21 x22 x23 x24 x25) (impl_present_c3_ob x21 x22 x23 x24 x25) [0,1,1,0,0,1,0,1,1] [(3, .box [(.fr, .i x21.A), (.fr, .i x21.B)]), (5, .A .item x22), (9, .S .row x23), (10, .I x24), (11, .I x25)] rv106 (fun q => [(3, .box [(.fr, .i x21.A), (.fr, .i x21.B)]), (5, .A .item q), (9, .S .row x23), (10, .I x24), (11, .I x25)]) nE nE nE
theorem impl_present_c3_ok (G : Good Try.prog tt sp_impl_present) {fr : Fr} : ∀ x21 x22 x23 x24 x25, Ok106 fr (impl_present_c3_S x21 x22 x23 x24 x25) :=
  fun x21 x22 x23 x24 x25 => run_ok G [] trivial [(4,[3,5,7,9,10,11]),(5,[3,5,7,9,10,11,18]),(6,[3,5,9,10,11])] [] [] (impl_present_c3_t x21 x22 x23 x24 x25) rfl rfl (by kernel_rfl)
def impl_present_c2_r_t (x3 : Time) (x4 : LR) (x5 : Int) (s18 : LI) (s19 : Int) : Tr LI (LI × Int) LI Empty Empty :=
  .c (cmp .lss s19 x5)
  (.s (impl_present_c3_S x3 s18 x4 x5 s19) (fun q28 => .l (.n (q28, (ar .add .i64 s19 1)))) nE nE nE)
  (.l (.x s18))
def impl_present_c2_r := fun x3 x4 x5 s18 s19 => (impl_present_c2_r_t x3 x4 x5 s18 s19).val
def impl_present_c2_r_ob := fun x3 x4 x5 s18 s19 => (impl_present_c2_r_t x3 x4 x5 s18 s19).ob
def impl_present_c2_r_S := fun x3 x4 x5 s18 s19 => mkRd (impl_present_c2_r x3 x4 x5 s18 s19) (impl_present_c2_r_ob x3 x4 x5 s18 s19) [0,0,1,0,1,1] (fun q => [(3, .box [(.fr, .i x3.A), (.fr, .i x3.B)]), (5, .A .item q.1), (9, .S .row x4), (10, .I x5), (11, .I q.2)]) (s18, s19) rv106 (fun q => (0, [(5, .A .item q)])) nE nE
theorem impl_present_c2_r_ok (G : Good Try.prog tt sp_impl_present) {fr : Fr} : ∀ x3 x4 x5 s18 s19, Ok106 fr (impl_present_c2_r_S x3 x4 x5 s18 s19) :=
  fun x3 x4 x5 s18 s19 => run_ok G [([0,1,1,0,0,1,0,1,1], fun e => ⟨impl_present_c3_S (gTime e 3) (gL .item e 5 0) (gL .row e 9 0) (gI e 10 0) (gI e 11 0)⟩)] ⟨fun _ => ⟨rfl, impl_present_c3_ok G _ _ _ _ _⟩, trivial⟩ [(3,[3,5,9,10,11,12]),(7,[3,5,9,10,11])] [] [] (impl_present_c2_r_t x3 x4 x5 s18 s19) rfl rfl (by kernel_rfl)
def impl_present_c2 := fun x3 x4 x5 => lpV (fun s : LI × Int => ocLp (impl_present_c2_r x3 x4 x5 s.1 s.2)) ([], 0)
def impl_present_c2_ob := fun x3 x4 x5 => LpT (fun s : LI × Int => ocLp (impl_present_c2_r x3 x4 x5 s.1 s.2)) (fun s => impl_present_c2_r_ob x3 x4 x5 s.1 s.2) ([], 0)
def impl_present_c2_S := fun x3 x4 x5 => lpS (impl_present_c2_r_S x3 x4 x5 [] 0) (impl_present_c2 x3 x4 x5) (impl_present_c2_ob x3 x4 x5)
theorem impl_present_c2_ok (G : Good Try.prog tt sp_impl_present) {fr : Fr} : ∀ x3 x4 x5, Ok106 fr (impl_present_c2_S x3 x4 x5) :=
  fun x3 x4 x5 => loop_ok (fun s : LI × Int => impl_present_c2_r_S x3 x4 x5 s.1 s.2) ([], 0) (fun _ => rfl) (fun _ => ⟨rfl, rfl, rfl, rfl, rfl⟩) (by kernel_rfl) fun _ => impl_present_c2_r_ok G _ _ _ _ _
def impl_present_c1_t (x1 : LR) (x2 : Time) : Tr LI LI Empty Empty Empty :=
  .s (impl_present_c2_S x2 x1 (lenI .row x1)) nE (fun q39 => .l (.n q39)) nE nE
def impl_present_c1 := fun x1 x2 => (impl_present_c1_t x1 x2).val
def impl_present_c1_ob := fun x1 x2 => (impl_present_c1_t x1 x2).ob
def impl_present_c1_S := fun x1 x2 => SubP.mk (impl_present_c1 x1 x2) (impl_present_c1_ob x1 x2) [0,1,1] [(0, .S .row x1), (3, .box [(.fr, .i x2.A), (.fr, .i x2.B)]), (5, .A .item [])] rv106 (fun q => [(5, .A .item q)]) nE nE nE
theorem impl_present_c1_ok (G : Good Try.prog tt sp_impl_present) {fr : Fr} : ∀ x1 x2, Ok106 fr (impl_present_c1_S x1 x2) :=
  fun x1 x2 => run_ok G [([0,1,0,1,1], fun e => ⟨impl_present_c2_S (gTime e 3) (gL .row e 9 0) (gI e 10 0)⟩)] ⟨fun _ => ⟨rfl, impl_present_c2_ok G _ _ _⟩, trivial⟩ [(2,[3,5,9,10,11])] [] [] (impl_present_c1_t x1 x2) rfl rfl (by kernel_rfl)
def impl_present_b_t (a0 : LR) (a1 : Time) : Tr LI Empty Empty Empty Empty :=
  .s (impl_present_c1_S a0 a1) (fun q42 => .w [(p_impl_gathered q42)] (.l (.r (v_impl_gathered q42)))) nE nE nE
def impl_present_b := fun a0 a1 => (impl_present_b_t a0 a1).val
def impl_present_b_ob := fun a0 a1 => (impl_present_b_t a0 a1).ob
def impl_present_b_S := fun a0 a1 => SubP.mk (impl_present_b a0 a1) (impl_present_b_ob a0 a1) [] [(0, .S .row a0), (1, .agg true [.i a1.A, .i a1.B])] rv106 nE nE nE nE
theorem impl_present_b_ok (G : Good Try.prog tt sp_impl_present) {fr : Fr} : ∀ a0 a1, Ok106 fr (impl_present_b_S a0 a1) :=
  fun a0 a1 => run_ok G [([0,1,1], fun e => ⟨impl_present_c1_S (gL .row e 0 0) (gTime e 3)⟩)] ⟨fun _ => ⟨rfl, impl_present_c1_ok G _ _⟩, trivial⟩ [(0,[0,3]),(1,[0,3,5]),(8,[4])] [] [] (impl_present_b_t a0 a1) rfl rfl (by kernel_rfl)
def v_impl_present (a0 : LR) (a1 : Time) : LI := ocR (impl_present_b a0 a1)
def p_impl_present (a0 : LR) (a1 : Time) : Prop := impl_present_b_ob a0 a1
def s_impl_present : Spec := ⟨[(.lst .row), (.st .time)], .one .fr (.lst .item), false, fun x => (v_impl_present x.1 x.2.1, 0), fun x => p_impl_present x.1 x.2.1⟩
theorem con_impl_present (G : Good Try.prog tt sp_impl_present) : Con Try.prog 106 s_impl_present :=
  con_run (pts := [(.lst .row), (.st .time)]) (rt := .one .fr (.lst .item)) (o := fun x => impl_present_b x.1 x.2.1) (ob := fun x => impl_present_b_ob x.1 x.2.1) G (fn := Try.f106) (c := bodyOf Try.f106) (by kernel_rfl) (by kernel_rfl) (by kernel_rfl) (rs := [.tmp 4]) (fz := F106.fz) (by kernel_rfl) (by kernel_rfl) (fun _ => rfl) rfl (fun x => impl_present_b_S x.1 x.2.1) (fun _ => ⟨rfl, rfl, rfl, rfl, rfl⟩) (fun x _ => impl_present_b_ok G x.1 x.2.1)

def sp_impl_counted : SP := []
abbrev F188 : Fnn := ⟨[.tmp 2], .one (.acc true) (.lst .item), none, []⟩
abbrev rv188 : LI → RV := fun q => (some (RT.av (.one (.acc true) (.lst .item)) q), .dead)
abbrev Ok188 (fr : Fr) {A X Y Z : Type} (S : SubP LI A X Y Z) : Prop := SubOk Try.prog tt ⟨Try.f188.ntmps, none, []⟩ fr (bodyOf Try.f188) F188 S
def impl_counted_c6_t (x83 _x84 : LI) (x85 x86 _x87 x88 : Int) : Tr LI Int Empty Empty Empty :=
  .w [inb x88 (lenI .item x83)] (.c (cmp .eql (rd .item x83 x88).Key x85)
  (.l (.n (ar .add .i64 x86 (rd .item x83 x88).Count)))
  (.l (.n x86)))
def impl_counted_c6 := fun x83 x84 x85 x86 x87 x88 => (impl_counted_c6_t x83 x84 x85 x86 x87 x88).val
def impl_counted_c6_ob := fun x83 x84 x85 x86 x87 x88 => (impl_counted_c6_t x83 x84 x85 x86 x87 x88).ob
def impl_counted_c6_S := fun x83 x84 x85 x86 x87 x88 => SubP.mk (impl_counted_c6 x83 x84 x85 x86 x87 x88) (impl_counted_c6_ob x83 x84 x85 x86 x87 x88) [0,1,1,0,0,1,0,1,0,0,1,0,0,1,0,1,1] [(0, .S .item x83), (3, .A .item x84), (4, .I x85), (5, .I x86), (13, .S .item x83), (14, .I x87), (15, .I x88)] rv188 (fun q => [(0, .S .item x83), (3, .A .item x84), (4, .I x85), (5, .I q), (13, .S .item x83), (14, .I x87), (15, .I x88)]) nE nE nE
theorem impl_counted_c6_ok (G : Good Try.prog tt sp_impl_counted) {fr : Fr} : ∀ x83 x84 x85 x86 x87 x88, Ok188 fr (impl_counted_c6_S x83 x84 x85 x86 x87 x88) :=
  fun x83 x84 x85 x86 x87 x88 => run_ok G [] trivial [(8,[0,3,4,5,7,13,14,15]),(9,[0,3,4,5,7,13,14,15,22]),(10,[0,3,4,5,13,14,15])] [] [] (impl_counted_c6_t x83 x84 x85 x86 x87 x88) rfl rfl (by kernel_rfl)
def impl_counted_c5_r_t (x63 x64 : LI) (x65 x66 s80 s81 : Int) : Tr LI (Int × Int) Int Empty Empty :=
  .c (cmp .lss s81 x66)
  (.s (impl_counted_c6_S x63 x64 x65 s80 x66 s81) (fun q91 => .l (.n (q91, (ar .add .i64 s81 1)))) nE nE nE)
  (.l (.x s80))
def impl_counted_c5_r := fun x63 x64 x65 x66 s80 s81 => (impl_counted_c5_r_t x63 x64 x65 x66 s80 s81).val
def impl_counted_c5_r_ob := fun x63 x64 x65 x66 s80 s81 => (impl_counted_c5_r_t x63 x64 x65 x66 s80 s81).ob
def impl_counted_c5_r_S := fun x63 x64 x65 x66 s80 s81 => mkRd (impl_counted_c5_r x63 x64 x65 x66 s80 s81) (impl_counted_c5_r_ob x63 x64 x65 x66 s80 s81) [0,0,1,0,1,0,0,1,0,0,1,0,1,1] (fun q => [(0, .S .item x63), (3, .A .item x64), (4, .I x65), (5, .I q.1), (13, .S .item x63), (14, .I x66), (15, .I q.2)]) (s80, s81) rv188 (fun q => (2, [(0, .S .item x63), (3, .A .item x64), (4, .I x65), (5, .I q)])) nE nE
theorem impl_counted_c5_r_ok (G : Good Try.prog tt sp_impl_counted) {fr : Fr} : ∀ x63 x64 x65 x66 s80 s81, Ok188 fr (impl_counted_c5_r_S x63 x64 x65 x66 s80 s81) :=
  fun x63 x64 x65 x66 s80 s81 => run_ok G [([0,1,1,0,0,1,0,1,0,0,1,0,0,1,0,1,1], fun e => ⟨impl_counted_c6_S (gL .item e 0 0) (gL .item e 3 0) (gI e 4 0) (gI e 5 0) (gI e 14 0) (gI e 15 0)⟩)] ⟨fun _ => ⟨rfl, impl_counted_c6_ok G _ _ _ _ _ _⟩, trivial⟩ [(7,[0,3,4,5,13,14,15,16]),(11,[0,3,4,5,13,14,15])] [] [] (impl_counted_c5_r_t x63 x64 x65 x66 s80 s81) rfl rfl (by kernel_rfl)
def impl_counted_c5 := fun x63 x64 x65 x66 => lpV (fun s : Int × Int => ocLp (impl_counted_c5_r x63 x64 x65 x66 s.1 s.2)) (0, 0)
def impl_counted_c5_ob := fun x63 x64 x65 x66 => LpT (fun s : Int × Int => ocLp (impl_counted_c5_r x63 x64 x65 x66 s.1 s.2)) (fun s => impl_counted_c5_r_ob x63 x64 x65 x66 s.1 s.2) (0, 0)
def impl_counted_c5_S := fun x63 x64 x65 x66 => lpS (impl_counted_c5_r_S x63 x64 x65 x66 0 0) (impl_counted_c5 x63 x64 x65 x66) (impl_counted_c5_ob x63 x64 x65 x66)
theorem impl_counted_c5_ok (G : Good Try.prog tt sp_impl_counted) {fr : Fr} : ∀ x63 x64 x65 x66, Ok188 fr (impl_counted_c5_S x63 x64 x65 x66) :=
  fun x63 x64 x65 x66 => loop_ok (fun s : Int × Int => impl_counted_c5_r_S x63 x64 x65 x66 s.1 s.2) (0, 0) (fun _ => rfl) (fun _ => ⟨rfl, rfl, rfl, rfl, rfl⟩) (by kernel_rfl) fun _ => impl_counted_c5_r_ok G _ _ _ _ _ _
def impl_counted_c4_t (x60 x61 : LI) (x62 : Int) : Tr LI Int Empty Empty Empty :=
  .s (impl_counted_c5_S x60 x61 x62 (lenI .item x60)) nE (fun q102 => .l (.n q102)) nE nE
def impl_counted_c4 := fun x60 x61 x62 => (impl_counted_c4_t x60 x61 x62).val
def impl_counted_c4_ob := fun x60 x61 x62 => (impl_counted_c4_t x60 x61 x62).ob
def impl_counted_c4_S := fun x60 x61 x62 => SubP.mk (impl_counted_c4 x60 x61 x62) (impl_counted_c4_ob x60 x61 x62) [0,1,0,0,1,0,0,1,0,1,1] [(0, .S .item x60), (3, .A .item x61), (4, .I x62), (5, .I 0)] rv188 (fun q => [(0, .S .item x60), (3, .A .item x61), (4, .I x62), (5, .I q)]) nE nE nE
theorem impl_counted_c4_ok (G : Good Try.prog tt sp_impl_counted) {fr : Fr} : ∀ x60 x61 x62, Ok188 fr (impl_counted_c4_S x60 x61 x62) :=
  fun x60 x61 x62 => run_ok G [([0,1,0,1,0,0,1,0,0,1,0,1,1], fun e => ⟨impl_counted_c5_S (gL .item e 0 0) (gL .item e 3 0) (gI e 4 0) (gI e 14 0)⟩)] ⟨fun _ => ⟨rfl, impl_counted_c5_ok G _ _ _ _⟩, trivial⟩ [(6,[0,3,4,5,13,14,15])] [] [] (impl_counted_c4_t x60 x61 x62) rfl rfl (by kernel_rfl)
def impl_counted_c3_t (x57 x58 : LI) (x59 : Int) : Tr LI LI Empty Empty Empty :=
  .s (impl_counted_c4_S x57 x58 x59) (fun q105 => .c (cmp .neq q105 0)
  (.w [(100 : Int) ≠ 0, (100 : Int) ≠ 0, lim (lenI .item x58) (lenI .item [(Item.mk x59 (ar .rem .i64 (ar .add .i64 (ar .rem .i64 q105 100) 100) 100) 1)])] (.l (.n (x58 ++ [(Item.mk x59 (ar .rem .i64 (ar .add .i64 (ar .rem .i64 q105 100) 100) 100) 1)]))))
  (.l (.n x58))) nE nE nE
def impl_counted_c3 := fun x57 x58 x59 => (impl_counted_c3_t x57 x58 x59).val
def impl_counted_c3_ob := fun x57 x58 x59 => (impl_counted_c3_t x57 x58 x59).ob
def impl_counted_c3_S := fun x57 x58 x59 => SubP.mk (impl_counted_c3 x57 x58 x59) (impl_counted_c3_ob x57 x58 x59) [0,1,0,0,1,0,1,1] [(0, .S .item x57), (3, .A .item x58), (4, .I x59)] rv188 (fun q => [(0, .S .item x57), (3, .A .item q), (4, .I x59)]) nE nE nE
theorem impl_counted_c3_ok (G : Good Try.prog tt sp_impl_counted) {fr : Fr} : ∀ x57 x58 x59, Ok188 fr (impl_counted_c3_S x57 x58 x59) :=
  fun x57 x58 x59 => run_ok G [([0,1,0,0,1,0,0,1,0,1,1], fun e => ⟨impl_counted_c4_S (gL .item e 0 0) (gL .item e 3 0) (gI e 4 0)⟩)] ⟨fun _ => ⟨rfl, impl_counted_c4_ok G _ _ _⟩, trivial⟩ [(5,[0,3,4,5]),(12,[0,3,4,5,29]),(13,[0,3,4])] [] [] (impl_counted_c3_t x57 x58 x59) rfl rfl (by kernel_rfl)
def impl_counted_c2_r_t (x2 s54 : LI) (s55 : Int) : Tr LI (LI × Int) LI Empty Empty :=
  .c (cmp .lss s55 4)
  (.s (impl_counted_c3_S x2 s54 s55) (fun q111 => .l (.n (q111, (ar .add .i64 s55 1)))) nE nE nE)
  (.l (.x s54))
def impl_counted_c2_r := fun x2 s54 s55 => (impl_counted_c2_r_t x2 s54 s55).val
def impl_counted_c2_r_ob := fun x2 s54 s55 => (impl_counted_c2_r_t x2 s54 s55).ob
def impl_counted_c2_r_S := fun x2 s54 s55 => mkRd (impl_counted_c2_r x2 s54 s55) (impl_counted_c2_r_ob x2 s54 s55) [0,0,1,0,1,1] (fun q => [(0, .S .item x2), (3, .A .item q.1), (4, .I q.2)]) (s54, s55) rv188 (fun q => (0, [(3, .A .item q)])) nE nE
theorem impl_counted_c2_r_ok (G : Good Try.prog tt sp_impl_counted) {fr : Fr} : ∀ x2 s54 s55, Ok188 fr (impl_counted_c2_r_S x2 s54 s55) :=
  fun x2 s54 s55 => run_ok G [([0,1,0,0,1,0,1,1], fun e => ⟨impl_counted_c3_S (gL .item e 0 0) (gL .item e 3 0) (gI e 4 0)⟩)] ⟨fun _ => ⟨rfl, impl_counted_c3_ok G _ _ _⟩, trivial⟩ [(3,[0,3,4,10]),(4,[0,3,4])] [] [] (impl_counted_c2_r_t x2 s54 s55) rfl rfl (by kernel_rfl)
def impl_counted_c2 := fun x2 => lpV (fun s : LI × Int => ocLp (impl_counted_c2_r x2 s.1 s.2)) ([], 0)
def impl_counted_c2_ob := fun x2 => LpT (fun s : LI × Int => ocLp (impl_counted_c2_r x2 s.1 s.2)) (fun s => impl_counted_c2_r_ob x2 s.1 s.2) ([], 0)
def impl_counted_c2_S := fun x2 => lpS (impl_counted_c2_r_S x2 [] 0) (impl_counted_c2 x2) (impl_counted_c2_ob x2)
theorem impl_counted_c2_ok (G : Good Try.prog tt sp_impl_counted) {fr : Fr} : ∀ x2, Ok188 fr (impl_counted_c2_S x2) :=
  fun x2 => loop_ok (fun s : LI × Int => impl_counted_c2_r_S x2 s.1 s.2) ([], 0) (fun _ => rfl) (fun _ => ⟨rfl, rfl, rfl, rfl, rfl⟩) (by kernel_rfl) fun _ => impl_counted_c2_r_ok G _ _ _
def impl_counted_c1_t (x1 : LI) : Tr LI LI Empty Empty Empty :=
  .s (impl_counted_c2_S x1) nE (fun q122 => .l (.n q122)) nE nE
def impl_counted_c1 := fun x1 => (impl_counted_c1_t x1).val
def impl_counted_c1_ob := fun x1 => (impl_counted_c1_t x1).ob
def impl_counted_c1_S := fun x1 => SubP.mk (impl_counted_c1 x1) (impl_counted_c1_ob x1) [0,1,1] [(0, .S .item x1), (3, .A .item [])] rv188 (fun q => [(3, .A .item q)]) nE nE nE
theorem impl_counted_c1_ok (G : Good Try.prog tt sp_impl_counted) {fr : Fr} : ∀ x1, Ok188 fr (impl_counted_c1_S x1) :=
  fun x1 => run_ok G [([0,1,0,1,1], fun e => ⟨impl_counted_c2_S (gL .item e 0 0)⟩)] ⟨fun _ => ⟨rfl, impl_counted_c2_ok G _⟩, trivial⟩ [(2,[0,3,4])] [] [] (impl_counted_c1_t x1) rfl rfl (by kernel_rfl)
def impl_counted_b_t (a0 : LI) : Tr LI Empty Empty Empty Empty :=
  .s (impl_counted_c1_S a0) (fun q125 => .l (.r q125)) nE nE nE
def impl_counted_b := fun a0 => (impl_counted_b_t a0).val
def impl_counted_b_ob := fun a0 => (impl_counted_b_t a0).ob
def impl_counted_b_S := fun a0 => SubP.mk (impl_counted_b a0) (impl_counted_b_ob a0) [] [(0, .S .item a0)] rv188 nE nE nE nE
theorem impl_counted_b_ok (G : Good Try.prog tt sp_impl_counted) {fr : Fr} : ∀ a0, Ok188 fr (impl_counted_b_S a0) :=
  fun a0 => run_ok G [([0,1,1], fun e => ⟨impl_counted_c1_S (gL .item e 0 0)⟩)] ⟨fun _ => ⟨rfl, impl_counted_c1_ok G _⟩, trivial⟩ [(0,[0]),(1,[0,3]),(14,[2])] [] [] (impl_counted_b_t a0) rfl rfl (by kernel_rfl)
def v_impl_counted (a0 : LI) : LI := ocR (impl_counted_b a0)
def p_impl_counted (a0 : LI) : Prop := impl_counted_b_ob a0
def s_impl_counted : Spec := ⟨[(.lst .item)], .one (.acc true) (.lst .item), false, fun x => (v_impl_counted x.1, 0), fun x => p_impl_counted x.1⟩
theorem con_impl_counted (G : Good Try.prog tt sp_impl_counted) : Con Try.prog 188 s_impl_counted :=
  con_run (pts := [(.lst .item)]) (rt := .one (.acc true) (.lst .item)) (o := fun x => impl_counted_b x.1) (ob := fun x => impl_counted_b_ob x.1) G (fn := Try.f188) (c := bodyOf Try.f188) (by kernel_rfl) (by kernel_rfl) (by kernel_rfl) (rs := [.tmp 2]) (fz := F188.fz) (by kernel_rfl) (by kernel_rfl) (fun _ => rfl) rfl (fun x => impl_counted_b_S x.1) (fun _ => ⟨rfl, rfl, rfl, rfl, rfl⟩) (fun x _ => impl_counted_b_ok G x.1)

def sp_impl_once : SP := []
abbrev F125 : Fnn := ⟨[.tmp 2], .one (.acc true) (.lst .item), none, []⟩
abbrev rv125 : LI → RV := fun q => (some (RT.av (.one (.acc true) (.lst .item)) q), .dead)
abbrev Ok125 (fr : Fr) {A X Y Z : Type} (S : SubP LI A X Y Z) : Prop := SubOk Try.prog tt ⟨Try.f125.ntmps, none, []⟩ fr (bodyOf Try.f125) F125 S
def impl_once_c3_t (x18 x19 : LI) (_x20 x21 : Int) : Tr LI LI Empty Empty Empty :=
  .w [inb x21 (lenI .item x19)] (.c (cmp .gtr (rd .item x19 x21).Count 0)
  (.w [lim (lenI .item x18) (lenI .item [(Item.mk (rd .item x19 x21).Key (rd .item x19 x21).Val 1)])] (.l (.n (x18 ++ [(Item.mk (rd .item x19 x21).Key (rd .item x19 x21).Val 1)]))))
  (.l (.n x18)))
def impl_once_c3 := fun x18 x19 x20 x21 => (impl_once_c3_t x18 x19 x20 x21).val
def impl_once_c3_ob := fun x18 x19 x20 x21 => (impl_once_c3_t x18 x19 x20 x21).ob
def impl_once_c3_S := fun x18 x19 x20 x21 => SubP.mk (impl_once_c3 x18 x19 x20 x21) (impl_once_c3_ob x18 x19 x20 x21) [0,1,1,0,0,1,0,1,1] [(3, .A .item x18), (7, .S .item x19), (8, .I x20), (9, .I x21)] rv125 (fun q => [(3, .A .item q), (7, .S .item x19), (8, .I x20), (9, .I x21)]) nE nE nE
theorem impl_once_c3_ok (G : Good Try.prog tt sp_impl_once) {fr : Fr} : ∀ x18 x19 x20 x21, Ok125 fr (impl_once_c3_S x18 x19 x20 x21) :=
  fun x18 x19 x20 x21 => run_ok G [] trivial [(4,[3,5,7,8,9]),(5,[3,5,7,8,9,15]),(6,[3,7,8,9])] [] [] (impl_once_c3_t x18 x19 x20 x21) rfl rfl (by kernel_rfl)
def impl_once_c2_r_t (x2 : LI) (x3 : Int) (s15 : LI) (s16 : Int) : Tr LI (LI × Int) LI Empty Empty :=
  .c (cmp .lss s16 x3)
  (.s (impl_once_c3_S s15 x2 x3 s16) (fun q24 => .l (.n (q24, (ar .add .i64 s16 1)))) nE nE nE)
  (.l (.x s15))
def impl_once_c2_r := fun x2 x3 s15 s16 => (impl_once_c2_r_t x2 x3 s15 s16).val
def impl_once_c2_r_ob := fun x2 x3 s15 s16 => (impl_once_c2_r_t x2 x3 s15 s16).ob
def impl_once_c2_r_S := fun x2 x3 s15 s16 => mkRd (impl_once_c2_r x2 x3 s15 s16) (impl_once_c2_r_ob x2 x3 s15 s16) [0,0,1,0,1,1] (fun q => [(3, .A .item q.1), (7, .S .item x2), (8, .I x3), (9, .I q.2)]) (s15, s16) rv125 (fun q => (0, [(3, .A .item q)])) nE nE
theorem impl_once_c2_r_ok (G : Good Try.prog tt sp_impl_once) {fr : Fr} : ∀ x2 x3 s15 s16, Ok125 fr (impl_once_c2_r_S x2 x3 s15 s16) :=
  fun x2 x3 s15 s16 => run_ok G [([0,1,1,0,0,1,0,1,1], fun e => ⟨impl_once_c3_S (gL .item e 3 0) (gL .item e 7 0) (gI e 8 0) (gI e 9 0)⟩)] ⟨fun _ => ⟨rfl, impl_once_c3_ok G _ _ _ _⟩, trivial⟩ [(3,[3,7,8,9,10]),(7,[3,7,8,9])] [] [] (impl_once_c2_r_t x2 x3 s15 s16) rfl rfl (by kernel_rfl)
def impl_once_c2 := fun x2 x3 => lpV (fun s : LI × Int => ocLp (impl_once_c2_r x2 x3 s.1 s.2)) ([], 0)
def impl_once_c2_ob := fun x2 x3 => LpT (fun s : LI × Int => ocLp (impl_once_c2_r x2 x3 s.1 s.2)) (fun s => impl_once_c2_r_ob x2 x3 s.1 s.2) ([], 0)
def impl_once_c2_S := fun x2 x3 => lpS (impl_once_c2_r_S x2 x3 [] 0) (impl_once_c2 x2 x3) (impl_once_c2_ob x2 x3)
theorem impl_once_c2_ok (G : Good Try.prog tt sp_impl_once) {fr : Fr} : ∀ x2 x3, Ok125 fr (impl_once_c2_S x2 x3) :=
  fun x2 x3 => loop_ok (fun s : LI × Int => impl_once_c2_r_S x2 x3 s.1 s.2) ([], 0) (fun _ => rfl) (fun _ => ⟨rfl, rfl, rfl, rfl, rfl⟩) (by kernel_rfl) fun _ => impl_once_c2_r_ok G _ _ _ _
def impl_once_c1_t (x1 : LI) : Tr LI LI Empty Empty Empty :=
  .s (impl_once_c2_S x1 (lenI .item x1)) nE (fun q35 => .l (.n q35)) nE nE
def impl_once_c1 := fun x1 => (impl_once_c1_t x1).val
def impl_once_c1_ob := fun x1 => (impl_once_c1_t x1).ob
def impl_once_c1_S := fun x1 => SubP.mk (impl_once_c1 x1) (impl_once_c1_ob x1) [0,1,1] [(0, .S .item x1), (3, .A .item [])] rv125 (fun q => [(3, .A .item q)]) nE nE nE
theorem impl_once_c1_ok (G : Good Try.prog tt sp_impl_once) {fr : Fr} : ∀ x1, Ok125 fr (impl_once_c1_S x1) :=
  fun x1 => run_ok G [([0,1,0,1,1], fun e => ⟨impl_once_c2_S (gL .item e 7 0) (gI e 8 0)⟩)] ⟨fun _ => ⟨rfl, impl_once_c2_ok G _ _⟩, trivial⟩ [(2,[3,7,8,9])] [] [] (impl_once_c1_t x1) rfl rfl (by kernel_rfl)
def impl_once_b_t (a0 : LI) : Tr LI Empty Empty Empty Empty :=
  .s (impl_once_c1_S a0) (fun q38 => .l (.r q38)) nE nE nE
def impl_once_b := fun a0 => (impl_once_b_t a0).val
def impl_once_b_ob := fun a0 => (impl_once_b_t a0).ob
def impl_once_b_S := fun a0 => SubP.mk (impl_once_b a0) (impl_once_b_ob a0) [] [(0, .S .item a0)] rv125 nE nE nE nE
theorem impl_once_b_ok (G : Good Try.prog tt sp_impl_once) {fr : Fr} : ∀ a0, Ok125 fr (impl_once_b_S a0) :=
  fun a0 => run_ok G [([0,1,1], fun e => ⟨impl_once_c1_S (gL .item e 0 0)⟩)] ⟨fun _ => ⟨rfl, impl_once_c1_ok G _⟩, trivial⟩ [(0,[0]),(1,[0,3]),(8,[2])] [] [] (impl_once_b_t a0) rfl rfl (by kernel_rfl)
def v_impl_once (a0 : LI) : LI := ocR (impl_once_b a0)
def p_impl_once (a0 : LI) : Prop := impl_once_b_ob a0
def s_impl_once : Spec := ⟨[(.lst .item)], .one (.acc true) (.lst .item), false, fun x => (v_impl_once x.1, 0), fun x => p_impl_once x.1⟩
theorem con_impl_once (G : Good Try.prog tt sp_impl_once) : Con Try.prog 125 s_impl_once :=
  con_run (pts := [(.lst .item)]) (rt := .one (.acc true) (.lst .item)) (o := fun x => impl_once_b x.1) (ob := fun x => impl_once_b_ob x.1) G (fn := Try.f125) (c := bodyOf Try.f125) (by kernel_rfl) (by kernel_rfl) (by kernel_rfl) (rs := [.tmp 2]) (fz := F125.fz) (by kernel_rfl) (by kernel_rfl) (fun _ => rfl) rfl (fun x => impl_once_b_S x.1) (fun _ => ⟨rfl, rfl, rfl, rfl, rfl⟩) (fun x _ => impl_once_b_ok G x.1)

def sp_impl_leastOf : SP := [(125, s_impl_once)]
abbrev F189 : Fnn := ⟨[.tmp 2], .one (.acc true) (.lst .item), none, []⟩
abbrev rv189 : LI → RV := fun q => (some (RT.av (.one (.acc true) (.lst .item)) q), .dead)
abbrev Ok189 (fr : Fr) {A X Y Z : Type} (S : SubP LI A X Y Z) : Prop := SubOk Try.prog tt ⟨Try.f189.ntmps, none, []⟩ fr (bodyOf Try.f189) F189 S
def impl_leastOf_c3_t (x18 x19 : LI) (_x20 x21 : Int) : Tr LI LI Empty Empty Empty :=
  .w [inb x21 (lenI .item x19)] (.w [(((!(cmp .eql (lenI .item x18) 0)) && true) = true → inb (ar .sub .i64 (lenI .item x18) 1) (lenI .item x18))] (.c (cond (cmp .eql (lenI .item x18) 0) true (cmp .neq (rd .item x18 (ar .sub .i64 (lenI .item x18) 1)).Key (rd .item x19 x21).Key))
  (.w [lim (lenI .item x18) (lenI .item [(rd .item x19 x21)])] (.l (.n (x18 ++ [(rd .item x19 x21)]))))
  (.l (.n x18))))
def impl_leastOf_c3 := fun x18 x19 x20 x21 => (impl_leastOf_c3_t x18 x19 x20 x21).val
def impl_leastOf_c3_ob := fun x18 x19 x20 x21 => (impl_leastOf_c3_t x18 x19 x20 x21).ob
def impl_leastOf_c3_S := fun x18 x19 x20 x21 => SubP.mk (impl_leastOf_c3 x18 x19 x20 x21) (impl_leastOf_c3_ob x18 x19 x20 x21) [0,1,1,0,0,1,0,1,1] [(3, .A .item x18), (8, .A .item x19), (9, .I x20), (10, .I x21)] rv189 (fun q => [(3, .A .item q), (8, .A .item x19), (9, .I x20), (10, .I x21)]) nE nE nE
theorem impl_leastOf_c3_ok (G : Good Try.prog tt sp_impl_leastOf) {fr : Fr} : ∀ x18 x19 x20 x21, Ok189 fr (impl_leastOf_c3_S x18 x19 x20 x21) :=
  fun x18 x19 x20 x21 => run_ok G [] trivial [(4,[3,5,8,9,10]),(5,[3,5,8,9,10,28]),(6,[3,8,9,10])] [] [] (impl_leastOf_c3_t x18 x19 x20 x21) rfl rfl (by kernel_rfl)
def impl_leastOf_c2_r_t (x2 : LI) (x3 : Int) (s15 : LI) (s16 : Int) : Tr LI (LI × Int) LI Empty Empty :=
  .c (cmp .lss s16 x3)
  (.s (impl_leastOf_c3_S s15 x2 x3 s16) (fun q24 => .l (.n (q24, (ar .add .i64 s16 1)))) nE nE nE)
  (.l (.x s15))
def impl_leastOf_c2_r := fun x2 x3 s15 s16 => (impl_leastOf_c2_r_t x2 x3 s15 s16).val
def impl_leastOf_c2_r_ob := fun x2 x3 s15 s16 => (impl_leastOf_c2_r_t x2 x3 s15 s16).ob
def impl_leastOf_c2_r_S := fun x2 x3 s15 s16 => mkRd (impl_leastOf_c2_r x2 x3 s15 s16) (impl_leastOf_c2_r_ob x2 x3 s15 s16) [0,0,1,0,1,1] (fun q => [(3, .A .item q.1), (8, .A .item x2), (9, .I x3), (10, .I q.2)]) (s15, s16) rv189 (fun q => (0, [(3, .A .item q)])) nE nE
theorem impl_leastOf_c2_r_ok (G : Good Try.prog tt sp_impl_leastOf) {fr : Fr} : ∀ x2 x3 s15 s16, Ok189 fr (impl_leastOf_c2_r_S x2 x3 s15 s16) :=
  fun x2 x3 s15 s16 => run_ok G [([0,1,1,0,0,1,0,1,1], fun e => ⟨impl_leastOf_c3_S (gL .item e 3 0) (gL .item e 8 0) (gI e 9 0) (gI e 10 0)⟩)] ⟨fun _ => ⟨rfl, impl_leastOf_c3_ok G _ _ _ _⟩, trivial⟩ [(3,[3,8,9,10,11]),(7,[3,8,9,10])] [] [] (impl_leastOf_c2_r_t x2 x3 s15 s16) rfl rfl (by kernel_rfl)
def impl_leastOf_c2 := fun x2 x3 => lpV (fun s : LI × Int => ocLp (impl_leastOf_c2_r x2 x3 s.1 s.2)) ([], 0)
def impl_leastOf_c2_ob := fun x2 x3 => LpT (fun s : LI × Int => ocLp (impl_leastOf_c2_r x2 x3 s.1 s.2)) (fun s => impl_leastOf_c2_r_ob x2 x3 s.1 s.2) ([], 0)
def impl_leastOf_c2_S := fun x2 x3 => lpS (impl_leastOf_c2_r_S x2 x3 [] 0) (impl_leastOf_c2 x2 x3) (impl_leastOf_c2_ob x2 x3)
theorem impl_leastOf_c2_ok (G : Good Try.prog tt sp_impl_leastOf) {fr : Fr} : ∀ x2 x3, Ok189 fr (impl_leastOf_c2_S x2 x3) :=
  fun x2 x3 => loop_ok (fun s : LI × Int => impl_leastOf_c2_r_S x2 x3 s.1 s.2) ([], 0) (fun _ => rfl) (fun _ => ⟨rfl, rfl, rfl, rfl, rfl⟩) (by kernel_rfl) fun _ => impl_leastOf_c2_r_ok G _ _ _ _
def impl_leastOf_c1_t (x1 : LI) : Tr LI LI Empty Empty Empty :=
  .w [(p_impl_once x1)] (.s (impl_leastOf_c2_S (v_impl_once x1) (lenI .item (v_impl_once x1))) nE (fun q35 => .l (.n q35)) nE nE)
def impl_leastOf_c1 := fun x1 => (impl_leastOf_c1_t x1).val
def impl_leastOf_c1_ob := fun x1 => (impl_leastOf_c1_t x1).ob
def impl_leastOf_c1_S := fun x1 => SubP.mk (impl_leastOf_c1 x1) (impl_leastOf_c1_ob x1) [0,1,1] [(0, .S .item x1), (3, .A .item [])] rv189 (fun q => [(3, .A .item q)]) nE nE nE
theorem impl_leastOf_c1_ok (G : Good Try.prog tt sp_impl_leastOf) {fr : Fr} : ∀ x1, Ok189 fr (impl_leastOf_c1_S x1) :=
  fun x1 => run_ok G [([0,1,0,1,1], fun e => ⟨impl_leastOf_c2_S (gL .item e 8 0) (gI e 9 0)⟩)] ⟨fun _ => ⟨rfl, impl_leastOf_c2_ok G _ _⟩, trivial⟩ [(2,[3,8,9,10])] [] [] (impl_leastOf_c1_t x1) rfl rfl (by kernel_rfl)
def impl_leastOf_b_t (a0 : LI) : Tr LI Empty Empty Empty Empty :=
  .s (impl_leastOf_c1_S a0) (fun q38 => .l (.r q38)) nE nE nE
def impl_leastOf_b := fun a0 => (impl_leastOf_b_t a0).val
def impl_leastOf_b_ob := fun a0 => (impl_leastOf_b_t a0).ob
def impl_leastOf_b_S := fun a0 => SubP.mk (impl_leastOf_b a0) (impl_leastOf_b_ob a0) [] [(0, .S .item a0)] rv189 nE nE nE nE
theorem impl_leastOf_b_ok (G : Good Try.prog tt sp_impl_leastOf) {fr : Fr} : ∀ a0, Ok189 fr (impl_leastOf_b_S a0) :=
  fun a0 => run_ok G [([0,1,1], fun e => ⟨impl_leastOf_c1_S (gL .item e 0 0)⟩)] ⟨fun _ => ⟨rfl, impl_leastOf_c1_ok G _⟩, trivial⟩ [(0,[0]),(1,[0,3]),(8,[2])] [] [] (impl_leastOf_b_t a0) rfl rfl (by kernel_rfl)
def v_impl_leastOf (a0 : LI) : LI := ocR (impl_leastOf_b a0)
def p_impl_leastOf (a0 : LI) : Prop := impl_leastOf_b_ob a0
def s_impl_leastOf : Spec := ⟨[(.lst .item)], .one (.acc true) (.lst .item), false, fun x => (v_impl_leastOf x.1, 0), fun x => p_impl_leastOf x.1⟩
theorem con_impl_leastOf (G : Good Try.prog tt sp_impl_leastOf) : Con Try.prog 189 s_impl_leastOf :=
  con_run (pts := [(.lst .item)]) (rt := .one (.acc true) (.lst .item)) (o := fun x => impl_leastOf_b x.1) (ob := fun x => impl_leastOf_b_ob x.1) G (fn := Try.f189) (c := bodyOf Try.f189) (by kernel_rfl) (by kernel_rfl) (by kernel_rfl) (rs := [.tmp 2]) (fz := F189.fz) (by kernel_rfl) (by kernel_rfl) (fun _ => rfl) rfl (fun x => impl_leastOf_b_S x.1) (fun _ => ⟨rfl, rfl, rfl, rfl, rfl⟩) (fun x _ => impl_leastOf_b_ok G x.1)

def sp_impl_aggregate : SP := [(188, s_impl_counted), (125, s_impl_once), (189, s_impl_leastOf)]
abbrev F181 : Fnn := ⟨[.tmp 4], .one (.acc true) (.lst .item), none, []⟩
abbrev rv181 : LI → RV := fun q => (some (RT.av (.one (.acc true) (.lst .item)) q), .dead)
abbrev Ok181 (fr : Fr) {A X Y Z : Type} (S : SubP LI A X Y Z) : Prop := SubOk Try.prog tt ⟨Try.f181.ntmps, none, []⟩ fr (bodyOf Try.f181) F181 S
def impl_aggregate_b_t (a0 : LI) (a1 : Int) : Tr LI Empty Empty Empty Empty :=
  .c (cmp .eql a1 1)
  (.w [(p_impl_counted a0)] (.l (.r (v_impl_counted a0))))
  (.c (cmp .eql a1 2)
  (.w [(p_impl_once a0)] (.l (.r (v_impl_once a0))))
  (.w [(p_impl_leastOf a0)] (.l (.r (v_impl_leastOf a0)))))
def impl_aggregate_b := fun a0 a1 => (impl_aggregate_b_t a0 a1).val
def impl_aggregate_b_ob := fun a0 a1 => (impl_aggregate_b_t a0 a1).ob
def impl_aggregate_b_S := fun a0 a1 => SubP.mk (impl_aggregate_b a0 a1) (impl_aggregate_b_ob a0 a1) [] [(0, .S .item a0), (1, .I a1)] rv181 nE nE nE nE
theorem impl_aggregate_b_ok (G : Good Try.prog tt sp_impl_aggregate) {fr : Fr} : ∀ a0 a1, Ok181 fr (impl_aggregate_b_S a0 a1) :=
  fun a0 a1 => run_ok G [] trivial [(0,[0,1]),(1,[0,5]),(2,[0,5,6]),(3,[4]),(4,[0,10]),(5,[4]),(6,[4])] [] [] (impl_aggregate_b_t a0 a1) rfl rfl (by kernel_rfl)
def v_impl_aggregate (a0 : LI) (a1 : Int) : LI := ocR (impl_aggregate_b a0 a1)
def p_impl_aggregate (a0 : LI) (a1 : Int) : Prop := impl_aggregate_b_ob a0 a1
def s_impl_aggregate : Spec := ⟨[(.lst .item), (.int .i64)], .one (.acc true) (.lst .item), false, fun x => (v_impl_aggregate x.1 x.2.1, 0), fun x => p_impl_aggregate x.1 x.2.1⟩
theorem con_impl_aggregate (G : Good Try.prog tt sp_impl_aggregate) : Con Try.prog 181 s_impl_aggregate :=
  con_run (pts := [(.lst .item), (.int .i64)]) (rt := .one (.acc true) (.lst .item)) (o := fun x => impl_aggregate_b x.1 x.2.1) (ob := fun x => impl_aggregate_b_ob x.1 x.2.1) G (fn := Try.f181) (c := bodyOf Try.f181) (by kernel_rfl) (by kernel_rfl) (by kernel_rfl) (rs := [.tmp 4]) (fz := F181.fz) (by kernel_rfl) (by kernel_rfl) (fun _ => rfl) rfl (fun x => impl_aggregate_b_S x.1 x.2.1) (fun _ => ⟨rfl, rfl, rfl, rfl, rfl⟩) (fun x _ => impl_aggregate_b_ok G x.1 x.2.1)

def sp_impl_flowSum : SP := [(180, s_impl_FlowTimes), (106, s_impl_present), (181, s_impl_aggregate), (107, s_impl_gathered), (91, s_impl_batch)]
abbrev F155 : Fnn := ⟨[.tmp 4, .tmp 5], .tup [(false, (.lst .row)), (true, .bool)], none, []⟩
abbrev rv155 : LR × Bool × Unit → RV := fun q => (some (RT.av (.tup [(false, (.lst .row)), (true, .bool)]) q), .dead)
abbrev Ok155 (fr : Fr) {A X Y Z : Type} (S : SubP (LR × Bool × Unit) A X Y Z) : Prop := SubOk Try.prog tt ⟨Try.f155.ntmps, none, []⟩ fr (bodyOf Try.f155) F155 S
def impl_flowSum_c6_t (x267 : LR) (_x268 : Int) (_x269 : LR) (x270 : Int) (x271 : LR) (_x272 x273 : Int) : Tr (LR × Bool × Unit) LR Empty Empty Empty :=
  .w [inb x273 (lenI .row x267)] (.c (cmp .eql (rd .row x267 x273).Key x270)
  (.w [lim (lenI .row x271) (lenI .row [(rd .row x267 x273)])] (.l (.n (x271 ++ [(rd .row x267 x273)]))))
  (.l (.n x271)))
def impl_flowSum_c6 := fun x267 x268 x269 x270 x271 x272 x273 => (impl_flowSum_c6_t x267 x268 x269 x270 x271 x272 x273).val
def impl_flowSum_c6_ob := fun x267 x268 x269 x270 x271 x272 x273 => (impl_flowSum_c6_t x267 x268 x269 x270 x271 x272 x273).ob
def impl_flowSum_c6_S := fun x267 x268 x269 x270 x271 x272 x273 => SubP.mk (impl_flowSum_c6 x267 x268 x269 x270 x271 x272 x273) (impl_flowSum_c6_ob x267 x268 x269 x270 x271 x272 x273) [0,1,1,0,0,1,0,1,0,0,1,0,0,1,0,1,1] [(0, .S .row x267), (1, .I x268), (6, .A .row x269), (7, .I x270), (8, .A .row x271), (25, .S .row x267), (26, .I x272), (27, .I x273)] rv155 (fun q => [(0, .S .row x267), (1, .I x268), (6, .A .row x269), (7, .I x270), (8, .A .row q), (25, .S .row x267), (26, .I x272), (27, .I x273)]) nE nE nE
theorem impl_flowSum_c6_ok (G : Good Try.prog tt sp_impl_flowSum) {fr : Fr} : ∀ x267 x268 x269 x270 x271 x272 x273, Ok155 fr (impl_flowSum_c6_S x267 x268 x269 x270 x271 x272 x273) :=
  fun x267 x268 x269 x270 x271 x272 x273 => run_ok G [] trivial [(8,[0,1,6,7,8,10,25,26,27]),(9,[0,1,6,7,8,10,25,26,27,34]),(10,[0,1,6,7,8,25,26,27])] [] [] (impl_flowSum_c6_t x267 x268 x269 x270 x271 x272 x273) rfl rfl (by kernel_rfl)
def impl_flowSum_c5_r_t (x245 : LR) (x246 : Int) (x247 : LR) (x248 x249 : Int) (s264 : LR) (s265 : Int) : Tr (LR × Bool × Unit) (LR × Int) LR Empty Empty :=
  .c (cmp .lss s265 x249)
  (.s (impl_flowSum_c6_S x245 x246 x247 x248 s264 x249 s265) (fun q276 => .l (.n (q276, (ar .add .i64 s265 1)))) nE nE nE)
  (.l (.x s264))
def impl_flowSum_c5_r := fun x245 x246 x247 x248 x249 s264 s265 => (impl_flowSum_c5_r_t x245 x246 x247 x248 x249 s264 s265).val
def impl_flowSum_c5_r_ob := fun x245 x246 x247 x248 x249 s264 s265 => (impl_flowSum_c5_r_t x245 x246 x247 x248 x249 s264 s265).ob
def impl_flowSum_c5_r_S := fun x245 x246 x247 x248 x249 s264 s265 => mkRd (impl_flowSum_c5_r x245 x246 x247 x248 x249 s264 s265) (impl_flowSum_c5_r_ob x245 x246 x247 x248 x249 s264 s265) [0,0,1,0,1,0,0,1,0,0,1,0,1,1] (fun q => [(0, .S .row x245), (1, .I x246), (6, .A .row x247), (7, .I x248), (8, .A .row q.1), (25, .S .row x245), (26, .I x249), (27, .I q.2)]) (s264, s265) rv155 (fun q => (2, [(0, .S .row x245), (1, .I x246), (6, .A .row x247), (7, .I x248), (8, .A .row q)])) nE nE
theorem impl_flowSum_c5_r_ok (G : Good Try.prog tt sp_impl_flowSum) {fr : Fr} : ∀ x245 x246 x247 x248 x249 s264 s265, Ok155 fr (impl_flowSum_c5_r_S x245 x246 x247 x248 x249 s264 s265) :=
  fun x245 x246 x247 x248 x249 s264 s265 => run_ok G [([0,1,1,0,0,1,0,1,0,0,1,0,0,1,0,1,1], fun e => ⟨impl_flowSum_c6_S (gL .row e 0 0) (gI e 1 0) (gL .row e 6 0) (gI e 7 0) (gL .row e 8 0) (gI e 26 0) (gI e 27 0)⟩)] ⟨fun _ => ⟨rfl, impl_flowSum_c6_ok G _ _ _ _ _ _ _⟩, trivial⟩ [(7,[0,1,6,7,8,25,26,27,28]),(11,[0,1,6,7,8,25,26,27])] [] [] (impl_flowSum_c5_r_t x245 x246 x247 x248 x249 s264 s265) rfl rfl (by kernel_rfl)
def impl_flowSum_c5 := fun x245 x246 x247 x248 x249 => lpV (fun s : LR × Int => ocLp (impl_flowSum_c5_r x245 x246 x247 x248 x249 s.1 s.2)) ([], 0)
def impl_flowSum_c5_ob := fun x245 x246 x247 x248 x249 => LpT (fun s : LR × Int => ocLp (impl_flowSum_c5_r x245 x246 x247 x248 x249 s.1 s.2)) (fun s => impl_flowSum_c5_r_ob x245 x246 x247 x248 x249 s.1 s.2) ([], 0)
def impl_flowSum_c5_S := fun x245 x246 x247 x248 x249 => lpS (impl_flowSum_c5_r_S x245 x246 x247 x248 x249 [] 0) (impl_flowSum_c5 x245 x246 x247 x248 x249) (impl_flowSum_c5_ob x245 x246 x247 x248 x249)
theorem impl_flowSum_c5_ok (G : Good Try.prog tt sp_impl_flowSum) {fr : Fr} : ∀ x245 x246 x247 x248 x249, Ok155 fr (impl_flowSum_c5_S x245 x246 x247 x248 x249) :=
  fun x245 x246 x247 x248 x249 => loop_ok (fun s : LR × Int => impl_flowSum_c5_r_S x245 x246 x247 x248 x249 s.1 s.2) ([], 0) (fun _ => rfl) (fun _ => ⟨rfl, rfl, rfl, rfl, rfl⟩) (by kernel_rfl) fun _ => impl_flowSum_c5_r_ok G _ _ _ _ _ _ _
def impl_flowSum_c4_t (x241 : LR) (x242 : Int) (x243 : LR) (x244 : Int) : Tr (LR × Bool × Unit) LR Empty Empty Empty :=
  .s (impl_flowSum_c5_S x241 x242 x243 x244 (lenI .row x241)) nE (fun q287 => .l (.n q287)) nE nE
def impl_flowSum_c4 := fun x241 x242 x243 x244 => (impl_flowSum_c4_t x241 x242 x243 x244).val
def impl_flowSum_c4_ob := fun x241 x242 x243 x244 => (impl_flowSum_c4_t x241 x242 x243 x244).ob
def impl_flowSum_c4_S := fun x241 x242 x243 x244 => SubP.mk (impl_flowSum_c4 x241 x242 x243 x244) (impl_flowSum_c4_ob x241 x242 x243 x244) [0,1,0,0,1,0,0,1,0,1,1] [(0, .S .row x241), (1, .I x242), (6, .A .row x243), (7, .I x244), (8, .A .row [])] rv155 (fun q => [(0, .S .row x241), (1, .I x242), (6, .A .row x243), (7, .I x244), (8, .A .row q)]) nE nE nE
theorem impl_flowSum_c4_ok (G : Good Try.prog tt sp_impl_flowSum) {fr : Fr} : ∀ x241 x242 x243 x244, Ok155 fr (impl_flowSum_c4_S x241 x242 x243 x244) :=
  fun x241 x242 x243 x244 => run_ok G [([0,1,0,1,0,0,1,0,0,1,0,1,1], fun e => ⟨impl_flowSum_c5_S (gL .row e 0 0) (gI e 1 0) (gL .row e 6 0) (gI e 7 0) (gI e 26 0)⟩)] ⟨fun _ => ⟨rfl, impl_flowSum_c5_ok G _ _ _ _ _⟩, trivial⟩ [(6,[0,1,6,7,8,25,26,27])] [] [] (impl_flowSum_c4_t x241 x242 x243 x244) rfl rfl (by kernel_rfl)
def impl_flowSum_c11_r_t (_x407 : LR) (_x408 : Int) (_x409 : LR) (_x410 : Int) (_x411 _x412 : LR) (_x413 : Time) (_x414 : LI) (_x415 : List Time) (_x416 _x417 : Int) (x418 : LI) (x419 : Int) (s423 : LI) (s424 : Int) : Tr (LR × Bool × Unit) (LI × Int) LI Empty Empty :=
  .c (cmp .lss s424 x419)
  (.w [inb s424 (lenI .item x418)] (.w [lim (lenI .item s423) (lenI .item [(Item.mk (rd .item x418 s424).Key (rd .item x418 s424).Val (IntKind.wrap .i64 (0 - (rd .item x418 s424).Count)))])] (.l (.n ((s423 ++ [(Item.mk (rd .item x418 s424).Key (rd .item x418 s424).Val (IntKind.wrap .i64 (0 - (rd .item x418 s424).Count)))]), (ar .add .i64 s424 1))))))
  (.l (.x s423))
def impl_flowSum_c11_r := fun x407 x408 x409 x410 x411 x412 x413 x414 x415 x416 x417 x418 x419 s423 s424 => (impl_flowSum_c11_r_t x407 x408 x409 x410 x411 x412 x413 x414 x415 x416 x417 x418 x419 s423 s424).val
def impl_flowSum_c11_r_ob := fun x407 x408 x409 x410 x411 x412 x413 x414 x415 x416 x417 x418 x419 s423 s424 => (impl_flowSum_c11_r_t x407 x408 x409 x410 x411 x412 x413 x414 x415 x416 x417 x418 x419 s423 s424).ob
def impl_flowSum_c11_r_S := fun x407 x408 x409 x410 x411 x412 x413 x414 x415 x416 x417 x418 x419 s423 s424 => mkRd (impl_flowSum_c11_r x407 x408 x409 x410 x411 x412 x413 x414 x415 x416 x417 x418 x419 s423 s424) (impl_flowSum_c11_r_ob x407 x408 x409 x410 x411 x412 x413 x414 x415 x416 x417 x418 x419 s423 s424) [0,0,1,0,1,1,0,0,1,1,0,0,1,0,1,1,1,0,0,1,0,0,1,0,1,1] (fun q => [(0, .S .row x407), (1, .I x408), (6, .A .row x409), (7, .I x410), (8, .A .row x411), (11, .A .row x412), (13, .box [(.fr, .i x413.A), (.fr, .i x413.B)]), (14, .A .item q.1), (43, .v .fr (.lst .time x415)), (44, .I x416), (45, .I x417), (56, .v .fr (.lst .item x418)), (57, .I x419), (58, .I q.2)]) (s423, s424) rv155 (fun q => (6, [(0, .S .row x407), (1, .I x408), (6, .A .row x409), (7, .I x410), (8, .A .row x411), (11, .A .row x412), (13, .box [(.fr, .i x413.A), (.fr, .i x413.B)]), (14, .A .item q), (43, .v .fr (.lst .time x415)), (44, .I x416), (45, .I x417)])) nE nE
theorem impl_flowSum_c11_r_ok (G : Good Try.prog tt sp_impl_flowSum) {fr : Fr} : ∀ x407 x408 x409 x410 x411 x412 x413 x414 x415 x416 x417 x418 x419 s423 s424, Ok155 fr (impl_flowSum_c11_r_S x407 x408 x409 x410 x411 x412 x413 x414 x415 x416 x417 x418 x419 s423 s424) :=
  fun x407 x408 x409 x410 x411 x412 x413 x414 x415 x416 x417 x418 x419 s423 s424 => run_ok G [] trivial [(18,[0,1,6,7,8,11,13,14,43,44,45,56,57,58,59]),(19,[0,1,6,7,8,11,13,14,16,43,44,45,56,57,58]),(20,[0,1,6,7,8,11,13,14,43,44,45,56,57,58]),(21,[0,1,6,7,8,11,13,14,43,44,45,56,57,58])] [] [] (impl_flowSum_c11_r_t x407 x408 x409 x410 x411 x412 x413 x414 x415 x416 x417 x418 x419 s423 s424) rfl rfl (by kernel_rfl)
def impl_flowSum_c11 := fun x407 x408 x409 x410 x411 x412 x413 x414 x415 x416 x417 x418 x419 => lpV (fun s : LI × Int => ocLp (impl_flowSum_c11_r x407 x408 x409 x410 x411 x412 x413 x414 x415 x416 x417 x418 x419 s.1 s.2)) (x414, 0)
def impl_flowSum_c11_ob := fun x407 x408 x409 x410 x411 x412 x413 x414 x415 x416 x417 x418 x419 => LpT (fun s : LI × Int => ocLp (impl_flowSum_c11_r x407 x408 x409 x410 x411 x412 x413 x414 x415 x416 x417 x418 x419 s.1 s.2)) (fun s => impl_flowSum_c11_r_ob x407 x408 x409 x410 x411 x412 x413 x414 x415 x416 x417 x418 x419 s.1 s.2) (x414, 0)
def impl_flowSum_c11_S := fun x407 x408 x409 x410 x411 x412 x413 x414 x415 x416 x417 x418 x419 => lpS (impl_flowSum_c11_r_S x407 x408 x409 x410 x411 x412 x413 x414 x415 x416 x417 x418 x419 x414 0) (impl_flowSum_c11 x407 x408 x409 x410 x411 x412 x413 x414 x415 x416 x417 x418 x419) (impl_flowSum_c11_ob x407 x408 x409 x410 x411 x412 x413 x414 x415 x416 x417 x418 x419)
theorem impl_flowSum_c11_ok (G : Good Try.prog tt sp_impl_flowSum) {fr : Fr} : ∀ x407 x408 x409 x410 x411 x412 x413 x414 x415 x416 x417 x418 x419, Ok155 fr (impl_flowSum_c11_S x407 x408 x409 x410 x411 x412 x413 x414 x415 x416 x417 x418 x419) :=
  fun x407 x408 x409 x410 x411 x412 x413 x414 x415 x416 x417 x418 x419 => loop_ok (fun s : LI × Int => impl_flowSum_c11_r_S x407 x408 x409 x410 x411 x412 x413 x414 x415 x416 x417 x418 x419 s.1 s.2) (x414, 0) (fun _ => rfl) (fun _ => ⟨rfl, rfl, rfl, rfl, rfl⟩) (by kernel_rfl) fun _ => impl_flowSum_c11_r_ok G _ _ _ _ _ _ _ _ _ _ _ _ _ _ _
def impl_flowSum_c10_t (x396 : LR) (x397 : Int) (x398 : LR) (x399 : Int) (x400 x401 : LR) (x402 : Time) (x403 : LI) (x404 : List Time) (x405 x406 : Int) : Tr (LR × Bool × Unit) LI Empty Empty Empty :=
  .w [(p_impl_present x401 x402)] (.s (impl_flowSum_c11_S x396 x397 x398 x399 x400 x401 x402 x403 x404 x405 x406 (v_impl_present x401 x402) (lenI .item (v_impl_present x401 x402))) nE (fun q433 => .l (.n q433)) nE nE)
def impl_flowSum_c10 := fun x396 x397 x398 x399 x400 x401 x402 x403 x404 x405 x406 => (impl_flowSum_c10_t x396 x397 x398 x399 x400 x401 x402 x403 x404 x405 x406).val
def impl_flowSum_c10_ob := fun x396 x397 x398 x399 x400 x401 x402 x403 x404 x405 x406 => (impl_flowSum_c10_t x396 x397 x398 x399 x400 x401 x402 x403 x404 x405 x406).ob
def impl_flowSum_c10_S := fun x396 x397 x398 x399 x400 x401 x402 x403 x404 x405 x406 => SubP.mk (impl_flowSum_c10 x396 x397 x398 x399 x400 x401 x402 x403 x404 x405 x406) (impl_flowSum_c10_ob x396 x397 x398 x399 x400 x401 x402 x403 x404 x405 x406) [0,1,1,0,0,1,1,0,0,1,0,1,1,1,0,0,1,0,0,1,0,1,1] [(0, .S .row x396), (1, .I x397), (6, .A .row x398), (7, .I x399), (8, .A .row x400), (11, .A .row x401), (13, .box [(.fr, .i x402.A), (.fr, .i x402.B)]), (14, .A .item x403), (43, .v .fr (.lst .time x404)), (44, .I x405), (45, .I x406)] rv155 (fun q => [(0, .S .row x396), (1, .I x397), (6, .A .row x398), (7, .I x399), (8, .A .row x400), (11, .A .row x401), (13, .box [(.fr, .i x402.A), (.fr, .i x402.B)]), (14, .A .item q), (43, .v .fr (.lst .time x404)), (44, .I x405), (45, .I x406)]) nE nE nE
theorem impl_flowSum_c10_ok (G : Good Try.prog tt sp_impl_flowSum) {fr : Fr} : ∀ x396 x397 x398 x399 x400 x401 x402 x403 x404 x405 x406, Ok155 fr (impl_flowSum_c10_S x396 x397 x398 x399 x400 x401 x402 x403 x404 x405 x406) :=
  fun x396 x397 x398 x399 x400 x401 x402 x403 x404 x405 x406 => run_ok G [([0,1,0,1,1,0,0,1,1,0,0,1,0,1,1,1,0,0,1,0,0,1,0,1,1], fun e => ⟨impl_flowSum_c11_S (gL .row e 0 0) (gI e 1 0) (gL .row e 6 0) (gI e 7 0) (gL .row e 8 0) (gL .row e 11 0) (gTime e 13) (gL .item e 14 0) (gL .time e 43 0) (gI e 44 0) (gI e 45 0) (gL .item e 56 0) (gI e 57 0)⟩)] ⟨fun _ => ⟨rfl, impl_flowSum_c11_ok G _ _ _ _ _ _ _ _ _ _ _ _ _⟩, trivial⟩ [(17,[0,1,6,7,8,11,13,14,43,44,45,56,57,58])] [] [] (impl_flowSum_c10_t x396 x397 x398 x399 x400 x401 x402 x403 x404 x405 x406) rfl rfl (by kernel_rfl)
def impl_flowSum_c12_r_t (_x438 : LR) (_x439 : Int) (_x440 : LR) (_x441 : Int) (_x442 _x443 : LR) (x444 : Time) (_x445 : List Time) (_x446 _x447 : Int) (x448 : LI) (x449 : Int) (s453 : LR) (s454 : Int) : Tr (LR × Bool × Unit) (LR × Int) LR Empty Empty :=
  .c (cmp .lss s454 x449)
  (.w [inb s454 (lenI .item x448)] (.w [lim (lenI .row s453) (lenI .row [(Row.mk (rd .item x448 s454).Key (rd .item x448 s454).Val x444 (rd .item x448 s454).Count)])] (.l (.n ((s453 ++ [(Row.mk (rd .item x448 s454).Key (rd .item x448 s454).Val x444 (rd .item x448 s454).Count)]), (ar .add .i64 s454 1))))))
  (.l (.x s453))
def impl_flowSum_c12_r := fun x438 x439 x440 x441 x442 x443 x444 x445 x446 x447 x448 x449 s453 s454 => (impl_flowSum_c12_r_t x438 x439 x440 x441 x442 x443 x444 x445 x446 x447 x448 x449 s453 s454).val
def impl_flowSum_c12_r_ob := fun x438 x439 x440 x441 x442 x443 x444 x445 x446 x447 x448 x449 s453 s454 => (impl_flowSum_c12_r_t x438 x439 x440 x441 x442 x443 x444 x445 x446 x447 x448 x449 s453 s454).ob
def impl_flowSum_c12_r_S := fun x438 x439 x440 x441 x442 x443 x444 x445 x446 x447 x448 x449 s453 s454 => mkRd (impl_flowSum_c12_r x438 x439 x440 x441 x442 x443 x444 x445 x446 x447 x448 x449 s453 s454) (impl_flowSum_c12_r_ob x438 x439 x440 x441 x442 x443 x444 x445 x446 x447 x448 x449 s453 s454) [0,0,1,1,1,1,0,0,1,1,0,0,1,0,1,1,1,0,0,1,0,0,1,0,1,1] (fun q => [(0, .S .row x438), (1, .I x439), (6, .A .row x440), (7, .I x441), (8, .A .row x442), (11, .A .row q.1), (13, .box [(.fr, .i x444.A), (.fr, .i x444.B)]), (43, .v .fr (.lst .time x445)), (44, .I x446), (45, .I x447), (75, .v .fr (.lst .item x448)), (76, .I x449), (77, .I q.2)]) (s453, s454) rv155 (fun q => (8, [(0, .S .row x438), (1, .I x439), (6, .A .row x440), (7, .I x441), (8, .A .row x442), (11, .A .row q), (43, .v .fr (.lst .time x445)), (44, .I x446), (45, .I x447)])) nE nE
theorem impl_flowSum_c12_r_ok (G : Good Try.prog tt sp_impl_flowSum) {fr : Fr} : ∀ x438 x439 x440 x441 x442 x443 x444 x445 x446 x447 x448 x449 s453 s454, Ok155 fr (impl_flowSum_c12_r_S x438 x439 x440 x441 x442 x443 x444 x445 x446 x447 x448 x449 s453 s454) :=
  fun x438 x439 x440 x441 x442 x443 x444 x445 x446 x447 x448 x449 s453 s454 => run_ok G [] trivial [(23,[0,1,6,7,8,11,13,43,44,45,75,76,77,78]),(24,[0,1,6,7,8,11,13,18,43,44,45,75,76,77]),(25,[0,1,6,7,8,11,13,43,44,45,75,76,77]),(26,[0,1,6,7,8,11,13,43,44,45,75,76,77])] [] [] (impl_flowSum_c12_r_t x438 x439 x440 x441 x442 x443 x444 x445 x446 x447 x448 x449 s453 s454) rfl rfl (by kernel_rfl)
def impl_flowSum_c12 := fun x438 x439 x440 x441 x442 x443 x444 x445 x446 x447 x448 x449 => lpV (fun s : LR × Int => ocLp (impl_flowSum_c12_r x438 x439 x440 x441 x442 x443 x444 x445 x446 x447 x448 x449 s.1 s.2)) (x443, 0)
def impl_flowSum_c12_ob := fun x438 x439 x440 x441 x442 x443 x444 x445 x446 x447 x448 x449 => LpT (fun s : LR × Int => ocLp (impl_flowSum_c12_r x438 x439 x440 x441 x442 x443 x444 x445 x446 x447 x448 x449 s.1 s.2)) (fun s => impl_flowSum_c12_r_ob x438 x439 x440 x441 x442 x443 x444 x445 x446 x447 x448 x449 s.1 s.2) (x443, 0)
def impl_flowSum_c12_S := fun x438 x439 x440 x441 x442 x443 x444 x445 x446 x447 x448 x449 => lpS (impl_flowSum_c12_r_S x438 x439 x440 x441 x442 x443 x444 x445 x446 x447 x448 x449 x443 0) (impl_flowSum_c12 x438 x439 x440 x441 x442 x443 x444 x445 x446 x447 x448 x449) (impl_flowSum_c12_ob x438 x439 x440 x441 x442 x443 x444 x445 x446 x447 x448 x449)
theorem impl_flowSum_c12_ok (G : Good Try.prog tt sp_impl_flowSum) {fr : Fr} : ∀ x438 x439 x440 x441 x442 x443 x444 x445 x446 x447 x448 x449, Ok155 fr (impl_flowSum_c12_S x438 x439 x440 x441 x442 x443 x444 x445 x446 x447 x448 x449) :=
  fun x438 x439 x440 x441 x442 x443 x444 x445 x446 x447 x448 x449 => loop_ok (fun s : LR × Int => impl_flowSum_c12_r_S x438 x439 x440 x441 x442 x443 x444 x445 x446 x447 x448 x449 s.1 s.2) (x443, 0) (fun _ => rfl) (fun _ => ⟨rfl, rfl, rfl, rfl, rfl⟩) (by kernel_rfl) fun _ => impl_flowSum_c12_r_ok G _ _ _ _ _ _ _ _ _ _ _ _ _ _
def impl_flowSum_c9_t (x387 : LR) (x388 : Int) (x389 : LR) (x390 : Int) (x391 x392 : LR) (x393 : List Time) (x394 x395 : Int) : Tr (LR × Bool × Unit) LR Empty Empty Empty :=
  .w [inb x395 (lenI .time x393)] (.w [(p_impl_present x391 (rd .time x393 x395)), (p_impl_aggregate (v_impl_present x391 (rd .time x393 x395)) x388)] (.s (impl_flowSum_c10_S x387 x388 x389 x390 x391 x392 (rd .time x393 x395) (v_impl_aggregate (v_impl_present x391 (rd .time x393 x395)) x388) x393 x394 x395) (fun q436 => .w [(p_impl_gathered q436)] (.s (impl_flowSum_c12_S x387 x388 x389 x390 x391 x392 (rd .time x393 x395) x393 x394 x395 (v_impl_gathered q436) (lenI .item (v_impl_gathered q436))) nE (fun q463 => .l (.n q463)) nE nE)) nE nE nE))
def impl_flowSum_c9 := fun x387 x388 x389 x390 x391 x392 x393 x394 x395 => (impl_flowSum_c9_t x387 x388 x389 x390 x391 x392 x393 x394 x395).val
def impl_flowSum_c9_ob := fun x387 x388 x389 x390 x391 x392 x393 x394 x395 => (impl_flowSum_c9_t x387 x388 x389 x390 x391 x392 x393 x394 x395).ob
def impl_flowSum_c9_S := fun x387 x388 x389 x390 x391 x392 x393 x394 x395 => SubP.mk (impl_flowSum_c9 x387 x388 x389 x390 x391 x392 x393 x394 x395) (impl_flowSum_c9_ob x387 x388 x389 x390 x391 x392 x393 x394 x395) [0,1,1,0,0,1,0,1,1,1,0,0,1,0,0,1,0,1,1] [(0, .S .row x387), (1, .I x388), (6, .A .row x389), (7, .I x390), (8, .A .row x391), (11, .A .row x392), (43, .v .fr (.lst .time x393)), (44, .I x394), (45, .I x395)] rv155 (fun q => [(0, .S .row x387), (1, .I x388), (6, .A .row x389), (7, .I x390), (8, .A .row x391), (11, .A .row q), (43, .v .fr (.lst .time x393)), (44, .I x394), (45, .I x395)]) nE nE nE
theorem impl_flowSum_c9_ok (G : Good Try.prog tt sp_impl_flowSum) {fr : Fr} : ∀ x387 x388 x389 x390 x391 x392 x393 x394 x395, Ok155 fr (impl_flowSum_c9_S x387 x388 x389 x390 x391 x392 x393 x394 x395) :=
  fun x387 x388 x389 x390 x391 x392 x393 x394 x395 => run_ok G [([0,1,1,0,0,1,1,0,0,1,0,1,1,1,0,0,1,0,0,1,0,1,1], fun e => ⟨impl_flowSum_c10_S (gL .row e 0 0) (gI e 1 0) (gL .row e 6 0) (gI e 7 0) (gL .row e 8 0) (gL .row e 11 0) (gTime e 13) (gL .item e 14 0) (gL .time e 43 0) (gI e 44 0) (gI e 45 0)⟩), ([0,1,1,1,1,0,0,1,1,0,0,1,0,1,1,1,0,0,1,0,0,1,0,1,1], fun e => ⟨impl_flowSum_c12_S (gL .row e 0 0) (gI e 1 0) (gL .row e 6 0) (gI e 7 0) (gL .row e 8 0) (gL .row e 11 0) (gTime e 13) (gL .time e 43 0) (gI e 44 0) (gI e 45 0) (gL .item e 75 0) (gI e 76 0)⟩)] ⟨fun _ => ⟨rfl, impl_flowSum_c10_ok G _ _ _ _ _ _ _ _ _ _ _⟩, fun _ => ⟨rfl, impl_flowSum_c12_ok G _ _ _ _ _ _ _ _ _ _ _ _⟩, trivial⟩ [(15,[0,1,6,7,8,11,13,43,44,45]),(16,[0,1,6,7,8,11,13,14,43,44,45]),(22,[0,1,6,7,8,11,13,43,44,45,75,76,77])] [] [] (impl_flowSum_c9_t x387 x388 x389 x390 x391 x392 x393 x394 x395) rfl rfl (by kernel_rfl)
def impl_flowSum_c8_r_t (x297 : LR) (x298 : Int) (x299 : LR) (x300 : Int) (x301 : LR) (x302 : List Time) (x303 : Int) (s384 : LR) (s385 : Int) : Tr (LR × Bool × Unit) (LR × Int) LR Empty Empty :=
  .c (cmp .lss s385 x303)
  (.s (impl_flowSum_c9_S x297 x298 x299 x300 x301 s384 x302 x303 s385) (fun q468 => .l (.n (q468, (ar .add .i64 s385 1)))) nE nE nE)
  (.l (.x s384))
def impl_flowSum_c8_r := fun x297 x298 x299 x300 x301 x302 x303 s384 s385 => (impl_flowSum_c8_r_t x297 x298 x299 x300 x301 x302 x303 s384 s385).val
def impl_flowSum_c8_r_ob := fun x297 x298 x299 x300 x301 x302 x303 s384 s385 => (impl_flowSum_c8_r_t x297 x298 x299 x300 x301 x302 x303 s384 s385).ob
def impl_flowSum_c8_r_S := fun x297 x298 x299 x300 x301 x302 x303 s384 s385 => mkRd (impl_flowSum_c8_r x297 x298 x299 x300 x301 x302 x303 s384 s385) (impl_flowSum_c8_r_ob x297 x298 x299 x300 x301 x302 x303 s384 s385) [0,0,1,0,1,1,1,0,0,1,0,0,1,0,1,1] (fun q => [(0, .S .row x297), (1, .I x298), (6, .A .row x299), (7, .I x300), (8, .A .row x301), (11, .A .row q.1), (43, .v .fr (.lst .time x302)), (44, .I x303), (45, .I q.2)]) (s384, s385) rv155 (fun q => (4, [(0, .S .row x297), (1, .I x298), (6, .A .row x299), (7, .I x300), (11, .A .row q)])) nE nE
theorem impl_flowSum_c8_r_ok (G : Good Try.prog tt sp_impl_flowSum) {fr : Fr} : ∀ x297 x298 x299 x300 x301 x302 x303 s384 s385, Ok155 fr (impl_flowSum_c8_r_S x297 x298 x299 x300 x301 x302 x303 s384 s385) :=
  fun x297 x298 x299 x300 x301 x302 x303 s384 s385 => run_ok G [([0,1,1,0,0,1,0,1,1,1,0,0,1,0,0,1,0,1,1], fun e => ⟨impl_flowSum_c9_S (gL .row e 0 0) (gI e 1 0) (gL .row e 6 0) (gI e 7 0) (gL .row e 8 0) (gL .row e 11 0) (gL .time e 43 0) (gI e 44 0) (gI e 45 0)⟩)] ⟨fun _ => ⟨rfl, impl_flowSum_c9_ok G _ _ _ _ _ _ _ _ _⟩, trivial⟩ [(14,[0,1,6,7,8,11,43,44,45,46]),(27,[0,1,6,7,8,11,43,44,45])] [] [] (impl_flowSum_c8_r_t x297 x298 x299 x300 x301 x302 x303 s384 s385) rfl rfl (by kernel_rfl)
def impl_flowSum_c8 := fun x297 x298 x299 x300 x301 x302 x303 => lpV (fun s : LR × Int => ocLp (impl_flowSum_c8_r x297 x298 x299 x300 x301 x302 x303 s.1 s.2)) ([], 0)
def impl_flowSum_c8_ob := fun x297 x298 x299 x300 x301 x302 x303 => LpT (fun s : LR × Int => ocLp (impl_flowSum_c8_r x297 x298 x299 x300 x301 x302 x303 s.1 s.2)) (fun s => impl_flowSum_c8_r_ob x297 x298 x299 x300 x301 x302 x303 s.1 s.2) ([], 0)
def impl_flowSum_c8_S := fun x297 x298 x299 x300 x301 x302 x303 => lpS (impl_flowSum_c8_r_S x297 x298 x299 x300 x301 x302 x303 [] 0) (impl_flowSum_c8 x297 x298 x299 x300 x301 x302 x303) (impl_flowSum_c8_ob x297 x298 x299 x300 x301 x302 x303)
theorem impl_flowSum_c8_ok (G : Good Try.prog tt sp_impl_flowSum) {fr : Fr} : ∀ x297 x298 x299 x300 x301 x302 x303, Ok155 fr (impl_flowSum_c8_S x297 x298 x299 x300 x301 x302 x303) :=
  fun x297 x298 x299 x300 x301 x302 x303 => loop_ok (fun s : LR × Int => impl_flowSum_c8_r_S x297 x298 x299 x300 x301 x302 x303 s.1 s.2) ([], 0) (fun _ => rfl) (fun _ => ⟨rfl, rfl, rfl, rfl, rfl⟩) (by kernel_rfl) fun _ => impl_flowSum_c8_r_ok G _ _ _ _ _ _ _ _ _
def impl_flowSum_c7_t (x292 : LR) (x293 : Int) (x294 : LR) (x295 : Int) (x296 : LR) : Tr (LR × Bool × Unit) LR Empty Empty Empty :=
  .w [(p_impl_FlowTimes x292 x295)] (.s (impl_flowSum_c8_S x292 x293 x294 x295 x296 (v_impl_FlowTimes x292 x295) (lenI .time (v_impl_FlowTimes x292 x295))) nE (fun q479 => .l (.n q479)) nE nE)
def impl_flowSum_c7 := fun x292 x293 x294 x295 x296 => (impl_flowSum_c7_t x292 x293 x294 x295 x296).val
def impl_flowSum_c7_ob := fun x292 x293 x294 x295 x296 => (impl_flowSum_c7_t x292 x293 x294 x295 x296).ob
def impl_flowSum_c7_S := fun x292 x293 x294 x295 x296 => SubP.mk (impl_flowSum_c7 x292 x293 x294 x295 x296) (impl_flowSum_c7_ob x292 x293 x294 x295 x296) [0,1,1,1,0,0,1,0,0,1,0,1,1] [(0, .S .row x292), (1, .I x293), (6, .A .row x294), (7, .I x295), (8, .A .row x296), (11, .A .row [])] rv155 (fun q => [(0, .S .row x292), (1, .I x293), (6, .A .row x294), (7, .I x295), (11, .A .row q)]) nE nE nE
theorem impl_flowSum_c7_ok (G : Good Try.prog tt sp_impl_flowSum) {fr : Fr} : ∀ x292 x293 x294 x295 x296, Ok155 fr (impl_flowSum_c7_S x292 x293 x294 x295 x296) :=
  fun x292 x293 x294 x295 x296 => run_ok G [([0,1,0,1,1,1,0,0,1,0,0,1,0,1,1], fun e => ⟨impl_flowSum_c8_S (gL .row e 0 0) (gI e 1 0) (gL .row e 6 0) (gI e 7 0) (gL .row e 8 0) (gL .time e 43 0) (gI e 44 0)⟩)] ⟨fun _ => ⟨rfl, impl_flowSum_c8_ok G _ _ _ _ _ _ _⟩, trivial⟩ [(13,[0,1,6,7,8,11,43,44,45])] [] [] (impl_flowSum_c7_t x292 x293 x294 x295 x296) rfl rfl (by kernel_rfl)
def impl_flowSum_c3_t (x237 : LR) (x238 : Int) (x239 : LR) (x240 : Int) : Tr (LR × Bool × Unit) LR Empty Empty Empty :=
  .s (impl_flowSum_c4_S x237 x238 x239 x240) (fun q290 => .s (impl_flowSum_c7_S x237 x238 x239 x240 q290) (fun q482 => .w [lim (lenI .row x239) (lenI .row q482)] (.l (.n (x239 ++ q482)))) nE nE nE) nE nE nE
def impl_flowSum_c3 := fun x237 x238 x239 x240 => (impl_flowSum_c3_t x237 x238 x239 x240).val
def impl_flowSum_c3_ob := fun x237 x238 x239 x240 => (impl_flowSum_c3_t x237 x238 x239 x240).ob
def impl_flowSum_c3_S := fun x237 x238 x239 x240 => SubP.mk (impl_flowSum_c3 x237 x238 x239 x240) (impl_flowSum_c3_ob x237 x238 x239 x240) [0,1,0,0,1,0,1,1] [(0, .S .row x237), (1, .I x238), (6, .A .row x239), (7, .I x240)] rv155 (fun q => [(0, .S .row x237), (1, .I x238), (6, .A .row q), (7, .I x240)]) nE nE nE
theorem impl_flowSum_c3_ok (G : Good Try.prog tt sp_impl_flowSum) {fr : Fr} : ∀ x237 x238 x239 x240, Ok155 fr (impl_flowSum_c3_S x237 x238 x239 x240) :=
  fun x237 x238 x239 x240 => run_ok G [([0,1,0,0,1,0,0,1,0,1,1], fun e => ⟨impl_flowSum_c4_S (gL .row e 0 0) (gI e 1 0) (gL .row e 6 0) (gI e 7 0)⟩), ([0,1,1,1,0,0,1,0,0,1,0,1,1], fun e => ⟨impl_flowSum_c7_S (gL .row e 0 0) (gI e 1 0) (gL .row e 6 0) (gI e 7 0) (gL .row e 8 0)⟩)] ⟨fun _ => ⟨rfl, impl_flowSum_c4_ok G _ _ _ _⟩, fun _ => ⟨rfl, impl_flowSum_c7_ok G _ _ _ _ _⟩, trivial⟩ [(5,[0,1,6,7,8]),(12,[0,1,6,7,8,11]),(28,[0,1,6,7])] [] [] (impl_flowSum_c3_t x237 x238 x239 x240) rfl rfl (by kernel_rfl)
def impl_flowSum_c2_r_t (x3 : LR) (x4 : Int) (s234 : LR) (s235 : Int) : Tr (LR × Bool × Unit) (LR × Int) LR Empty Empty :=
  .c (cmp .lss s235 4)
  (.s (impl_flowSum_c3_S x3 x4 s234 s235) (fun q489 => .l (.n (q489, (ar .add .i64 s235 1)))) nE nE nE)
  (.l (.x s234))
def impl_flowSum_c2_r := fun x3 x4 s234 s235 => (impl_flowSum_c2_r_t x3 x4 s234 s235).val
def impl_flowSum_c2_r_ob := fun x3 x4 s234 s235 => (impl_flowSum_c2_r_t x3 x4 s234 s235).ob
def impl_flowSum_c2_r_S := fun x3 x4 s234 s235 => mkRd (impl_flowSum_c2_r x3 x4 s234 s235) (impl_flowSum_c2_r_ob x3 x4 s234 s235) [0,0,1,0,1,1] (fun q => [(0, .S .row x3), (1, .I x4), (6, .A .row q.1), (7, .I q.2)]) (s234, s235) rv155 (fun q => (0, [(6, .A .row q)])) nE nE
theorem impl_flowSum_c2_r_ok (G : Good Try.prog tt sp_impl_flowSum) {fr : Fr} : ∀ x3 x4 s234 s235, Ok155 fr (impl_flowSum_c2_r_S x3 x4 s234 s235) :=
  fun x3 x4 s234 s235 => run_ok G [([0,1,0,0,1,0,1,1], fun e => ⟨impl_flowSum_c3_S (gL .row e 0 0) (gI e 1 0) (gL .row e 6 0) (gI e 7 0)⟩)] ⟨fun _ => ⟨rfl, impl_flowSum_c3_ok G _ _ _ _⟩, trivial⟩ [(3,[0,1,6,7,21]),(4,[0,1,6,7])] [] [] (impl_flowSum_c2_r_t x3 x4 s234 s235) rfl rfl (by kernel_rfl)
def impl_flowSum_c2 := fun x3 x4 => lpV (fun s : LR × Int => ocLp (impl_flowSum_c2_r x3 x4 s.1 s.2)) ([], 0)
def impl_flowSum_c2_ob := fun x3 x4 => LpT (fun s : LR × Int => ocLp (impl_flowSum_c2_r x3 x4 s.1 s.2)) (fun s => impl_flowSum_c2_r_ob x3 x4 s.1 s.2) ([], 0)
def impl_flowSum_c2_S := fun x3 x4 => lpS (impl_flowSum_c2_r_S x3 x4 [] 0) (impl_flowSum_c2 x3 x4) (impl_flowSum_c2_ob x3 x4)
theorem impl_flowSum_c2_ok (G : Good Try.prog tt sp_impl_flowSum) {fr : Fr} : ∀ x3 x4, Ok155 fr (impl_flowSum_c2_S x3 x4) :=
  fun x3 x4 => loop_ok (fun s : LR × Int => impl_flowSum_c2_r_S x3 x4 s.1 s.2) ([], 0) (fun _ => rfl) (fun _ => ⟨rfl, rfl, rfl, rfl, rfl⟩) (by kernel_rfl) fun _ => impl_flowSum_c2_r_ok G _ _ _ _
def impl_flowSum_c1_t (x1 : LR) (x2 : Int) : Tr (LR × Bool × Unit) LR Empty Empty Empty :=
  .s (impl_flowSum_c2_S x1 x2) nE (fun q500 => .l (.n q500)) nE nE
def impl_flowSum_c1 := fun x1 x2 => (impl_flowSum_c1_t x1 x2).val
def impl_flowSum_c1_ob := fun x1 x2 => (impl_flowSum_c1_t x1 x2).ob
def impl_flowSum_c1_S := fun x1 x2 => SubP.mk (impl_flowSum_c1 x1 x2) (impl_flowSum_c1_ob x1 x2) [0,1,1] [(0, .S .row x1), (1, .I x2), (6, .A .row [])] rv155 (fun q => [(6, .A .row q)]) nE nE nE
theorem impl_flowSum_c1_ok (G : Good Try.prog tt sp_impl_flowSum) {fr : Fr} : ∀ x1 x2, Ok155 fr (impl_flowSum_c1_S x1 x2) :=
  fun x1 x2 => run_ok G [([0,1,0,1,1], fun e => ⟨impl_flowSum_c2_S (gL .row e 0 0) (gI e 1 0)⟩)] ⟨fun _ => ⟨rfl, impl_flowSum_c2_ok G _ _⟩, trivial⟩ [(2,[0,1,6,7])] [] [] (impl_flowSum_c1_t x1 x2) rfl rfl (by kernel_rfl)
def impl_flowSum_b_t (a0 : LR) (a1 : Int) : Tr (LR × Bool × Unit) Empty Empty Empty Empty :=
  .s (impl_flowSum_c1_S a0 a1) (fun q503 => .w [(p_impl_batch q503)] (.l (.r ((v_impl_batch q503).1, ((v_impl_batch q503).2.1, ()))))) nE nE nE
def impl_flowSum_b := fun a0 a1 => (impl_flowSum_b_t a0 a1).val
def impl_flowSum_b_ob := fun a0 a1 => (impl_flowSum_b_t a0 a1).ob
def impl_flowSum_b_S := fun a0 a1 => SubP.mk (impl_flowSum_b a0 a1) (impl_flowSum_b_ob a0 a1) [] [(0, .S .row a0), (1, .I a1)] rv155 nE nE nE nE
theorem impl_flowSum_b_ok (G : Good Try.prog tt sp_impl_flowSum) {fr : Fr} : ∀ a0 a1, Ok155 fr (impl_flowSum_b_S a0 a1) :=
  fun a0 a1 => run_ok G [([0,1,1], fun e => ⟨impl_flowSum_c1_S (gL .row e 0 0) (gI e 1 0)⟩)] ⟨fun _ => ⟨rfl, impl_flowSum_c1_ok G _ _⟩, trivial⟩ [(0,[0,1]),(1,[0,1,6]),(29,[4,5])] [] [] (impl_flowSum_b_t a0 a1) rfl rfl (by kernel_rfl)
def v_impl_flowSum (a0 : LR) (a1 : Int) : LR × Bool × Unit := ocR (impl_flowSum_b a0 a1)
def p_impl_flowSum (a0 : LR) (a1 : Int) : Prop := impl_flowSum_b_ob a0 a1
def s_impl_flowSum : Spec := ⟨[(.lst .row), (.int .i64)], .tup [(false, (.lst .row)), (true, .bool)], false, fun x => (v_impl_flowSum x.1 x.2.1, 0), fun x => p_impl_flowSum x.1 x.2.1⟩
theorem con_impl_flowSum (G : Good Try.prog tt sp_impl_flowSum) : Con Try.prog 155 s_impl_flowSum :=
  con_run (pts := [(.lst .row), (.int .i64)]) (rt := .tup [(false, (.lst .row)), (true, .bool)]) (o := fun x => impl_flowSum_b x.1 x.2.1) (ob := fun x => impl_flowSum_b_ob x.1 x.2.1) G (fn := Try.f155) (c := bodyOf Try.f155) (by kernel_rfl) (by kernel_rfl) (by kernel_rfl) (rs := [.tmp 4, .tmp 5]) (fz := F155.fz) (by kernel_rfl) (by kernel_rfl) (fun _ => rfl) rfl (fun x => impl_flowSum_b_S x.1 x.2.1) (fun _ => ⟨rfl, rfl, rfl, rfl, rfl⟩) (fun x _ => impl_flowSum_b_ok G x.1 x.2.1)

abbrev V139 := Plan → List LR → LR × Bool × Unit
abbrev Q139 := Plan → List LR → Prop
def rs_impl_planFlow (v : V139) (p : Q139) : Spec := ⟨[(.st .plan), (.lst .lrow)], .tup [(false, (.lst .row)), (true, .bool)], false, fun x => (v x.1 x.2.1, 0), fun x => p x.1 x.2.1⟩
def sp_impl_planFlow (r139V : V139) (r139P : Q139) : SP := [(139, rs_impl_planFlow r139V r139P), (150, s_impl_rowsCopy), (151, s_impl_flowEach), (152, s_impl_together), (91, s_impl_batch), (153, s_impl_negated), (154, s_impl_flowJoin), (155, s_impl_flowSum)]
abbrev F139 : Fnn := ⟨[.tmp 4, .tmp 5], .tup [(false, (.lst .row)), (true, .bool)], none, []⟩
abbrev rv139 : LR × Bool × Unit → RV := fun q => (some (RT.av (.tup [(false, (.lst .row)), (true, .bool)]) q), .dead)
abbrev Ok139 (fr : Fr) {A X Y Z : Type} (S : SubP (LR × Bool × Unit) A X Y Z) : Prop := SubOk Try.prog tt ⟨Try.f139.ntmps, none, []⟩ fr (bodyOf Try.f139) F139 S
def impl_planFlow_c2_r_t (r139V : V139) (r139P : Q139) (x5 : List LR) (_x6 _x7 : Int) (x8 : LP) (x9 : Int) (s14 : List LR) (s15 : Int) : Tr (LR × Bool × Unit) ((List LR) × Int) ((List LR)) Empty Empty :=
  .c (cmp .lss s15 x9)
  (.w [inb s15 (lenI .plan x8)] (.w [(r139P (Plan.mk (rd .plan x8 s15).Kind (rd .plan x8 s15).Num (rd .plan x8 s15).Kids) x5)] (.c (!(r139V (Plan.mk (rd .plan x8 s15).Kind (rd .plan x8 s15).Num (rd .plan x8 s15).Kids) x5).2.1)
  (.l (.r ([], (false, ()))))
  (.w [lim (lenI .lrow s14) (lenI .lrow [(r139V (Plan.mk (rd .plan x8 s15).Kind (rd .plan x8 s15).Num (rd .plan x8 s15).Kids) x5).1])] (.l (.n ((s14 ++ [(r139V (Plan.mk (rd .plan x8 s15).Kind (rd .plan x8 s15).Num (rd .plan x8 s15).Kids) x5).1]), (ar .add .i64 s15 1))))))))
  (.l (.x s14))
def impl_planFlow_c2_r := fun r139V r139P x5 x6 x7 x8 x9 s14 s15 => (impl_planFlow_c2_r_t r139V r139P x5 x6 x7 x8 x9 s14 s15).val
def impl_planFlow_c2_r_ob := fun r139V r139P x5 x6 x7 x8 x9 s14 s15 => (impl_planFlow_c2_r_t r139V r139P x5 x6 x7 x8 x9 s14 s15).ob
def impl_planFlow_c2_r_S := fun r139V r139P x5 x6 x7 x8 x9 s14 s15 => mkRd (impl_planFlow_c2_r r139V r139P x5 x6 x7 x8 x9 s14 s15) (impl_planFlow_c2_r_ob r139V r139P x5 x6 x7 x8 x9 s14 s15) [0,0,1,0,1,1] (fun q => [(1, .S .lrow x5), (2, .box [(.fr, .i x6), (.fr, .i x7), (.sh, .lst .plan x8)]), (6, .v (.acc false) (.lst .lrow q.1)), (12, .S .plan x8), (13, .I x9), (14, .I q.2)]) (s14, s15) rv139 (fun q => (0, [(1, .S .lrow x5), (2, .box [(.fr, .i x6), (.fr, .i x7), (.sh, .lst .plan x8)]), (6, .v (.acc false) (.lst .lrow q))])) nE nE
theorem impl_planFlow_c2_r_ok {r139V : V139} {r139P : Q139} (G : Good Try.prog tt (sp_impl_planFlow r139V r139P)) {fr : Fr} : ∀ x5 x6 x7 x8 x9 s14 s15, Ok139 fr (impl_planFlow_c2_r_S r139V r139P x5 x6 x7 x8 x9 s14 s15) :=
  fun x5 x6 x7 x8 x9 s14 s15 => run_ok G [] trivial [(3,[1,2,6,12,13,14,15]),(4,[1,2,6,8,12,13,14]),(5,[1,2,6,9,10,12,13,14]),(6,[1,2,6,9,12,13,14,25]),(7,[4,5]),(8,[1,2,6,12,13,14]),(9,[1,2,6,12,13,14])] [] [] (impl_planFlow_c2_r_t r139V r139P x5 x6 x7 x8 x9 s14 s15) rfl rfl (by kernel_rfl)
def impl_planFlow_c2 := fun r139V r139P x5 x6 x7 x8 x9 => lpV (fun s : (List LR) × Int => ocLp (impl_planFlow_c2_r r139V r139P x5 x6 x7 x8 x9 s.1 s.2)) ([], 0)
def impl_planFlow_c2_ob := fun r139V r139P x5 x6 x7 x8 x9 => LpT (fun s : (List LR) × Int => ocLp (impl_planFlow_c2_r r139V r139P x5 x6 x7 x8 x9 s.1 s.2)) (fun s => impl_planFlow_c2_r_ob r139V r139P x5 x6 x7 x8 x9 s.1 s.2) ([], 0)
def impl_planFlow_c2_S := fun r139V r139P x5 x6 x7 x8 x9 => lpS (impl_planFlow_c2_r_S r139V r139P x5 x6 x7 x8 x9 [] 0) (impl_planFlow_c2 r139V r139P x5 x6 x7 x8 x9) (impl_planFlow_c2_ob r139V r139P x5 x6 x7 x8 x9)
theorem impl_planFlow_c2_ok {r139V : V139} {r139P : Q139} (G : Good Try.prog tt (sp_impl_planFlow r139V r139P)) {fr : Fr} : ∀ x5 x6 x7 x8 x9, Ok139 fr (impl_planFlow_c2_S r139V r139P x5 x6 x7 x8 x9) :=
  fun x5 x6 x7 x8 x9 => loop_ok (fun s : (List LR) × Int => impl_planFlow_c2_r_S r139V r139P x5 x6 x7 x8 x9 s.1 s.2) ([], 0) (fun _ => rfl) (fun _ => ⟨rfl, rfl, rfl, rfl, rfl⟩) (by kernel_rfl) fun _ => impl_planFlow_c2_r_ok G _ _ _ _ _ _ _
def impl_planFlow_c1_t (r139V : V139) (r139P : Q139) (x1 : List LR) (x2 x3 : Int) (x4 : LP) : Tr (LR × Bool × Unit) ((List LR)) Empty Empty Empty :=
  .s (impl_planFlow_c2_S r139V r139P x1 x2 x3 x4 (lenI .plan x4)) nE (fun q25 => .l (.n q25)) nE nE
def impl_planFlow_c1 := fun r139V r139P x1 x2 x3 x4 => (impl_planFlow_c1_t r139V r139P x1 x2 x3 x4).val
def impl_planFlow_c1_ob := fun r139V r139P x1 x2 x3 x4 => (impl_planFlow_c1_t r139V r139P x1 x2 x3 x4).ob
def impl_planFlow_c1_S := fun r139V r139P x1 x2 x3 x4 => SubP.mk (impl_planFlow_c1 r139V r139P x1 x2 x3 x4) (impl_planFlow_c1_ob r139V r139P x1 x2 x3 x4) [0,1,1] [(1, .S .lrow x1), (2, .box [(.fr, .i x2), (.fr, .i x3), (.sh, .lst .plan x4)]), (6, .v .fr (.nl .lrow))] rv139 (fun q => [(1, .S .lrow x1), (2, .box [(.fr, .i x2), (.fr, .i x3), (.sh, .lst .plan x4)]), (6, .v (.acc false) (.lst .lrow q))]) nE nE nE
theorem impl_planFlow_c1_ok {r139V : V139} {r139P : Q139} (G : Good Try.prog tt (sp_impl_planFlow r139V r139P)) {fr : Fr} : ∀ x1 x2 x3 x4, Ok139 fr (impl_planFlow_c1_S r139V r139P x1 x2 x3 x4) :=
  fun x1 x2 x3 x4 => run_ok G [([0,1,0,1,1], fun e => ⟨impl_planFlow_c2_S r139V r139P (gL .lrow e 1 0) (gI e 2 0) (gI e 2 1) (gL .plan e 2 2) (gI e 13 0)⟩)] ⟨fun _ => ⟨rfl, impl_planFlow_c2_ok G _ _ _ _ _⟩, trivial⟩ [(2,[1,2,6,12,13,14])] [] [] (impl_planFlow_c1_t r139V r139P x1 x2 x3 x4) rfl rfl (by kernel_rfl)
def impl_planFlow_b_t (r139V : V139) (r139P : Q139) (a0 : Plan) (a1 : List LR) : Tr (LR × Bool × Unit) Empty Empty Empty Empty :=
  .s (impl_planFlow_c1_S r139V r139P a1 a0.Kind a0.Num a0.Kids) (fun q28 => .c (cmp .eql a0.Kind 1)
  (.w [inb a0.Num (lenI .lrow a1), (p_impl_rowsCopy (rd .lrow a1 a0.Num))] (.l (.r ((v_impl_rowsCopy (rd .lrow a1 a0.Num)), (true, ())))))
  (.c (cmp .eql a0.Kind 2)
  (.w [inb 0 (lenI .lrow q28), (p_impl_flowEach (rd .lrow q28 0) a0.Num)] (.l (.r ((v_impl_flowEach (rd .lrow q28 0) a0.Num).1, ((v_impl_flowEach (rd .lrow q28 0) a0.Num).2.1, ())))))
  (.c (cmp .eql a0.Kind 3)
  (.w [inb 0 (lenI .lrow q28), inb 1 (lenI .lrow q28), (p_impl_together (rd .lrow q28 0) (rd .lrow q28 1)), (p_impl_batch (v_impl_together (rd .lrow q28 0) (rd .lrow q28 1)))] (.l (.r ((v_impl_batch (v_impl_together (rd .lrow q28 0) (rd .lrow q28 1))).1, ((v_impl_batch (v_impl_together (rd .lrow q28 0) (rd .lrow q28 1))).2.1, ())))))
  (.c (cmp .eql a0.Kind 4)
  (.w [inb 0 (lenI .lrow q28), (p_impl_negated (rd .lrow q28 0)), (p_impl_batch (v_impl_negated (rd .lrow q28 0)))] (.l (.r ((v_impl_batch (v_impl_negated (rd .lrow q28 0))).1, ((v_impl_batch (v_impl_negated (rd .lrow q28 0))).2.1, ())))))
  (.c (cmp .eql a0.Kind 5)
  (.w [inb 0 (lenI .lrow q28), inb 1 (lenI .lrow q28), (p_impl_flowJoin (rd .lrow q28 0) (rd .lrow q28 1))] (.l (.r ((v_impl_flowJoin (rd .lrow q28 0) (rd .lrow q28 1)).1, ((v_impl_flowJoin (rd .lrow q28 0) (rd .lrow q28 1)).2.1, ())))))
  (.w [inb 0 (lenI .lrow q28), (p_impl_flowSum (rd .lrow q28 0) a0.Num)] (.l (.r ((v_impl_flowSum (rd .lrow q28 0) a0.Num).1, ((v_impl_flowSum (rd .lrow q28 0) a0.Num).2.1, ())))))))))) nE nE nE
def impl_planFlow_b := fun r139V r139P a0 a1 => (impl_planFlow_b_t r139V r139P a0 a1).val
def impl_planFlow_b_ob := fun r139V r139P a0 a1 => (impl_planFlow_b_t r139V r139P a0 a1).ob
def impl_planFlow_b_S := fun r139V r139P a0 a1 => SubP.mk (impl_planFlow_b r139V r139P a0 a1) (impl_planFlow_b_ob r139V r139P a0 a1) [] [(0, .agg false [.i a0.Kind, .i a0.Num, .lst .plan a0.Kids]), (1, .S .lrow a1)] rv139 nE nE nE nE
theorem impl_planFlow_b_ok {r139V : V139} {r139P : Q139} (G : Good Try.prog tt (sp_impl_planFlow r139V r139P)) {fr : Fr} : ∀ a0 a1, Ok139 fr (impl_planFlow_b_S r139V r139P a0 a1) :=
  fun a0 a1 => run_ok G [([0,1,1], fun e => ⟨impl_planFlow_c1_S r139V r139P (gL .lrow e 1 0) (gI e 2 0) (gI e 2 1) (gL .plan e 2 2)⟩)] ⟨fun _ => ⟨rfl, impl_planFlow_c1_ok G _ _ _ _⟩, trivial⟩ [(0,[1,2]),(1,[1,2,6]),(10,[1,2,6,32]),(11,[1,2,6,32,33]),(12,[4,5]),(13,[2,6,32,41]),(14,[4,5]),(15,[2,6,32,51]),(16,[4,5]),(17,[2,6,32,63]),(18,[4,5]),(19,[2,6,72]),(20,[4,5]),(21,[4,5])] [] [] (impl_planFlow_b_t r139V r139P a0 a1) rfl rfl (by kernel_rfl)
theorem con_impl_planFlow {r139V : V139} {r139P : Q139} (G : Good Try.prog tt (sp_impl_planFlow r139V r139P)) : Con Try.prog 139 (rs_impl_planFlow (fun a0 a1 => ocR (impl_planFlow_b r139V r139P a0 a1)) (fun a0 a1 => impl_planFlow_b_ob r139V r139P a0 a1)) :=
  con_run (pts := [(.st .plan), (.lst .lrow)]) (rt := .tup [(false, (.lst .row)), (true, .bool)]) (o := fun x => impl_planFlow_b r139V r139P x.1 x.2.1) (ob := fun x => impl_planFlow_b_ob r139V r139P x.1 x.2.1) G (fn := Try.f139) (c := bodyOf Try.f139) (by kernel_rfl) (by kernel_rfl) (by kernel_rfl) (rs := [.tmp 4, .tmp 5]) (fz := F139.fz) (by kernel_rfl) (by kernel_rfl) (fun _ => rfl) rfl (fun x => impl_planFlow_b_S r139V r139P x.1 x.2.1) (fun _ => ⟨rfl, rfl, rfl, rfl, rfl⟩) (fun x _ => impl_planFlow_b_ok G x.1 x.2.1)

def vp_impl_planFlow : Nat → V139 × Q139
  | 0 => (fun _ _ => default, fun _ _ => False)
  | n + 1 => (fun a0 a1 => ocR (impl_planFlow_b (vp_impl_planFlow n).1 (vp_impl_planFlow n).2 a0 a1), fun a0 a1 => impl_planFlow_b_ob (vp_impl_planFlow n).1 (vp_impl_planFlow n).2 a0 a1)
def v_impl_planFlow : V139 := (vp_impl_planFlow fuelN).1
def p_impl_planFlow : Q139 := (vp_impl_planFlow fuelN).2
def s_impl_planFlow : Spec := rs_impl_planFlow v_impl_planFlow p_impl_planFlow

def sp_impl_PlanFlow : SP := [(69, s_impl_PlanOk), (58, s_impl_BatchOk), (139, s_impl_planFlow)]
abbrev F117 : Fnn := ⟨[.tmp 4, .tmp 5], .tup [(false, (.lst .row)), (true, .bool)], none, []⟩
abbrev rv117 : LR × Bool × Unit → RV := fun q => (some (RT.av (.tup [(false, (.lst .row)), (true, .bool)]) q), .dead)
abbrev Ok117 (fr : Fr) {A X Y Z : Type} (S : SubP (LR × Bool × Unit) A X Y Z) : Prop := SubOk Try.prog tt ⟨Try.f117.ntmps, none, []⟩ fr (bodyOf Try.f117) F117 S
def impl_PlanFlow_c2_r_t (x6 : List LR) (_x7 _x8 : Int) (_x9 : LP) (x10 s14 : Int) : Tr (LR × Bool × Unit) Int Unit Empty Empty :=
  .c (cmp .lss s14 x10)
  (.w [inb s14 (lenI .lrow x6)] (.w [(p_impl_BatchOk (rd .lrow x6 s14))] (.c (!(v_impl_BatchOk (rd .lrow x6 s14)))
  (.l (.r ([], (false, ()))))
  (.l (.n (ar .add .i64 s14 1))))))
  (.l (.x ()))
def impl_PlanFlow_c2_r := fun x6 x7 x8 x9 x10 s14 => (impl_PlanFlow_c2_r_t x6 x7 x8 x9 x10 s14).val
def impl_PlanFlow_c2_r_ob := fun x6 x7 x8 x9 x10 s14 => (impl_PlanFlow_c2_r_t x6 x7 x8 x9 x10 s14).ob
def impl_PlanFlow_c2_r_S := fun x6 x7 x8 x9 x10 s14 => mkRd (impl_PlanFlow_c2_r x6 x7 x8 x9 x10 s14) (impl_PlanFlow_c2_r_ob x6 x7 x8 x9 x10 s14) [0,0,1,0,1,1] (fun q => [(1, .S .lrow x6), (2, .box [(.fr, .i x7), (.fr, .i x8), (.sh, .lst .plan x9)]), (16, .S .lrow x6), (17, .I x10), (18, .I q)]) s14 rv117 (fun _ => (0, [(1, .S .lrow x6), (2, .box [(.fr, .i x7), (.fr, .i x8), (.sh, .lst .plan x9)])])) nE nE
theorem impl_PlanFlow_c2_r_ok (G : Good Try.prog tt sp_impl_PlanFlow) {fr : Fr} : ∀ x6 x7 x8 x9 x10 s14, Ok117 fr (impl_PlanFlow_c2_r_S x6 x7 x8 x9 x10 s14) :=
  fun x6 x7 x8 x9 x10 s14 => run_ok G [] trivial [(4,[1,2,16,17,18,19]),(5,[1,2,7,16,17,18]),(6,[1,2,16,17,18,24]),(7,[4,5]),(8,[1,2,16,17,18])] [] [] (impl_PlanFlow_c2_r_t x6 x7 x8 x9 x10 s14) rfl rfl (by kernel_rfl)
def impl_PlanFlow_c2 := fun x6 x7 x8 x9 x10 => lpV (fun s : Int => ocLp (impl_PlanFlow_c2_r x6 x7 x8 x9 x10 s)) 0
def impl_PlanFlow_c2_ob := fun x6 x7 x8 x9 x10 => LpT (fun s : Int => ocLp (impl_PlanFlow_c2_r x6 x7 x8 x9 x10 s)) (fun s => impl_PlanFlow_c2_r_ob x6 x7 x8 x9 x10 s) 0
def impl_PlanFlow_c2_S := fun x6 x7 x8 x9 x10 => lpS (impl_PlanFlow_c2_r_S x6 x7 x8 x9 x10 0) (impl_PlanFlow_c2 x6 x7 x8 x9 x10) (impl_PlanFlow_c2_ob x6 x7 x8 x9 x10)
theorem impl_PlanFlow_c2_ok (G : Good Try.prog tt sp_impl_PlanFlow) {fr : Fr} : ∀ x6 x7 x8 x9 x10, Ok117 fr (impl_PlanFlow_c2_S x6 x7 x8 x9 x10) :=
  fun x6 x7 x8 x9 x10 => loop_ok (fun s : Int => impl_PlanFlow_c2_r_S x6 x7 x8 x9 x10 s) 0 (fun _ => rfl) (fun _ => ⟨rfl, rfl, rfl, rfl, rfl⟩) (by kernel_rfl) fun _ => impl_PlanFlow_c2_r_ok G _ _ _ _ _ _
def impl_PlanFlow_c1_t (x2 : List LR) (x3 x4 : Int) (x5 : LP) : Tr (LR × Bool × Unit) Unit Empty Empty Empty :=
  .s (impl_PlanFlow_c2_S x2 x3 x4 x5 (lenI .lrow x2)) nE (fun _ => .l (.n ())) nE nE
def impl_PlanFlow_c1 := fun x2 x3 x4 x5 => (impl_PlanFlow_c1_t x2 x3 x4 x5).val
def impl_PlanFlow_c1_ob := fun x2 x3 x4 x5 => (impl_PlanFlow_c1_t x2 x3 x4 x5).ob
def impl_PlanFlow_c1_S := fun x2 x3 x4 x5 => SubP.mk (impl_PlanFlow_c1 x2 x3 x4 x5) (impl_PlanFlow_c1_ob x2 x3 x4 x5) [0,1,1] [(1, .S .lrow x2), (2, .box [(.fr, .i x3), (.fr, .i x4), (.sh, .lst .plan x5)])] rv117 (fun _ => [(1, .S .lrow x2), (2, .box [(.fr, .i x3), (.fr, .i x4), (.sh, .lst .plan x5)])]) nE nE nE
theorem impl_PlanFlow_c1_ok (G : Good Try.prog tt sp_impl_PlanFlow) {fr : Fr} : ∀ x2 x3 x4 x5, Ok117 fr (impl_PlanFlow_c1_S x2 x3 x4 x5) :=
  fun x2 x3 x4 x5 => run_ok G [([0,1,0,1,1], fun e => ⟨impl_PlanFlow_c2_S (gL .lrow e 1 0) (gI e 2 0) (gI e 2 1) (gL .plan e 2 2) (gI e 17 0)⟩)] ⟨fun _ => ⟨rfl, impl_PlanFlow_c2_ok G _ _ _ _ _⟩, trivial⟩ [(3,[1,2,16,17,18])] [] [] (impl_PlanFlow_c1_t x2 x3 x4 x5) rfl rfl (by kernel_rfl)
def impl_PlanFlow_b_t (a0 : Plan) (a1 : List LR) : Tr (LR × Bool × Unit) Empty Empty Empty Empty :=
  .w [(p_impl_PlanOk (Plan.mk a0.Kind a0.Num a0.Kids))] (.c (cond (!(v_impl_PlanOk (Plan.mk a0.Kind a0.Num a0.Kids))) true (cmp .neq (lenI .lrow a1) 2))
  (.l (.r ([], (false, ()))))
  (.s (impl_PlanFlow_c1_S a1 a0.Kind a0.Num a0.Kids) (fun _ => .w [(p_impl_planFlow (Plan.mk a0.Kind a0.Num a0.Kids) a1)] (.l (.r ((v_impl_planFlow (Plan.mk a0.Kind a0.Num a0.Kids) a1).1, ((v_impl_planFlow (Plan.mk a0.Kind a0.Num a0.Kids) a1).2.1, ()))))) nE nE nE))
def impl_PlanFlow_b := fun a0 a1 => (impl_PlanFlow_b_t a0 a1).val
def impl_PlanFlow_b_ob := fun a0 a1 => (impl_PlanFlow_b_t a0 a1).ob
def impl_PlanFlow_b_S := fun a0 a1 => SubP.mk (impl_PlanFlow_b a0 a1) (impl_PlanFlow_b_ob a0 a1) [] [(0, .agg false [.i a0.Kind, .i a0.Num, .lst .plan a0.Kids]), (1, .S .lrow a1)] rv117 nE nE nE nE
theorem impl_PlanFlow_b_ok (G : Good Try.prog tt sp_impl_PlanFlow) {fr : Fr} : ∀ a0 a1, Ok117 fr (impl_PlanFlow_b_S a0 a1) :=
  fun a0 a1 => run_ok G [([0,1,1], fun e => ⟨impl_PlanFlow_c1_S (gL .lrow e 1 0) (gI e 2 0) (gI e 2 1) (gL .plan e 2 2)⟩)] ⟨fun _ => ⟨rfl, impl_PlanFlow_c1_ok G _ _ _ _⟩, trivial⟩ [(0,[1,2]),(1,[1,2,15]),(2,[4,5]),(9,[4,5])] [] [] (impl_PlanFlow_b_t a0 a1) rfl rfl (by kernel_rfl)
def v_impl_PlanFlow (a0 : Plan) (a1 : List LR) : LR × Bool × Unit := ocR (impl_PlanFlow_b a0 a1)
def p_impl_PlanFlow (a0 : Plan) (a1 : List LR) : Prop := impl_PlanFlow_b_ob a0 a1
def s_impl_PlanFlow : Spec := ⟨[(.st .plan), (.lst .lrow)], .tup [(false, (.lst .row)), (true, .bool)], false, fun x => (v_impl_PlanFlow x.1 x.2.1, 0), fun x => p_impl_PlanFlow x.1 x.2.1⟩
theorem con_impl_PlanFlow (G : Good Try.prog tt sp_impl_PlanFlow) : Con Try.prog 117 s_impl_PlanFlow :=
  con_run (pts := [(.st .plan), (.lst .lrow)]) (rt := .tup [(false, (.lst .row)), (true, .bool)]) (o := fun x => impl_PlanFlow_b x.1 x.2.1) (ob := fun x => impl_PlanFlow_b_ob x.1 x.2.1) G (fn := Try.f117) (c := bodyOf Try.f117) (by kernel_rfl) (by kernel_rfl) (by kernel_rfl) (rs := [.tmp 4, .tmp 5]) (fz := F117.fz) (by kernel_rfl) (by kernel_rfl) (fun _ => rfl) rfl (fun x => impl_PlanFlow_b_S x.1 x.2.1) (fun _ => ⟨rfl, rfl, rfl, rfl, rfl⟩) (fun x _ => impl_PlanFlow_b_ok G x.1 x.2.1)

def sp_impl_beyond : SP := [(133, s_impl_below)]
abbrev F115 : Fnn := ⟨[.tmp 4], .one .fr .bool, none, []⟩
abbrev rv115 : Bool → RV := fun q => (some (RT.av (.one .fr .bool) q), .dead)
abbrev Ok115 (fr : Fr) {A X Y Z : Type} (S : SubP Bool A X Y Z) : Prop := SubOk Try.prog tt ⟨Try.f115.ntmps, none, []⟩ fr (bodyOf Try.f115) F115 S
def impl_beyond_c2_r_t (x3 : Time) (x4 : List Time) (x5 s9 : Int) : Tr Bool Int Unit Empty Empty :=
  .c (cmp .lss s9 x5)
  (.w [inb s9 (lenI .time x4)] (.w [(p_impl_below (rd .time x4 s9) x3)] (.c (v_impl_below (rd .time x4 s9) x3)
  (.l (.r true))
  (.l (.n (ar .add .i64 s9 1))))))
  (.l (.x ()))
def impl_beyond_c2_r := fun x3 x4 x5 s9 => (impl_beyond_c2_r_t x3 x4 x5 s9).val
def impl_beyond_c2_r_ob := fun x3 x4 x5 s9 => (impl_beyond_c2_r_t x3 x4 x5 s9).ob
def impl_beyond_c2_r_S := fun x3 x4 x5 s9 => mkRd (impl_beyond_c2_r x3 x4 x5 s9) (impl_beyond_c2_r_ob x3 x4 x5 s9) [0,0,1,0,1] (fun q => [(3, .box [(.fr, .i x3.A), (.fr, .i x3.B)]), (7, .S .time x4), (8, .I x5), (9, .I q)]) s9 rv115 (fun _ => (0, [])) nE nE
theorem impl_beyond_c2_r_ok (G : Good Try.prog tt sp_impl_beyond) {fr : Fr} : ∀ x3 x4 x5 s9, Ok115 fr (impl_beyond_c2_r_S x3 x4 x5 s9) :=
  fun x3 x4 x5 s9 => run_ok G [] trivial [(2,[3,7,8,9,10]),(3,[3,6,7,8,9]),(4,[3,7,8,9,15]),(5,[4]),(6,[3,7,8,9])] [] [] (impl_beyond_c2_r_t x3 x4 x5 s9) rfl rfl (by kernel_rfl)
def impl_beyond_c2 := fun x3 x4 x5 => lpV (fun s : Int => ocLp (impl_beyond_c2_r x3 x4 x5 s)) 0
def impl_beyond_c2_ob := fun x3 x4 x5 => LpT (fun s : Int => ocLp (impl_beyond_c2_r x3 x4 x5 s)) (fun s => impl_beyond_c2_r_ob x3 x4 x5 s) 0
def impl_beyond_c2_S := fun x3 x4 x5 => lpS (impl_beyond_c2_r_S x3 x4 x5 0) (impl_beyond_c2 x3 x4 x5) (impl_beyond_c2_ob x3 x4 x5)
theorem impl_beyond_c2_ok (G : Good Try.prog tt sp_impl_beyond) {fr : Fr} : ∀ x3 x4 x5, Ok115 fr (impl_beyond_c2_S x3 x4 x5) :=
  fun x3 x4 x5 => loop_ok (fun s : Int => impl_beyond_c2_r_S x3 x4 x5 s) 0 (fun _ => rfl) (fun _ => ⟨rfl, rfl, rfl, rfl, rfl⟩) (by kernel_rfl) fun _ => impl_beyond_c2_r_ok G _ _ _ _
def impl_beyond_c1_t (x1 : List Time) (x2 : Time) : Tr Bool Unit Empty Empty Empty :=
  .s (impl_beyond_c2_S x2 x1 (lenI .time x1)) nE (fun _ => .l (.n ())) nE nE
def impl_beyond_c1 := fun x1 x2 => (impl_beyond_c1_t x1 x2).val
def impl_beyond_c1_ob := fun x1 x2 => (impl_beyond_c1_t x1 x2).ob
def impl_beyond_c1_S := fun x1 x2 => SubP.mk (impl_beyond_c1 x1 x2) (impl_beyond_c1_ob x1 x2) [0,1] [(0, .S .time x1), (3, .box [(.fr, .i x2.A), (.fr, .i x2.B)])] rv115 (fun _ => []) nE nE nE
theorem impl_beyond_c1_ok (G : Good Try.prog tt sp_impl_beyond) {fr : Fr} : ∀ x1 x2, Ok115 fr (impl_beyond_c1_S x1 x2) :=
  fun x1 x2 => run_ok G [([0,1,0,1], fun e => ⟨impl_beyond_c2_S (gTime e 3) (gL .time e 7 0) (gI e 8 0)⟩)] ⟨fun _ => ⟨rfl, impl_beyond_c2_ok G _ _ _⟩, trivial⟩ [(1,[3,7,8,9])] [] [] (impl_beyond_c1_t x1 x2) rfl rfl (by kernel_rfl)
def impl_beyond_b_t (a0 : List Time) (a1 : Time) : Tr Bool Empty Empty Empty Empty :=
  .s (impl_beyond_c1_S a0 a1) (fun _ => .l (.r false)) nE nE nE
def impl_beyond_b := fun a0 a1 => (impl_beyond_b_t a0 a1).val
def impl_beyond_b_ob := fun a0 a1 => (impl_beyond_b_t a0 a1).ob
def impl_beyond_b_S := fun a0 a1 => SubP.mk (impl_beyond_b a0 a1) (impl_beyond_b_ob a0 a1) [] [(0, .S .time a0), (1, .agg true [.i a1.A, .i a1.B])] rv115 nE nE nE nE
theorem impl_beyond_b_ok (G : Good Try.prog tt sp_impl_beyond) {fr : Fr} : ∀ a0 a1, Ok115 fr (impl_beyond_b_S a0 a1) :=
  fun a0 a1 => run_ok G [([0,1], fun e => ⟨impl_beyond_c1_S (gL .time e 0 0) (gTime e 3)⟩)] ⟨fun _ => ⟨rfl, impl_beyond_c1_ok G _ _⟩, trivial⟩ [(0,[0,3]),(7,[4])] [] [] (impl_beyond_b_t a0 a1) rfl rfl (by kernel_rfl)
def v_impl_beyond (a0 : List Time) (a1 : Time) : Bool := ocR (impl_beyond_b a0 a1)
def p_impl_beyond (a0 : List Time) (a1 : Time) : Prop := impl_beyond_b_ob a0 a1
def s_impl_beyond : Spec := ⟨[(.lst .time), (.st .time)], .one .fr .bool, false, fun x => (v_impl_beyond x.1 x.2.1, 0), fun x => p_impl_beyond x.1 x.2.1⟩
theorem con_impl_beyond (G : Good Try.prog tt sp_impl_beyond) : Con Try.prog 115 s_impl_beyond :=
  con_run (pts := [(.lst .time), (.st .time)]) (rt := .one .fr .bool) (o := fun x => impl_beyond_b x.1 x.2.1) (ob := fun x => impl_beyond_b_ob x.1 x.2.1) G (fn := Try.f115) (c := bodyOf Try.f115) (by kernel_rfl) (by kernel_rfl) (by kernel_rfl) (rs := [.tmp 4]) (fz := F115.fz) (by kernel_rfl) (by kernel_rfl) (fun _ => rfl) rfl (fun x => impl_beyond_b_S x.1 x.2.1) (fun _ => ⟨rfl, rfl, rfl, rfl, rfl⟩) (fun x _ => impl_beyond_b_ok G x.1 x.2.1)

def sp_impl_completed : SP := [(115, s_impl_beyond)]
abbrev F119 : Fnn := ⟨[.tmp 4], .one .fr (.lst .row), none, []⟩
abbrev rv119 : LR → RV := fun q => (some (RT.av (.one .fr (.lst .row)) q), .dead)
abbrev Ok119 (fr : Fr) {A X Y Z : Type} (S : SubP LR A X Y Z) : Prop := SubOk Try.prog tt ⟨Try.f119.ntmps, none, []⟩ fr (bodyOf Try.f119) F119 S
def impl_completed_c3_t (x21 : List Time) (x22 x23 : LR) (_x24 x25 : Int) : Tr LR LR Empty Empty Empty :=
  .w [inb x25 (lenI .row x23)] (.w [(p_impl_beyond x21 (rd .row x23 x25).At)] (.c (!(v_impl_beyond x21 (rd .row x23 x25).At))
  (.w [lim (lenI .row x22) (lenI .row [(rd .row x23 x25)])] (.l (.n (x22 ++ [(rd .row x23 x25)]))))
  (.l (.n x22))))
def impl_completed_c3 := fun x21 x22 x23 x24 x25 => (impl_completed_c3_t x21 x22 x23 x24 x25).val
def impl_completed_c3_ob := fun x21 x22 x23 x24 x25 => (impl_completed_c3_t x21 x22 x23 x24 x25).ob
def impl_completed_c3_S := fun x21 x22 x23 x24 x25 => SubP.mk (impl_completed_c3 x21 x22 x23 x24 x25) (impl_completed_c3_ob x21 x22 x23 x24 x25) [0,1,1,0,0,1,0,1,1] [(1, .S .time x21), (5, .A .row x22), (9, .S .row x23), (10, .I x24), (11, .I x25)] rv119 (fun q => [(1, .S .time x21), (5, .A .row q), (9, .S .row x23), (10, .I x24), (11, .I x25)]) nE nE nE
theorem impl_completed_c3_ok (G : Good Try.prog tt sp_impl_completed) {fr : Fr} : ∀ x21 x22 x23 x24 x25, Ok119 fr (impl_completed_c3_S x21 x22 x23 x24 x25) :=
  fun x21 x22 x23 x24 x25 => run_ok G [] trivial [(4,[1,5,7,9,10,11]),(5,[1,5,7,9,10,11,19]),(6,[1,5,9,10,11])] [] [] (impl_completed_c3_t x21 x22 x23 x24 x25) rfl rfl (by kernel_rfl)
def impl_completed_c2_r_t (x3 : List Time) (x4 : LR) (x5 : Int) (s18 : LR) (s19 : Int) : Tr LR (LR × Int) LR Empty Empty :=
  .c (cmp .lss s19 x5)
  (.s (impl_completed_c3_S x3 s18 x4 x5 s19) (fun q28 => .l (.n (q28, (ar .add .i64 s19 1)))) nE nE nE)
  (.l (.x s18))
def impl_completed_c2_r := fun x3 x4 x5 s18 s19 => (impl_completed_c2_r_t x3 x4 x5 s18 s19).val
def impl_completed_c2_r_ob := fun x3 x4 x5 s18 s19 => (impl_completed_c2_r_t x3 x4 x5 s18 s19).ob
def impl_completed_c2_r_S := fun x3 x4 x5 s18 s19 => mkRd (impl_completed_c2_r x3 x4 x5 s18 s19) (impl_completed_c2_r_ob x3 x4 x5 s18 s19) [0,0,1,0,1,1] (fun q => [(1, .S .time x3), (5, .A .row q.1), (9, .S .row x4), (10, .I x5), (11, .I q.2)]) (s18, s19) rv119 (fun q => (0, [(5, .A .row q)])) nE nE
theorem impl_completed_c2_r_ok (G : Good Try.prog tt sp_impl_completed) {fr : Fr} : ∀ x3 x4 x5 s18 s19, Ok119 fr (impl_completed_c2_r_S x3 x4 x5 s18 s19) :=
  fun x3 x4 x5 s18 s19 => run_ok G [([0,1,1,0,0,1,0,1,1], fun e => ⟨impl_completed_c3_S (gL .time e 1 0) (gL .row e 5 0) (gL .row e 9 0) (gI e 10 0) (gI e 11 0)⟩)] ⟨fun _ => ⟨rfl, impl_completed_c3_ok G _ _ _ _ _⟩, trivial⟩ [(3,[1,5,9,10,11,12]),(7,[1,5,9,10,11])] [] [] (impl_completed_c2_r_t x3 x4 x5 s18 s19) rfl rfl (by kernel_rfl)
def impl_completed_c2 := fun x3 x4 x5 => lpV (fun s : LR × Int => ocLp (impl_completed_c2_r x3 x4 x5 s.1 s.2)) ([], 0)
def impl_completed_c2_ob := fun x3 x4 x5 => LpT (fun s : LR × Int => ocLp (impl_completed_c2_r x3 x4 x5 s.1 s.2)) (fun s => impl_completed_c2_r_ob x3 x4 x5 s.1 s.2) ([], 0)
def impl_completed_c2_S := fun x3 x4 x5 => lpS (impl_completed_c2_r_S x3 x4 x5 [] 0) (impl_completed_c2 x3 x4 x5) (impl_completed_c2_ob x3 x4 x5)
theorem impl_completed_c2_ok (G : Good Try.prog tt sp_impl_completed) {fr : Fr} : ∀ x3 x4 x5, Ok119 fr (impl_completed_c2_S x3 x4 x5) :=
  fun x3 x4 x5 => loop_ok (fun s : LR × Int => impl_completed_c2_r_S x3 x4 x5 s.1 s.2) ([], 0) (fun _ => rfl) (fun _ => ⟨rfl, rfl, rfl, rfl, rfl⟩) (by kernel_rfl) fun _ => impl_completed_c2_r_ok G _ _ _ _ _
def impl_completed_c1_t (x1 : LR) (x2 : List Time) : Tr LR LR Empty Empty Empty :=
  .s (impl_completed_c2_S x2 x1 (lenI .row x1)) nE (fun q39 => .l (.n q39)) nE nE
def impl_completed_c1 := fun x1 x2 => (impl_completed_c1_t x1 x2).val
def impl_completed_c1_ob := fun x1 x2 => (impl_completed_c1_t x1 x2).ob
def impl_completed_c1_S := fun x1 x2 => SubP.mk (impl_completed_c1 x1 x2) (impl_completed_c1_ob x1 x2) [0,1,1] [(0, .S .row x1), (1, .S .time x2), (5, .A .row [])] rv119 (fun q => [(5, .A .row q)]) nE nE nE
theorem impl_completed_c1_ok (G : Good Try.prog tt sp_impl_completed) {fr : Fr} : ∀ x1 x2, Ok119 fr (impl_completed_c1_S x1 x2) :=
  fun x1 x2 => run_ok G [([0,1,0,1,1], fun e => ⟨impl_completed_c2_S (gL .time e 1 0) (gL .row e 9 0) (gI e 10 0)⟩)] ⟨fun _ => ⟨rfl, impl_completed_c2_ok G _ _ _⟩, trivial⟩ [(2,[1,5,9,10,11])] [] [] (impl_completed_c1_t x1 x2) rfl rfl (by kernel_rfl)
def impl_completed_b_t (a0 : LR) (a1 : List Time) : Tr LR Empty Empty Empty Empty :=
  .s (impl_completed_c1_S a0 a1) (fun q42 => .l (.r q42)) nE nE nE
def impl_completed_b := fun a0 a1 => (impl_completed_b_t a0 a1).val
def impl_completed_b_ob := fun a0 a1 => (impl_completed_b_t a0 a1).ob
def impl_completed_b_S := fun a0 a1 => SubP.mk (impl_completed_b a0 a1) (impl_completed_b_ob a0 a1) [] [(0, .S .row a0), (1, .S .time a1)] rv119 nE nE nE nE
theorem impl_completed_b_ok (G : Good Try.prog tt sp_impl_completed) {fr : Fr} : ∀ a0 a1, Ok119 fr (impl_completed_b_S a0 a1) :=
  fun a0 a1 => run_ok G [([0,1,1], fun e => ⟨impl_completed_c1_S (gL .row e 0 0) (gL .time e 1 0)⟩)] ⟨fun _ => ⟨rfl, impl_completed_c1_ok G _ _⟩, trivial⟩ [(0,[0,1]),(1,[0,1,5]),(8,[4])] [] [] (impl_completed_b_t a0 a1) rfl rfl (by kernel_rfl)
def v_impl_completed (a0 : LR) (a1 : List Time) : LR := ocR (impl_completed_b a0 a1)
def p_impl_completed (a0 : LR) (a1 : List Time) : Prop := impl_completed_b_ob a0 a1
def s_impl_completed : Spec := ⟨[(.lst .row), (.lst .time)], .one .fr (.lst .row), false, fun x => (v_impl_completed x.1 x.2.1, 0), fun x => p_impl_completed x.1 x.2.1⟩
theorem con_impl_completed (G : Good Try.prog tt sp_impl_completed) : Con Try.prog 119 s_impl_completed :=
  con_run (pts := [(.lst .row), (.lst .time)]) (rt := .one .fr (.lst .row)) (o := fun x => impl_completed_b x.1 x.2.1) (ob := fun x => impl_completed_b_ob x.1 x.2.1) G (fn := Try.f119) (c := bodyOf Try.f119) (by kernel_rfl) (by kernel_rfl) (by kernel_rfl) (rs := [.tmp 4]) (fz := F119.fz) (by kernel_rfl) (by kernel_rfl) (fun _ => rfl) rfl (fun x => impl_completed_b_S x.1 x.2.1) (fun _ => ⟨rfl, rfl, rfl, rfl, rfl⟩) (fun x _ => impl_completed_b_ok G x.1 x.2.1)

def sp_impl_rowsSame : SP := []
abbrev F118 : Fnn := ⟨[.tmp 4], .one .fr .bool, none, []⟩
abbrev rv118 : Bool → RV := fun q => (some (RT.av (.one .fr .bool) q), .dead)
abbrev Ok118 (fr : Fr) {A X Y Z : Type} (S : SubP Bool A X Y Z) : Prop := SubOk Try.prog tt ⟨Try.f118.ntmps, none, []⟩ fr (bodyOf Try.f118) F118 S
def impl_rowsSame_c2_r_t (x4 x5 : LR) (x6 s10 : Int) : Tr Bool Int Unit Empty Empty :=
  .c (cmp .lss s10 x6)
  (.w [inb s10 (lenI .row x4), inb s10 (lenI .row x5)] (.c (!(cmp .eql (rd .row x4 s10).Key (rd .row x5 s10).Key && (cmp .eql (rd .row x4 s10).Val (rd .row x5 s10).Val && (cmp .eql (rd .row x4 s10).At.A (rd .row x5 s10).At.A && (cmp .eql (rd .row x4 s10).At.B (rd .row x5 s10).At.B && (cmp .eql (rd .row x4 s10).Diff (rd .row x5 s10).Diff && true))))))
  (.l (.r false))
  (.l (.n (ar .add .i64 s10 1)))))
  (.l (.x ()))
def impl_rowsSame_c2_r := fun x4 x5 x6 s10 => (impl_rowsSame_c2_r_t x4 x5 x6 s10).val
def impl_rowsSame_c2_r_ob := fun x4 x5 x6 s10 => (impl_rowsSame_c2_r_t x4 x5 x6 s10).ob
def impl_rowsSame_c2_r_S := fun x4 x5 x6 s10 => mkRd (impl_rowsSame_c2_r x4 x5 x6 s10) (impl_rowsSame_c2_r_ob x4 x5 x6 s10) [0,0,1,0,1,1] (fun q => [(0, .S .row x4), (1, .S .row x5), (12, .I x6), (13, .I q)]) s10 rv118 (fun _ => (0, [])) nE nE
theorem impl_rowsSame_c2_r_ok (G : Good Try.prog tt sp_impl_rowsSame) {fr : Fr} : ∀ x4 x5 x6 s10, Ok118 fr (impl_rowsSame_c2_r_S x4 x5 x6 s10) :=
  fun x4 x5 x6 s10 => run_ok G [] trivial [(4,[0,1,12,13,14]),(5,[0,1,5,12,13]),(6,[0,1,12,13,24]),(7,[4]),(8,[0,1,12,13])] [] [] (impl_rowsSame_c2_r_t x4 x5 x6 s10) rfl rfl (by kernel_rfl)
def impl_rowsSame_c2 := fun x4 x5 x6 => lpV (fun s : Int => ocLp (impl_rowsSame_c2_r x4 x5 x6 s)) 0
def impl_rowsSame_c2_ob := fun x4 x5 x6 => LpT (fun s : Int => ocLp (impl_rowsSame_c2_r x4 x5 x6 s)) (fun s => impl_rowsSame_c2_r_ob x4 x5 x6 s) 0
def impl_rowsSame_c2_S := fun x4 x5 x6 => lpS (impl_rowsSame_c2_r_S x4 x5 x6 0) (impl_rowsSame_c2 x4 x5 x6) (impl_rowsSame_c2_ob x4 x5 x6)
theorem impl_rowsSame_c2_ok (G : Good Try.prog tt sp_impl_rowsSame) {fr : Fr} : ∀ x4 x5 x6, Ok118 fr (impl_rowsSame_c2_S x4 x5 x6) :=
  fun x4 x5 x6 => loop_ok (fun s : Int => impl_rowsSame_c2_r_S x4 x5 x6 s) 0 (fun _ => rfl) (fun _ => ⟨rfl, rfl, rfl, rfl, rfl⟩) (by kernel_rfl) fun _ => impl_rowsSame_c2_r_ok G _ _ _ _
def impl_rowsSame_c1_t (x2 x3 : LR) : Tr Bool Unit Empty Empty Empty :=
  .s (impl_rowsSame_c2_S x2 x3 (lenI .row x2)) nE (fun _ => .l (.n ())) nE nE
def impl_rowsSame_c1 := fun x2 x3 => (impl_rowsSame_c1_t x2 x3).val
def impl_rowsSame_c1_ob := fun x2 x3 => (impl_rowsSame_c1_t x2 x3).ob
def impl_rowsSame_c1_S := fun x2 x3 => SubP.mk (impl_rowsSame_c1 x2 x3) (impl_rowsSame_c1_ob x2 x3) [0,1,1] [(0, .S .row x2), (1, .S .row x3)] rv118 (fun _ => []) nE nE nE
theorem impl_rowsSame_c1_ok (G : Good Try.prog tt sp_impl_rowsSame) {fr : Fr} : ∀ x2 x3, Ok118 fr (impl_rowsSame_c1_S x2 x3) :=
  fun x2 x3 => run_ok G [([0,1,0,1,1], fun e => ⟨impl_rowsSame_c2_S (gL .row e 0 0) (gL .row e 1 0) (gI e 12 0)⟩)] ⟨fun _ => ⟨rfl, impl_rowsSame_c2_ok G _ _ _⟩, trivial⟩ [(3,[0,1,12,13])] [] [] (impl_rowsSame_c1_t x2 x3) rfl rfl (by kernel_rfl)
def impl_rowsSame_b_t (a0 a1 : LR) : Tr Bool Empty Empty Empty Empty :=
  .c (cmp .neq (lenI .row a0) (lenI .row a1))
  (.l (.r false))
  (.s (impl_rowsSame_c1_S a0 a1) (fun _ => .l (.r true)) nE nE nE)
def impl_rowsSame_b := fun a0 a1 => (impl_rowsSame_b_t a0 a1).val
def impl_rowsSame_b_ob := fun a0 a1 => (impl_rowsSame_b_t a0 a1).ob
def impl_rowsSame_b_S := fun a0 a1 => SubP.mk (impl_rowsSame_b a0 a1) (impl_rowsSame_b_ob a0 a1) [] [(0, .S .row a0), (1, .S .row a1)] rv118 nE nE nE nE
theorem impl_rowsSame_b_ok (G : Good Try.prog tt sp_impl_rowsSame) {fr : Fr} : ∀ a0 a1, Ok118 fr (impl_rowsSame_b_S a0 a1) :=
  fun a0 a1 => run_ok G [([0,1,1], fun e => ⟨impl_rowsSame_c1_S (gL .row e 0 0) (gL .row e 1 0)⟩)] ⟨fun _ => ⟨rfl, impl_rowsSame_c1_ok G _ _⟩, trivial⟩ [(0,[0,1]),(1,[0,1,10]),(2,[4]),(9,[4])] [] [] (impl_rowsSame_b_t a0 a1) rfl rfl (by kernel_rfl)
def v_impl_rowsSame (a0 : LR) (a1 : LR) : Bool := ocR (impl_rowsSame_b a0 a1)
def p_impl_rowsSame (a0 : LR) (a1 : LR) : Prop := impl_rowsSame_b_ob a0 a1
def s_impl_rowsSame : Spec := ⟨[(.lst .row), (.lst .row)], .one .fr .bool, false, fun x => (v_impl_rowsSame x.1 x.2.1, 0), fun x => p_impl_rowsSame x.1 x.2.1⟩
theorem con_impl_rowsSame (G : Good Try.prog tt sp_impl_rowsSame) : Con Try.prog 118 s_impl_rowsSame :=
  con_run (pts := [(.lst .row), (.lst .row)]) (rt := .one .fr .bool) (o := fun x => impl_rowsSame_b x.1 x.2.1) (ob := fun x => impl_rowsSame_b_ob x.1 x.2.1) G (fn := Try.f118) (c := bodyOf Try.f118) (by kernel_rfl) (by kernel_rfl) (by kernel_rfl) (rs := [.tmp 4]) (fz := F118.fz) (by kernel_rfl) (by kernel_rfl) (fun _ => rfl) rfl (fun x => impl_rowsSame_b_S x.1 x.2.1) (fun _ => ⟨rfl, rfl, rfl, rfl, rfl⟩) (fun x _ => impl_rowsSame_b_ok G x.1 x.2.1)

def sp_impl_SessOk : SP := [(116, s_impl_FrontOk), (117, s_impl_PlanFlow), (119, s_impl_completed), (118, s_impl_rowsSame)]
abbrev F63 : Fnn := ⟨[.tmp 2], .one .fr .bool, none, []⟩
abbrev rv63 : Bool → RV := fun q => (some (RT.av (.one .fr .bool) q), .dead)
abbrev Ok63 (fr : Fr) {A X Y Z : Type} (S : SubP Bool A X Y Z) : Prop := SubOk Try.prog tt ⟨Try.f63.ntmps, none, []⟩ fr (bodyOf Try.f63) F63 S
def impl_SessOk_b_t (a0 : Sess) : Tr Bool Empty Empty Empty Empty :=
  .w [(p_impl_FrontOk a0.Front)] (.c (!(v_impl_FrontOk a0.Front))
  (.l (.r false))
  (.w [(p_impl_PlanFlow (Plan.mk a0.Plan.Kind a0.Plan.Num a0.Plan.Kids) a0.Ins)] (.w [(((v_impl_PlanFlow (Plan.mk a0.Plan.Kind a0.Plan.Num a0.Plan.Kids) a0.Ins).2.1 && true) = true → (p_impl_completed (v_impl_PlanFlow (Plan.mk a0.Plan.Kind a0.Plan.Num a0.Plan.Kids) a0.Ins).1 a0.Front)), (((v_impl_PlanFlow (Plan.mk a0.Plan.Kind a0.Plan.Num a0.Plan.Kids) a0.Ins).2.1 && true) = true → (p_impl_rowsSame a0.Told (v_impl_completed (v_impl_PlanFlow (Plan.mk a0.Plan.Kind a0.Plan.Num a0.Plan.Kids) a0.Ins).1 a0.Front)))] (.l (.r (cond (v_impl_PlanFlow (Plan.mk a0.Plan.Kind a0.Plan.Num a0.Plan.Kids) a0.Ins).2.1 (v_impl_rowsSame a0.Told (v_impl_completed (v_impl_PlanFlow (Plan.mk a0.Plan.Kind a0.Plan.Num a0.Plan.Kids) a0.Ins).1 a0.Front)) false))))))
def impl_SessOk_b := fun a0 => (impl_SessOk_b_t a0).val
def impl_SessOk_b_ob := fun a0 => (impl_SessOk_b_t a0).ob
def impl_SessOk_b_S := fun a0 => SubP.mk (impl_SessOk_b a0) (impl_SessOk_b_ob a0) [] [(0, .agg false [.i a0.Plan.Kind, .i a0.Plan.Num, .lst .plan a0.Plan.Kids, .lst .lrow a0.Ins, .lst .time a0.Front, .lst .row a0.Told])] rv63 nE nE nE nE
theorem impl_SessOk_b_ok (G : Good Try.prog tt sp_impl_SessOk) {fr : Fr} : ∀ a0, Ok63 fr (impl_SessOk_b_S a0) :=
  fun a0 => run_ok G [] trivial [(0,[1]),(1,[1,8]),(2,[2]),(3,[1,3,4]),(4,[2])] [] [] (impl_SessOk_b_t a0) rfl rfl (by kernel_rfl)
def v_impl_SessOk (a0 : Sess) : Bool := ocR (impl_SessOk_b a0)
def p_impl_SessOk (a0 : Sess) : Prop := impl_SessOk_b_ob a0
def s_impl_SessOk : Spec := ⟨[(.st .sess)], .one .fr .bool, false, fun x => (v_impl_SessOk x.1, 0), fun x => p_impl_SessOk x.1⟩
theorem con_impl_SessOk (G : Good Try.prog tt sp_impl_SessOk) : Con Try.prog 63 s_impl_SessOk :=
  con_run (pts := [(.st .sess)]) (rt := .one .fr .bool) (o := fun x => impl_SessOk_b x.1) (ob := fun x => impl_SessOk_b_ob x.1) G (fn := Try.f63) (c := bodyOf Try.f63) (by kernel_rfl) (by kernel_rfl) (by kernel_rfl) (rs := [.tmp 2]) (fz := F63.fz) (by kernel_rfl) (by kernel_rfl) (fun _ => rfl) rfl (fun x => impl_SessOk_b_S x.1) (fun _ => ⟨rfl, rfl, rfl, rfl, rfl⟩) (fun x _ => impl_SessOk_b_ok G x.1)

def sp_impl_SessAt : SP := [(63, s_impl_SessOk), (110, s_impl_TimeOk), (115, s_impl_beyond), (106, s_impl_present)]
abbrev F62 : Fnn := ⟨[.tmp 4, .tmp 5], .tup [(false, (.lst .item)), (true, .bool)], none, []⟩
abbrev rv62 : LI × Bool × Unit → RV := fun q => (some (RT.av (.tup [(false, (.lst .item)), (true, .bool)]) q), .dead)
abbrev Ok62 (fr : Fr) {A X Y Z : Type} (S : SubP (LI × Bool × Unit) A X Y Z) : Prop := SubOk Try.prog tt ⟨Try.f62.ntmps, none, []⟩ fr (bodyOf Try.f62) F62 S
def impl_SessAt_b_t (a0 : Sess) (a1 : Time) : Tr (LI × Bool × Unit) Empty Empty Empty Empty :=
  .w [(p_impl_SessOk (Sess.mk (Plan.mk a0.Plan.Kind a0.Plan.Num a0.Plan.Kids) a0.Ins a0.Front a0.Told)), (((!(!(v_impl_SessOk (Sess.mk (Plan.mk a0.Plan.Kind a0.Plan.Num a0.Plan.Kids) a0.Ins a0.Front a0.Told)))) && true) = true → (p_impl_TimeOk a1)), (((!(cond (!(v_impl_SessOk (Sess.mk (Plan.mk a0.Plan.Kind a0.Plan.Num a0.Plan.Kids) a0.Ins a0.Front a0.Told))) true (!(v_impl_TimeOk a1)))) && true) = true → (p_impl_beyond a0.Front a1))] (.c (cond (cond (!(v_impl_SessOk (Sess.mk (Plan.mk a0.Plan.Kind a0.Plan.Num a0.Plan.Kids) a0.Ins a0.Front a0.Told))) true (!(v_impl_TimeOk a1))) true (v_impl_beyond a0.Front a1))
  (.l (.r ([], (false, ()))))
  (.w [(p_impl_present a0.Told a1)] (.l (.r ((v_impl_present a0.Told a1), (true, ()))))))
def impl_SessAt_b := fun a0 a1 => (impl_SessAt_b_t a0 a1).val
def impl_SessAt_b_ob := fun a0 a1 => (impl_SessAt_b_t a0 a1).ob
def impl_SessAt_b_S := fun a0 a1 => SubP.mk (impl_SessAt_b a0 a1) (impl_SessAt_b_ob a0 a1) [] [(0, .agg false [.i a0.Plan.Kind, .i a0.Plan.Num, .lst .plan a0.Plan.Kids, .lst .lrow a0.Ins, .lst .time a0.Front, .lst .row a0.Told]), (1, .agg true [.i a1.A, .i a1.B])] rv62 nE nE nE nE
theorem impl_SessAt_b_ok (G : Good Try.prog tt sp_impl_SessAt) {fr : Fr} : ∀ a0 a1, Ok62 fr (impl_SessAt_b_S a0 a1) :=
  fun a0 a1 => run_ok G [] trivial [(0,[2,3]),(1,[2,3,19]),(2,[4,5]),(3,[4,5])] [] [] (impl_SessAt_b_t a0 a1) rfl rfl (by kernel_rfl)
def v_impl_SessAt (a0 : Sess) (a1 : Time) : LI × Bool × Unit := ocR (impl_SessAt_b a0 a1)
def p_impl_SessAt (a0 : Sess) (a1 : Time) : Prop := impl_SessAt_b_ob a0 a1
def s_impl_SessAt : Spec := ⟨[(.st .sess), (.st .time)], .tup [(false, (.lst .item)), (true, .bool)], false, fun x => (v_impl_SessAt x.1 x.2.1, 0), fun x => p_impl_SessAt x.1 x.2.1⟩
theorem con_impl_SessAt (G : Good Try.prog tt sp_impl_SessAt) : Con Try.prog 62 s_impl_SessAt :=
  con_run (pts := [(.st .sess), (.st .time)]) (rt := .tup [(false, (.lst .item)), (true, .bool)]) (o := fun x => impl_SessAt_b x.1 x.2.1) (ob := fun x => impl_SessAt_b_ob x.1 x.2.1) G (fn := Try.f62) (c := bodyOf Try.f62) (by kernel_rfl) (by kernel_rfl) (by kernel_rfl) (rs := [.tmp 4, .tmp 5]) (fz := F62.fz) (by kernel_rfl) (by kernel_rfl) (fun _ => rfl) rfl (fun x => impl_SessAt_b_S x.1 x.2.1) (fun _ => ⟨rfl, rfl, rfl, rfl, rfl⟩) (fun x _ => impl_SessAt_b_ok G x.1 x.2.1)

def sp_laws_FnSessNew : SP := [(59, s_spec_DrawSessNew), (20, s_spec_SessNew), (22, s_impl_SessNew), (60, s_laws_lwSess), (61, s_laws_lwAll), (62, s_impl_SessAt), (63, s_impl_SessOk), (64, s_laws_lwPlan)]
abbrev F18 : Fnn := ⟨[.tmp 2], .one .fr .bool, none, []⟩
abbrev rv18 : Bool → RV := fun q => (some (RT.av (.one .fr .bool) q), .dead)
abbrev Ok18 (fr : Fr) {A X Y Z : Type} (S : SubP Bool A X Y Z) : Prop := SubOk Try.prog tt ⟨Try.f18.ntmps, none, []⟩ fr (bodyOf Try.f18) F18 S
def laws_FnSessNew_c3_t (_x43 _x44 : Int) (_x45 : LP) (x46 x47 : Int) (x48 : LP) (x49 : List LR) (x50 : List Time) (x51 : LR) (x52 : List Time) (x53 : Int) : Tr Bool Bool Empty Empty Empty :=
  .w [inb x53 (lenI .time x52), (p_impl_SessAt (Sess.mk (Plan.mk x46 x47 x48) x49 x50 x51) (rd .time x52 x53))] (.l (.n (v_impl_SessAt (Sess.mk (Plan.mk x46 x47 x48) x49 x50 x51) (rd .time x52 x53)).2.1))
def laws_FnSessNew_c3 := fun x43 x44 x45 x46 x47 x48 x49 x50 x51 x52 x53 => (laws_FnSessNew_c3_t x43 x44 x45 x46 x47 x48 x49 x50 x51 x52 x53).val
def laws_FnSessNew_c3_ob := fun x43 x44 x45 x46 x47 x48 x49 x50 x51 x52 x53 => (laws_FnSessNew_c3_t x43 x44 x45 x46 x47 x48 x49 x50 x51 x52 x53).ob
def laws_FnSessNew_c3_S := fun x43 x44 x45 x46 x47 x48 x49 x50 x51 x52 x53 => SubP.mk (laws_FnSessNew_c3 x43 x44 x45 x46 x47 x48 x49 x50 x51 x52 x53) (laws_FnSessNew_c3_ob x43 x44 x45 x46 x47 x48 x49 x50 x51 x52 x53) [0,0,0,1,0,0,1,0,1,1,1,1,1,1,1] [(3, .box [(.fr, .i x43), (.fr, .i x44), (.fr, .lst .plan x45)]), (6, .box [(.fr, .i x46), (.fr, .i x47), (.sh, .lst .plan x48), (.sh, .lst .lrow x49), (.sh, .lst .time x50), (.sh, .lst .row x51)]), (8, .A .time x52), (9, .I x53)] rv18 (fun q => [(3, .box [(.fr, .i x43), (.fr, .i x44), (.fr, .lst .plan x45)]), (6, .box [(.fr, .i x46), (.fr, .i x47), (.sh, .lst .plan x48), (.sh, .lst .lrow x49), (.sh, .lst .time x50), (.sh, .lst .row x51)]), (8, .A .time x52), (9, .I x53), (11, .O q)]) nE nE nE
theorem laws_FnSessNew_c3_ok (G : Good Try.prog tt sp_laws_FnSessNew) {fr : Fr} : ∀ x43 x44 x45 x46 x47 x48 x49 x50 x51 x52 x53, Ok18 fr (laws_FnSessNew_c3_S x43 x44 x45 x46 x47 x48 x49 x50 x51 x52 x53) :=
  fun x43 x44 x45 x46 x47 x48 x49 x50 x51 x52 x53 => any_ok G [3,6,8,9,11] 30 (laws_FnSessNew_c3_t x43 x44 x45 x46 x47 x48 x49 x50 x51 x52 x53) rfl rfl rfl (by kernel_rfl) (by kernel_rfl) (by kernel_rfl)
def laws_FnSessNew_c2_r_t (x13 x14 : Int) (x15 : LP) (x16 x17 : Int) (x18 : LP) (x19 : List LR) (x20 : List Time) (x21 : LR) (x22 : List Time) (s41 : Int) : Tr Bool Int Unit Empty Empty :=
  .c (cmp .lss s41 (lenI .time x22))
  (.s (laws_FnSessNew_c3_S x13 x14 x15 x16 x17 x18 x19 x20 x21 x22 s41) (fun q55 => .c q55
  (.l (.r false))
  (.l (.n (ar .add .i64 s41 1)))) nE nE nE)
  (.l (.x ()))
def laws_FnSessNew_c2_r := fun x13 x14 x15 x16 x17 x18 x19 x20 x21 x22 s41 => (laws_FnSessNew_c2_r_t x13 x14 x15 x16 x17 x18 x19 x20 x21 x22 s41).val
def laws_FnSessNew_c2_r_ob := fun x13 x14 x15 x16 x17 x18 x19 x20 x21 x22 s41 => (laws_FnSessNew_c2_r_t x13 x14 x15 x16 x17 x18 x19 x20 x21 x22 s41).ob
def laws_FnSessNew_c2_r_S := fun x13 x14 x15 x16 x17 x18 x19 x20 x21 x22 s41 => mkRd (laws_FnSessNew_c2_r x13 x14 x15 x16 x17 x18 x19 x20 x21 x22 s41) (laws_FnSessNew_c2_r_ob x13 x14 x15 x16 x17 x18 x19 x20 x21 x22 s41) [0,0,1,0,1,1,1,1,1,1,1] (fun q => [(3, .box [(.fr, .i x13), (.fr, .i x14), (.fr, .lst .plan x15)]), (6, .box [(.fr, .i x16), (.fr, .i x17), (.sh, .lst .plan x18), (.sh, .lst .lrow x19), (.sh, .lst .time x20), (.sh, .lst .row x21)]), (8, .A .time x22), (9, .I q)]) s41 rv18 (fun _ => (0, [(3, .box [(.fr, .i x13), (.fr, .i x14), (.fr, .lst .plan x15)]), (6, .box [(.fr, .i x16), (.fr, .i x17), (.sh, .lst .plan x18), (.sh, .lst .lrow x19), (.sh, .lst .time x20), (.sh, .lst .row x21)])])) nE nE
theorem laws_FnSessNew_c2_r_ok (G : Good Try.prog tt sp_laws_FnSessNew) {fr : Fr} : ∀ x13 x14 x15 x16 x17 x18 x19 x20 x21 x22 s41, Ok18 fr (laws_FnSessNew_c2_r_S x13 x14 x15 x16 x17 x18 x19 x20 x21 x22 s41) :=
  fun x13 x14 x15 x16 x17 x18 x19 x20 x21 x22 s41 => run_ok G [([0,0,0,1,0,0,1,0,1,1,1,1,1,1,1], fun e => ⟨laws_FnSessNew_c3_S (gI e 3 0) (gI e 3 1) (gL .plan e 3 2) (gI e 6 0) (gI e 6 1) (gL .plan e 6 2) (gL .lrow e 6 3) (gL .time e 6 4) (gL .row e 6 5) (gL .time e 8 0) (gI e 9 0)⟩)] ⟨fun _ => ⟨rfl, laws_FnSessNew_c3_ok G _ _ _ _ _ _ _ _ _ _ _⟩, trivial⟩ [(10,[3,6,8,9,52]),(11,[3,6,8,9]),(13,[3,6,8,9,64]),(14,[2])] [] [] (laws_FnSessNew_c2_r_t x13 x14 x15 x16 x17 x18 x19 x20 x21 x22 s41) rfl rfl (by kernel_rfl)
def laws_FnSessNew_c2 := fun x13 x14 x15 x16 x17 x18 x19 x20 x21 x22 => lpV (fun s : Int => ocLp (laws_FnSessNew_c2_r x13 x14 x15 x16 x17 x18 x19 x20 x21 x22 s)) 0
def laws_FnSessNew_c2_ob := fun x13 x14 x15 x16 x17 x18 x19 x20 x21 x22 => LpT (fun s : Int => ocLp (laws_FnSessNew_c2_r x13 x14 x15 x16 x17 x18 x19 x20 x21 x22 s)) (fun s => laws_FnSessNew_c2_r_ob x13 x14 x15 x16 x17 x18 x19 x20 x21 x22 s) 0
def laws_FnSessNew_c2_S := fun x13 x14 x15 x16 x17 x18 x19 x20 x21 x22 => lpS (laws_FnSessNew_c2_r_S x13 x14 x15 x16 x17 x18 x19 x20 x21 x22 0) (laws_FnSessNew_c2 x13 x14 x15 x16 x17 x18 x19 x20 x21 x22) (laws_FnSessNew_c2_ob x13 x14 x15 x16 x17 x18 x19 x20 x21 x22)
theorem laws_FnSessNew_c2_ok (G : Good Try.prog tt sp_laws_FnSessNew) {fr : Fr} : ∀ x13 x14 x15 x16 x17 x18 x19 x20 x21 x22, Ok18 fr (laws_FnSessNew_c2_S x13 x14 x15 x16 x17 x18 x19 x20 x21 x22) :=
  fun x13 x14 x15 x16 x17 x18 x19 x20 x21 x22 => loop_ok (fun s : Int => laws_FnSessNew_c2_r_S x13 x14 x15 x16 x17 x18 x19 x20 x21 x22 s) 0 (fun _ => rfl) (fun _ => ⟨rfl, rfl, rfl, rfl, rfl⟩) (by kernel_rfl) fun _ => laws_FnSessNew_c2_r_ok G _ _ _ _ _ _ _ _ _ _ _
def laws_FnSessNew_c1_t (x3 x4 : Int) (x5 : LP) (x6 x7 : Int) (x8 : LP) (x9 : List LR) (x10 : List Time) (x11 : LR) (x12 : List Time) : Tr Bool Unit Empty Empty Empty :=
  .s (laws_FnSessNew_c2_S x3 x4 x5 x6 x7 x8 x9 x10 x11 x12) nE (fun _ => .l (.n ())) nE nE
def laws_FnSessNew_c1 := fun x3 x4 x5 x6 x7 x8 x9 x10 x11 x12 => (laws_FnSessNew_c1_t x3 x4 x5 x6 x7 x8 x9 x10 x11 x12).val
def laws_FnSessNew_c1_ob := fun x3 x4 x5 x6 x7 x8 x9 x10 x11 x12 => (laws_FnSessNew_c1_t x3 x4 x5 x6 x7 x8 x9 x10 x11 x12).ob
def laws_FnSessNew_c1_S := fun x3 x4 x5 x6 x7 x8 x9 x10 x11 x12 => SubP.mk (laws_FnSessNew_c1 x3 x4 x5 x6 x7 x8 x9 x10 x11 x12) (laws_FnSessNew_c1_ob x3 x4 x5 x6 x7 x8 x9 x10 x11 x12) [0,1,1,1,1,1,1,1] [(3, .box [(.fr, .i x3), (.fr, .i x4), (.fr, .lst .plan x5)]), (6, .box [(.fr, .i x6), (.fr, .i x7), (.sh, .lst .plan x8), (.sh, .lst .lrow x9), (.sh, .lst .time x10), (.sh, .lst .row x11)]), (8, .A .time x12)] rv18 (fun _ => [(3, .box [(.fr, .i x3), (.fr, .i x4), (.fr, .lst .plan x5)]), (6, .box [(.fr, .i x6), (.fr, .i x7), (.sh, .lst .plan x8), (.sh, .lst .lrow x9), (.sh, .lst .time x10), (.sh, .lst .row x11)])]) nE nE nE
theorem laws_FnSessNew_c1_ok (G : Good Try.prog tt sp_laws_FnSessNew) {fr : Fr} : ∀ x3 x4 x5 x6 x7 x8 x9 x10 x11 x12, Ok18 fr (laws_FnSessNew_c1_S x3 x4 x5 x6 x7 x8 x9 x10 x11 x12) :=
  fun x3 x4 x5 x6 x7 x8 x9 x10 x11 x12 => run_ok G [([0,1,0,1,1,1,1,1,1,1], fun e => ⟨laws_FnSessNew_c2_S (gI e 3 0) (gI e 3 1) (gL .plan e 3 2) (gI e 6 0) (gI e 6 1) (gL .plan e 6 2) (gL .lrow e 6 3) (gL .time e 6 4) (gL .row e 6 5) (gL .time e 8 0)⟩)] ⟨fun _ => ⟨rfl, laws_FnSessNew_c2_ok G _ _ _ _ _ _ _ _ _ _⟩, trivial⟩ [(9,[3,6,8,9])] [] [] (laws_FnSessNew_c1_t x3 x4 x5 x6 x7 x8 x9 x10 x11 x12) rfl rfl (by kernel_rfl)
def laws_FnSessNew_b_t (a0 : LB) : Tr Bool Empty Empty Empty Empty :=
  .c (cmp .gtr (lenI .byte a0) 1048576)
  (.l (.r true))
  (.w [(p_spec_DrawSessNew a0)] (.w [(p_spec_SessNew (Plan.mk (v_spec_DrawSessNew a0).Kind (v_spec_DrawSessNew a0).Num (v_spec_DrawSessNew a0).Kids))] (.w [(p_impl_SessNew (Plan.mk (v_spec_DrawSessNew a0).Kind (v_spec_DrawSessNew a0).Num (v_spec_DrawSessNew a0).Kids))] (.w [(((!(!((v_impl_SessNew (Plan.mk (v_spec_DrawSessNew a0).Kind (v_spec_DrawSessNew a0).Num (v_spec_DrawSessNew a0).Kids)).2.1 == (v_spec_SessNew (Plan.mk (v_spec_DrawSessNew a0).Kind (v_spec_DrawSessNew a0).Num (v_spec_DrawSessNew a0).Kids)).2.1))) && true) = true → (p_laws_lwSess (Sess.mk (Plan.mk (v_impl_SessNew (Plan.mk (v_spec_DrawSessNew a0).Kind (v_spec_DrawSessNew a0).Num (v_spec_DrawSessNew a0).Kids)).1.Plan.Kind (v_impl_SessNew (Plan.mk (v_spec_DrawSessNew a0).Kind (v_spec_DrawSessNew a0).Num (v_spec_DrawSessNew a0).Kids)).1.Plan.Num (v_impl_SessNew (Plan.mk (v_spec_DrawSessNew a0).Kind (v_spec_DrawSessNew a0).Num (v_spec_DrawSessNew a0).Kids)).1.Plan.Kids) (v_impl_SessNew (Plan.mk (v_spec_DrawSessNew a0).Kind (v_spec_DrawSessNew a0).Num (v_spec_DrawSessNew a0).Kids)).1.Ins (v_impl_SessNew (Plan.mk (v_spec_DrawSessNew a0).Kind (v_spec_DrawSessNew a0).Num (v_spec_DrawSessNew a0).Kids)).1.Front (v_impl_SessNew (Plan.mk (v_spec_DrawSessNew a0).Kind (v_spec_DrawSessNew a0).Num (v_spec_DrawSessNew a0).Kids)).1.Told) (Sess.mk (Plan.mk (v_spec_SessNew (Plan.mk (v_spec_DrawSessNew a0).Kind (v_spec_DrawSessNew a0).Num (v_spec_DrawSessNew a0).Kids)).1.Plan.Kind (v_spec_SessNew (Plan.mk (v_spec_DrawSessNew a0).Kind (v_spec_DrawSessNew a0).Num (v_spec_DrawSessNew a0).Kids)).1.Plan.Num (v_spec_SessNew (Plan.mk (v_spec_DrawSessNew a0).Kind (v_spec_DrawSessNew a0).Num (v_spec_DrawSessNew a0).Kids)).1.Plan.Kids) (v_spec_SessNew (Plan.mk (v_spec_DrawSessNew a0).Kind (v_spec_DrawSessNew a0).Num (v_spec_DrawSessNew a0).Kids)).1.Ins (v_spec_SessNew (Plan.mk (v_spec_DrawSessNew a0).Kind (v_spec_DrawSessNew a0).Num (v_spec_DrawSessNew a0).Kids)).1.Front (v_spec_SessNew (Plan.mk (v_spec_DrawSessNew a0).Kind (v_spec_DrawSessNew a0).Num (v_spec_DrawSessNew a0).Kids)).1.Told)))] (.c (cond (cond (!((v_impl_SessNew (Plan.mk (v_spec_DrawSessNew a0).Kind (v_spec_DrawSessNew a0).Num (v_spec_DrawSessNew a0).Kids)).2.1 == (v_spec_SessNew (Plan.mk (v_spec_DrawSessNew a0).Kind (v_spec_DrawSessNew a0).Num (v_spec_DrawSessNew a0).Kids)).2.1)) true (!(v_laws_lwSess (Sess.mk (Plan.mk (v_impl_SessNew (Plan.mk (v_spec_DrawSessNew a0).Kind (v_spec_DrawSessNew a0).Num (v_spec_DrawSessNew a0).Kids)).1.Plan.Kind (v_impl_SessNew (Plan.mk (v_spec_DrawSessNew a0).Kind (v_spec_DrawSessNew a0).Num (v_spec_DrawSessNew a0).Kids)).1.Plan.Num (v_impl_SessNew (Plan.mk (v_spec_DrawSessNew a0).Kind (v_spec_DrawSessNew a0).Num (v_spec_DrawSessNew a0).Kids)).1.Plan.Kids) (v_impl_SessNew (Plan.mk (v_spec_DrawSessNew a0).Kind (v_spec_DrawSessNew a0).Num (v_spec_DrawSessNew a0).Kids)).1.Ins (v_impl_SessNew (Plan.mk (v_spec_DrawSessNew a0).Kind (v_spec_DrawSessNew a0).Num (v_spec_DrawSessNew a0).Kids)).1.Front (v_impl_SessNew (Plan.mk (v_spec_DrawSessNew a0).Kind (v_spec_DrawSessNew a0).Num (v_spec_DrawSessNew a0).Kids)).1.Told) (Sess.mk (Plan.mk (v_spec_SessNew (Plan.mk (v_spec_DrawSessNew a0).Kind (v_spec_DrawSessNew a0).Num (v_spec_DrawSessNew a0).Kids)).1.Plan.Kind (v_spec_SessNew (Plan.mk (v_spec_DrawSessNew a0).Kind (v_spec_DrawSessNew a0).Num (v_spec_DrawSessNew a0).Kids)).1.Plan.Num (v_spec_SessNew (Plan.mk (v_spec_DrawSessNew a0).Kind (v_spec_DrawSessNew a0).Num (v_spec_DrawSessNew a0).Kids)).1.Plan.Kids) (v_spec_SessNew (Plan.mk (v_spec_DrawSessNew a0).Kind (v_spec_DrawSessNew a0).Num (v_spec_DrawSessNew a0).Kids)).1.Ins (v_spec_SessNew (Plan.mk (v_spec_DrawSessNew a0).Kind (v_spec_DrawSessNew a0).Num (v_spec_DrawSessNew a0).Kids)).1.Front (v_spec_SessNew (Plan.mk (v_spec_DrawSessNew a0).Kind (v_spec_DrawSessNew a0).Num (v_spec_DrawSessNew a0).Kids)).1.Told)))) true (!(v_impl_SessNew (Plan.mk (v_spec_DrawSessNew a0).Kind (v_spec_DrawSessNew a0).Num (v_spec_DrawSessNew a0).Kids)).2.1))
  (.w [((((v_impl_SessNew (Plan.mk (v_spec_DrawSessNew a0).Kind (v_spec_DrawSessNew a0).Num (v_spec_DrawSessNew a0).Kids)).2.1 == (v_spec_SessNew (Plan.mk (v_spec_DrawSessNew a0).Kind (v_spec_DrawSessNew a0).Num (v_spec_DrawSessNew a0).Kids)).2.1) && true) = true → (p_laws_lwSess (Sess.mk (Plan.mk (v_impl_SessNew (Plan.mk (v_spec_DrawSessNew a0).Kind (v_spec_DrawSessNew a0).Num (v_spec_DrawSessNew a0).Kids)).1.Plan.Kind (v_impl_SessNew (Plan.mk (v_spec_DrawSessNew a0).Kind (v_spec_DrawSessNew a0).Num (v_spec_DrawSessNew a0).Kids)).1.Plan.Num (v_impl_SessNew (Plan.mk (v_spec_DrawSessNew a0).Kind (v_spec_DrawSessNew a0).Num (v_spec_DrawSessNew a0).Kids)).1.Plan.Kids) (v_impl_SessNew (Plan.mk (v_spec_DrawSessNew a0).Kind (v_spec_DrawSessNew a0).Num (v_spec_DrawSessNew a0).Kids)).1.Ins (v_impl_SessNew (Plan.mk (v_spec_DrawSessNew a0).Kind (v_spec_DrawSessNew a0).Num (v_spec_DrawSessNew a0).Kids)).1.Front (v_impl_SessNew (Plan.mk (v_spec_DrawSessNew a0).Kind (v_spec_DrawSessNew a0).Num (v_spec_DrawSessNew a0).Kids)).1.Told) (Sess.mk (Plan.mk (v_spec_SessNew (Plan.mk (v_spec_DrawSessNew a0).Kind (v_spec_DrawSessNew a0).Num (v_spec_DrawSessNew a0).Kids)).1.Plan.Kind (v_spec_SessNew (Plan.mk (v_spec_DrawSessNew a0).Kind (v_spec_DrawSessNew a0).Num (v_spec_DrawSessNew a0).Kids)).1.Plan.Num (v_spec_SessNew (Plan.mk (v_spec_DrawSessNew a0).Kind (v_spec_DrawSessNew a0).Num (v_spec_DrawSessNew a0).Kids)).1.Plan.Kids) (v_spec_SessNew (Plan.mk (v_spec_DrawSessNew a0).Kind (v_spec_DrawSessNew a0).Num (v_spec_DrawSessNew a0).Kids)).1.Ins (v_spec_SessNew (Plan.mk (v_spec_DrawSessNew a0).Kind (v_spec_DrawSessNew a0).Num (v_spec_DrawSessNew a0).Kids)).1.Front (v_spec_SessNew (Plan.mk (v_spec_DrawSessNew a0).Kind (v_spec_DrawSessNew a0).Num (v_spec_DrawSessNew a0).Kids)).1.Told)))] (.l (.r (cond ((v_impl_SessNew (Plan.mk (v_spec_DrawSessNew a0).Kind (v_spec_DrawSessNew a0).Num (v_spec_DrawSessNew a0).Kids)).2.1 == (v_spec_SessNew (Plan.mk (v_spec_DrawSessNew a0).Kind (v_spec_DrawSessNew a0).Num (v_spec_DrawSessNew a0).Kids)).2.1) (v_laws_lwSess (Sess.mk (Plan.mk (v_impl_SessNew (Plan.mk (v_spec_DrawSessNew a0).Kind (v_spec_DrawSessNew a0).Num (v_spec_DrawSessNew a0).Kids)).1.Plan.Kind (v_impl_SessNew (Plan.mk (v_spec_DrawSessNew a0).Kind (v_spec_DrawSessNew a0).Num (v_spec_DrawSessNew a0).Kids)).1.Plan.Num (v_impl_SessNew (Plan.mk (v_spec_DrawSessNew a0).Kind (v_spec_DrawSessNew a0).Num (v_spec_DrawSessNew a0).Kids)).1.Plan.Kids) (v_impl_SessNew (Plan.mk (v_spec_DrawSessNew a0).Kind (v_spec_DrawSessNew a0).Num (v_spec_DrawSessNew a0).Kids)).1.Ins (v_impl_SessNew (Plan.mk (v_spec_DrawSessNew a0).Kind (v_spec_DrawSessNew a0).Num (v_spec_DrawSessNew a0).Kids)).1.Front (v_impl_SessNew (Plan.mk (v_spec_DrawSessNew a0).Kind (v_spec_DrawSessNew a0).Num (v_spec_DrawSessNew a0).Kids)).1.Told) (Sess.mk (Plan.mk (v_spec_SessNew (Plan.mk (v_spec_DrawSessNew a0).Kind (v_spec_DrawSessNew a0).Num (v_spec_DrawSessNew a0).Kids)).1.Plan.Kind (v_spec_SessNew (Plan.mk (v_spec_DrawSessNew a0).Kind (v_spec_DrawSessNew a0).Num (v_spec_DrawSessNew a0).Kids)).1.Plan.Num (v_spec_SessNew (Plan.mk (v_spec_DrawSessNew a0).Kind (v_spec_DrawSessNew a0).Num (v_spec_DrawSessNew a0).Kids)).1.Plan.Kids) (v_spec_SessNew (Plan.mk (v_spec_DrawSessNew a0).Kind (v_spec_DrawSessNew a0).Num (v_spec_DrawSessNew a0).Kids)).1.Ins (v_spec_SessNew (Plan.mk (v_spec_DrawSessNew a0).Kind (v_spec_DrawSessNew a0).Num (v_spec_DrawSessNew a0).Kids)).1.Front (v_spec_SessNew (Plan.mk (v_spec_DrawSessNew a0).Kind (v_spec_DrawSessNew a0).Num (v_spec_DrawSessNew a0).Kids)).1.Told)) false))))
  (.w [p_laws_lwAll] (.s (laws_FnSessNew_c1_S (v_spec_DrawSessNew a0).Kind (v_spec_DrawSessNew a0).Num (v_spec_DrawSessNew a0).Kids (v_impl_SessNew (Plan.mk (v_spec_DrawSessNew a0).Kind (v_spec_DrawSessNew a0).Num (v_spec_DrawSessNew a0).Kids)).1.Plan.Kind (v_impl_SessNew (Plan.mk (v_spec_DrawSessNew a0).Kind (v_spec_DrawSessNew a0).Num (v_spec_DrawSessNew a0).Kids)).1.Plan.Num (v_impl_SessNew (Plan.mk (v_spec_DrawSessNew a0).Kind (v_spec_DrawSessNew a0).Num (v_spec_DrawSessNew a0).Kids)).1.Plan.Kids (v_impl_SessNew (Plan.mk (v_spec_DrawSessNew a0).Kind (v_spec_DrawSessNew a0).Num (v_spec_DrawSessNew a0).Kids)).1.Ins (v_impl_SessNew (Plan.mk (v_spec_DrawSessNew a0).Kind (v_spec_DrawSessNew a0).Num (v_spec_DrawSessNew a0).Kids)).1.Front (v_impl_SessNew (Plan.mk (v_spec_DrawSessNew a0).Kind (v_spec_DrawSessNew a0).Num (v_spec_DrawSessNew a0).Kids)).1.Told v_laws_lwAll) (fun _ => .w [(p_impl_SessOk (Sess.mk (Plan.mk (v_impl_SessNew (Plan.mk (v_spec_DrawSessNew a0).Kind (v_spec_DrawSessNew a0).Num (v_spec_DrawSessNew a0).Kids)).1.Plan.Kind (v_impl_SessNew (Plan.mk (v_spec_DrawSessNew a0).Kind (v_spec_DrawSessNew a0).Num (v_spec_DrawSessNew a0).Kids)).1.Plan.Num (v_impl_SessNew (Plan.mk (v_spec_DrawSessNew a0).Kind (v_spec_DrawSessNew a0).Num (v_spec_DrawSessNew a0).Kids)).1.Plan.Kids) (v_impl_SessNew (Plan.mk (v_spec_DrawSessNew a0).Kind (v_spec_DrawSessNew a0).Num (v_spec_DrawSessNew a0).Kids)).1.Ins (v_impl_SessNew (Plan.mk (v_spec_DrawSessNew a0).Kind (v_spec_DrawSessNew a0).Num (v_spec_DrawSessNew a0).Kids)).1.Front (v_impl_SessNew (Plan.mk (v_spec_DrawSessNew a0).Kind (v_spec_DrawSessNew a0).Num (v_spec_DrawSessNew a0).Kids)).1.Told)), (((cond (v_impl_SessOk (Sess.mk (Plan.mk (v_impl_SessNew (Plan.mk (v_spec_DrawSessNew a0).Kind (v_spec_DrawSessNew a0).Num (v_spec_DrawSessNew a0).Kids)).1.Plan.Kind (v_impl_SessNew (Plan.mk (v_spec_DrawSessNew a0).Kind (v_spec_DrawSessNew a0).Num (v_spec_DrawSessNew a0).Kids)).1.Plan.Num (v_impl_SessNew (Plan.mk (v_spec_DrawSessNew a0).Kind (v_spec_DrawSessNew a0).Num (v_spec_DrawSessNew a0).Kids)).1.Plan.Kids) (v_impl_SessNew (Plan.mk (v_spec_DrawSessNew a0).Kind (v_spec_DrawSessNew a0).Num (v_spec_DrawSessNew a0).Kids)).1.Ins (v_impl_SessNew (Plan.mk (v_spec_DrawSessNew a0).Kind (v_spec_DrawSessNew a0).Num (v_spec_DrawSessNew a0).Kids)).1.Front (v_impl_SessNew (Plan.mk (v_spec_DrawSessNew a0).Kind (v_spec_DrawSessNew a0).Num (v_spec_DrawSessNew a0).Kids)).1.Told)) (cmp .eql (lenI .row (v_impl_SessNew (Plan.mk (v_spec_DrawSessNew a0).Kind (v_spec_DrawSessNew a0).Num (v_spec_DrawSessNew a0).Kids)).1.Told) 0) false) && true) = true → (p_laws_lwPlan (Plan.mk (v_impl_SessNew (Plan.mk (v_spec_DrawSessNew a0).Kind (v_spec_DrawSessNew a0).Num (v_spec_DrawSessNew a0).Kids)).1.Plan.Kind (v_impl_SessNew (Plan.mk (v_spec_DrawSessNew a0).Kind (v_spec_DrawSessNew a0).Num (v_spec_DrawSessNew a0).Kids)).1.Plan.Num (v_impl_SessNew (Plan.mk (v_spec_DrawSessNew a0).Kind (v_spec_DrawSessNew a0).Num (v_spec_DrawSessNew a0).Kids)).1.Plan.Kids) (Plan.mk (v_spec_DrawSessNew a0).Kind (v_spec_DrawSessNew a0).Num (v_spec_DrawSessNew a0).Kids)))] (.l (.r (cond (cond (v_impl_SessOk (Sess.mk (Plan.mk (v_impl_SessNew (Plan.mk (v_spec_DrawSessNew a0).Kind (v_spec_DrawSessNew a0).Num (v_spec_DrawSessNew a0).Kids)).1.Plan.Kind (v_impl_SessNew (Plan.mk (v_spec_DrawSessNew a0).Kind (v_spec_DrawSessNew a0).Num (v_spec_DrawSessNew a0).Kids)).1.Plan.Num (v_impl_SessNew (Plan.mk (v_spec_DrawSessNew a0).Kind (v_spec_DrawSessNew a0).Num (v_spec_DrawSessNew a0).Kids)).1.Plan.Kids) (v_impl_SessNew (Plan.mk (v_spec_DrawSessNew a0).Kind (v_spec_DrawSessNew a0).Num (v_spec_DrawSessNew a0).Kids)).1.Ins (v_impl_SessNew (Plan.mk (v_spec_DrawSessNew a0).Kind (v_spec_DrawSessNew a0).Num (v_spec_DrawSessNew a0).Kids)).1.Front (v_impl_SessNew (Plan.mk (v_spec_DrawSessNew a0).Kind (v_spec_DrawSessNew a0).Num (v_spec_DrawSessNew a0).Kids)).1.Told)) (cmp .eql (lenI .row (v_impl_SessNew (Plan.mk (v_spec_DrawSessNew a0).Kind (v_spec_DrawSessNew a0).Num (v_spec_DrawSessNew a0).Kids)).1.Told) 0) false) (v_laws_lwPlan (Plan.mk (v_impl_SessNew (Plan.mk (v_spec_DrawSessNew a0).Kind (v_spec_DrawSessNew a0).Num (v_spec_DrawSessNew a0).Kids)).1.Plan.Kind (v_impl_SessNew (Plan.mk (v_spec_DrawSessNew a0).Kind (v_spec_DrawSessNew a0).Num (v_spec_DrawSessNew a0).Kids)).1.Plan.Num (v_impl_SessNew (Plan.mk (v_spec_DrawSessNew a0).Kind (v_spec_DrawSessNew a0).Num (v_spec_DrawSessNew a0).Kids)).1.Plan.Kids) (Plan.mk (v_spec_DrawSessNew a0).Kind (v_spec_DrawSessNew a0).Num (v_spec_DrawSessNew a0).Kids)) false)))) nE nE nE)))))))
def laws_FnSessNew_b := fun a0 => (laws_FnSessNew_b_t a0).val
def laws_FnSessNew_b_ob := fun a0 => (laws_FnSessNew_b_t a0).ob
def laws_FnSessNew_b_S := fun a0 => SubP.mk (laws_FnSessNew_b a0) (laws_FnSessNew_b_ob a0) [] [(0, .S .byte a0)] rv18 nE nE nE nE
theorem laws_FnSessNew_b_ok (G : Good Try.prog tt sp_laws_FnSessNew) {fr : Fr} : ∀ a0, Ok18 fr (laws_FnSessNew_b_S a0) :=
  fun a0 => run_ok G [([0,1,1,1,1,1,1,1], fun e => ⟨laws_FnSessNew_c1_S (gI e 3 0) (gI e 3 1) (gL .plan e 3 2) (gI e 6 0) (gI e 6 1) (gL .plan e 6 2) (gL .lrow e 6 3) (gL .time e 6 4) (gL .row e 6 5) (gL .time e 8 0)⟩)] ⟨fun _ => ⟨rfl, laws_FnSessNew_c1_ok G _ _ _ _ _ _ _ _ _ _⟩, trivial⟩ [(0,[0]),(1,[0,14]),(2,[2]),(3,[3]),(4,[3,4,5]),(5,[3,4,5,6,7]),(6,[3,4,5,6,7,39]),(7,[2]),(8,[3,6,8]),(15,[2])] [] [] (laws_FnSessNew_b_t a0) rfl rfl (by kernel_rfl)
def v_laws_FnSessNew (a0 : LB) : Bool := ocR (laws_FnSessNew_b a0)
def p_laws_FnSessNew (a0 : LB) : Prop := laws_FnSessNew_b_ob a0
def s_laws_FnSessNew : Spec := ⟨[(.lst .byte)], .one .fr .bool, false, fun x => (v_laws_FnSessNew x.1, 0), fun x => p_laws_FnSessNew x.1⟩
theorem con_laws_FnSessNew (G : Good Try.prog tt sp_laws_FnSessNew) : Con Try.prog 18 s_laws_FnSessNew :=
  con_run (pts := [(.lst .byte)]) (rt := .one .fr .bool) (o := fun x => laws_FnSessNew_b x.1) (ob := fun x => laws_FnSessNew_b_ob x.1) G (fn := Try.f18) (c := bodyOf Try.f18) (by kernel_rfl) (by kernel_rfl) (by kernel_rfl) (rs := [.tmp 2]) (fz := F18.fz) (by kernel_rfl) (by kernel_rfl) (fun _ => rfl) rfl (fun x => laws_FnSessNew_b_S x.1) (fun _ => ⟨rfl, rfl, rfl, rfl, rfl⟩) (fun x _ => laws_FnSessNew_b_ok G x.1)

end
end Go.Proofs.Ytopcofkpggefkaa
