/-
  Printed by a program: what functions compute, and their contracts (part 1). Printed by a program: what functions compute, and their contracts (part 2). Printed by a program: the contracts, with those of the callees. Rules for loops over lists, and for the order that a fold sets up. No statement is proved here.
-/
import Derived.Test.YtopcofkpggefkaaJR
import Derived.Test.YtopcofkpggefkaaProg
import Derived.IntWalk

namespace Go.Proofs.Ytopcofkpggefkaa
open Go
noncomputable section
set_option maxRecDepth 100000
def tt : TT := [(2, ⟨.scalar, 1, [.int .i64 0], some .int, false⟩),
  (3, ⟨.scalar, 1, [.int .i64 0], some .int, false⟩),
  (4, ⟨.scalar, 1, [.bool false], some .bool, false⟩),
  (5, ⟨.scalar, 1, [.int .u8 0], some .byte, false⟩),
  (6, ⟨.scalar, 1, [.int .u8 0], some .byte, false⟩),
  (7, ⟨(.struct [(0, 1), (1, 1), (2, 1), (3, 1)]), 4, [.int .i64 0, .int .i64 0, .bool false, .int .u8 0], none, false⟩),
  (8, ⟨(.struct [(0, 1), (1, 1), (2, 1), (3, 1)]), 4, [.int .i64 0, .int .i64 0, .bool false, .int .u8 0], none, false⟩),
  (9, ⟨.scalar, 1, [.str ByteArray.empty], some .str, false⟩),
  (10, ⟨.scalar, 1, [.str ByteArray.empty], some .str, false⟩),
  (11, ⟨.scalar, 1, [.str ByteArray.empty], some .str, false⟩),
  (12, ⟨.scalar, 1, [.int .u64 0], none, false⟩),
  (13, ⟨(.struct [(0, 1), (1, 1)]), 2, [.str ByteArray.empty, .int .u64 0], none, false⟩),
  (14, ⟨(.struct [(0, 1), (1, 1)]), 2, [.str ByteArray.empty, .int .u64 0], none, false⟩),
  (21, ⟨.scalar, 1, [.int .i32 0], none, false⟩),
  (22, ⟨(.slice 24), 1, [.nl .plan], none, false⟩),
  (23, ⟨(.struct [(0, 1), (1, 1), (2, 1)]), 3, [.int .i64 0, .int .i64 0, .nl .plan], some .plan, false⟩),
  (24, ⟨(.struct [(0, 1), (1, 1), (2, 1)]), 3, [.int .i64 0, .int .i64 0, .nl .plan], some .plan, false⟩),
  (26, ⟨(.slice 28), 1, [.nl .plan], none, false⟩),
  (27, ⟨(.struct [(0, 1), (1, 1), (2, 1)]), 3, [.int .i64 0, .int .i64 0, .nl .plan], some .plan, false⟩),
  (28, ⟨(.struct [(0, 1), (1, 1), (2, 1)]), 3, [.int .i64 0, .int .i64 0, .nl .plan], some .plan, false⟩),
  (29, ⟨(.slice 31), 1, [.nl .lrow], none, false⟩),
  (30, ⟨(.slice 74), 1, [.nl .time], none, false⟩),
  (31, ⟨(.slice 76), 1, [.nl .row], some .lrow, false⟩),
  (42, ⟨(.slice 100), 1, [.nl .item], some .litem, false⟩),
  (44, ⟨(.slice 64), 1, [.nl .item], some .litem, false⟩),
  (50, ⟨(.slice 106), 1, [.nl .row], some .lrow, false⟩),
  (59, ⟨(.slice 5), 1, [.nl .byte], none, false⟩),
  (63, ⟨(.struct [(0, 1), (1, 1), (2, 1)]), 3, [.int .i64 0, .int .i64 0, .int .i64 0], some .item, true⟩),
  (64, ⟨(.struct [(0, 1), (1, 1), (2, 1)]), 3, [.int .i64 0, .int .i64 0, .int .i64 0], some .item, true⟩),
  (73, ⟨(.struct [(0, 1), (1, 1)]), 2, [.int .i64 0, .int .i64 0], some .time, true⟩),
  (74, ⟨(.struct [(0, 1), (1, 1)]), 2, [.int .i64 0, .int .i64 0], some .time, true⟩),
  (75, ⟨(.struct [(0, 1), (1, 1), (2, 2), (4, 1)]), 5, [.int .i64 0, .int .i64 0, .int .i64 0, .int .i64 0, .int .i64 0], some .row, true⟩),
  (76, ⟨(.struct [(0, 1), (1, 1), (2, 2), (4, 1)]), 5, [.int .i64 0, .int .i64 0, .int .i64 0, .int .i64 0, .int .i64 0], some .row, true⟩),
  (100, ⟨(.struct [(0, 1), (1, 1), (2, 1)]), 3, [.int .i64 0, .int .i64 0, .int .i64 0], some .item, true⟩),
  (104, ⟨(.struct [(0, 1), (1, 1)]), 2, [.int .i64 0, .int .i64 0], some .time, true⟩),
  (105, ⟨(.struct [(0, 1), (1, 1), (2, 2), (4, 1)]), 5, [.int .i64 0, .int .i64 0, .int .i64 0, .int .i64 0, .int .i64 0], some .row, true⟩),
  (106, ⟨(.struct [(0, 1), (1, 1), (2, 2), (4, 1)]), 5, [.int .i64 0, .int .i64 0, .int .i64 0, .int .i64 0, .int .i64 0], some .row, true⟩),
  (116, ⟨(.slice 3), 1, [.nl .int], none, false⟩),
  (131, ⟨(.struct [(0, 1), (1, 1)]), 2, [.nl .byte, .int .i64 0], none, false⟩),
  (132, ⟨(.struct [(0, 1), (1, 1)]), 2, [.nl .byte, .int .i64 0], none, false⟩),
  (145, ⟨.scalar, 1, [.int .u64 0], none, false⟩),
  (152, ⟨.scalar, 1, [.int .u64 0], none, false⟩),
  (164, ⟨.scalar, 1, [.int .u32 0], none, false⟩),
  (166, ⟨.scalar, 1, [.int .u64 0], none, false⟩),
  (168, ⟨.scalar, 1, [.int .i64 0], some .int, false⟩),
  (180, ⟨.scalar, 1, [.int .u64 0], none, false⟩),
  (197, ⟨.scalar, 1, [.int .u8 0], some .byte, false⟩),
  (198, ⟨.scalar, 1, [.int .u8 0], some .byte, false⟩),
  (201, ⟨.scalar, 1, [.int .i32 0], none, false⟩),
  (202, ⟨.scalar, 1, [.int .i32 0], none, false⟩),
  (205, ⟨(.struct [(0, 1), (1, 1)]), 2, [.str ByteArray.empty, .int .u8 0], none, false⟩),
  (206, ⟨(.struct [(0, 1), (1, 1)]), 2, [.str ByteArray.empty, .int .u8 0], none, false⟩)]
def sp_spec_l6Open : SP := []
abbrev F94 : Fnn := ⟨[.tmp 2], .rdr, none, []⟩
abbrev rv94 : (LB × Int) → RV := fun q => (some (RT.av (.rdr) q), .dead)
abbrev Ok94 (fr : Fr) {A X Y Z : Type} (S : SubP ((LB × Int)) A X Y Z) : Prop := SubOk Try.prog tt ⟨Try.f94.ntmps, none, []⟩ fr (bodyOf Try.f94) F94 S
def spec_l6Open_c1_t (x1 : LB) : Tr ((LB × Int)) LB Empty Empty Empty :=
  .c (cmp .gtr (lenI .byte x1) 2000)
  (.w [le3 0 2000 (lenI .byte x1)] (.l (.n (List.drop (Int.toNat 0) (List.take (Int.toNat 2000) x1)))))
  (.l (.n x1))
def spec_l6Open_c1 := fun x1 => (spec_l6Open_c1_t x1).val
def spec_l6Open_c1_ob := fun x1 => (spec_l6Open_c1_t x1).ob
def spec_l6Open_c1_S := fun x1 => SubP.mk (spec_l6Open_c1 x1) (spec_l6Open_c1_ob x1) [0,1] [(0, .S .byte x1)] rv94 (fun q => [(0, .S .byte q)]) nE nE nE
theorem spec_l6Open_c1_ok (G : Good Try.prog tt sp_spec_l6Open) {fr : Fr} : ∀ x1, Ok94 fr (spec_l6Open_c1_S x1) :=
  fun x1 => run_ok G [] trivial [(1,[0,5]),(2,[0])] [] [] (spec_l6Open_c1_t x1) rfl rfl (by kernel_rfl)
def spec_l6Open_b_t (a0 : LB) : Tr ((LB × Int)) Empty Empty Empty Empty :=
  .s (spec_l6Open_c1_S a0) (fun q4 => .l (.r (q4, 0))) nE nE nE
def spec_l6Open_b := fun a0 => (spec_l6Open_b_t a0).val
def spec_l6Open_b_ob := fun a0 => (spec_l6Open_b_t a0).ob
def spec_l6Open_b_S := fun a0 => SubP.mk (spec_l6Open_b a0) (spec_l6Open_b_ob a0) [] [(0, .S .byte a0)] rv94 nE nE nE nE
theorem spec_l6Open_b_ok (G : Good Try.prog tt sp_spec_l6Open) {fr : Fr} : ∀ a0, Ok94 fr (spec_l6Open_b_S a0) :=
  fun a0 => run_ok G [([0,1], fun e => ⟨spec_l6Open_c1_S (gL .byte e 0 0)⟩)] ⟨fun _ => ⟨rfl, spec_l6Open_c1_ok G _⟩, trivial⟩ [(0,[0]),(3,[2])] [] [] (spec_l6Open_b_t a0) rfl rfl (by kernel_rfl)
def v_spec_l6Open (a0 : LB) : (LB × Int) := ocR (spec_l6Open_b a0)
def p_spec_l6Open (a0 : LB) : Prop := spec_l6Open_b_ob a0
def s_spec_l6Open : Spec := ⟨[(.lst .byte)], .rdr, false, fun x => (v_spec_l6Open x.1, 0), fun x => p_spec_l6Open x.1⟩
theorem con_spec_l6Open (G : Good Try.prog tt sp_spec_l6Open) : Con Try.prog 94 s_spec_l6Open :=
  con_run (pts := [(.lst .byte)]) (rt := .rdr) (o := fun x => spec_l6Open_b x.1) (ob := fun x => spec_l6Open_b_ob x.1) G (fn := Try.f94) (c := bodyOf Try.f94) (by kernel_rfl) (by kernel_rfl) (by kernel_rfl) (rs := [.tmp 2]) (fz := F94.fz) (by kernel_rfl) (by kernel_rfl) (fun _ => rfl) rfl (fun x => spec_l6Open_b_S x.1) (fun _ => ⟨rfl, rfl, rfl, rfl, rfl⟩) (fun x _ => spec_l6Open_b_ok G x.1)
def sp_spec_l6Rd_pick : SP := []
abbrev F98 : Fnn := ⟨[.tmp 4], .one .fr (.int .i64), some 0, []⟩
abbrev rv98 (b : LB) : Int × Int → RV := fun q => (some (RT.av (.one .fr (.int .i64)) q.1), .box [(.sh, .lst .byte b), (.fr, .i q.2)])
abbrev Ok98 (fr : Fr) {A X Y Z : Type} (S : SubP (Int × Int) A X Y Z) : Prop := SubOk Try.prog tt ⟨Try.f98.ntmps, some 0, []⟩ fr (bodyOf Try.f98) F98 S
def spec_l6Rd_pick_b_t (a0 : (LB × Int)) (a1 : Int) : Tr (Int × Int) Empty Empty Empty Empty :=
  .c (cond (cmp .lss a1 1) true (cmp .eql (lenI .byte a0.1) 0))
  (.l (.r (0, (ar .add .i64 a0.2 1))))
  (.c (cmp .lss (ar .sub .i64 (ar .add .i64 a0.2 1) 1) (lenI .byte a0.1))
  (.w [inb (ar .sub .i64 (ar .add .i64 a0.2 1) 1) (lenI .byte a0.1), (a1 : Int) ≠ 0] (.l (.r ((ar .rem .i64 (IntKind.wrap .i64 (rd .byte a0.1 (ar .sub .i64 (ar .add .i64 a0.2 1) 1))) a1), (ar .add .i64 a0.2 1)))))
  (.w [((lenI .byte a0.1) : Int) ≠ 0, inb (ar .rem .i64 (ar .sub .i64 (ar .add .i64 a0.2 1) 1) (lenI .byte a0.1)) (lenI .byte a0.1), ((lenI .byte a0.1) : Int) ≠ 0, inb (ar .rem .i64 (ar .add .i64 (ar .mul .i64 (ar .sub .i64 (ar .add .i64 a0.2 1) 1) 7) 3) (lenI .byte a0.1)) (lenI .byte a0.1), ((lenI .byte a0.1) : Int) ≠ 0] (.w [(64 : Int) ≠ 0] (.w [(a1 : Int) ≠ 0] (.l (.r ((ar .rem .i64 (xr .i64 (ar .add .i64 (ar .add .i64 (ar .add .i64 (ar .mul .i64 (IntKind.wrap .i64 (rd .byte a0.1 (ar .rem .i64 (ar .sub .i64 (ar .add .i64 a0.2 1) 1) (lenI .byte a0.1)))) 131) (ar .mul .i64 (IntKind.wrap .i64 (rd .byte a0.1 (ar .rem .i64 (ar .add .i64 (ar .mul .i64 (ar .sub .i64 (ar .add .i64 a0.2 1) 1) 7) 3) (lenI .byte a0.1)))) 1117)) (ar .mul .i64 (ar .sub .i64 (ar .add .i64 a0.2 1) 1) 29)) (ar .mul .i64 (ar .quo .i64 (ar .sub .i64 (ar .add .i64 a0.2 1) 1) (lenI .byte a0.1)) 53)) (ar .quo .i64 (ar .add .i64 (ar .add .i64 (ar .add .i64 (ar .mul .i64 (IntKind.wrap .i64 (rd .byte a0.1 (ar .rem .i64 (ar .sub .i64 (ar .add .i64 a0.2 1) 1) (lenI .byte a0.1)))) 131) (ar .mul .i64 (IntKind.wrap .i64 (rd .byte a0.1 (ar .rem .i64 (ar .add .i64 (ar .mul .i64 (ar .sub .i64 (ar .add .i64 a0.2 1) 1) 7) 3) (lenI .byte a0.1)))) 1117)) (ar .mul .i64 (ar .sub .i64 (ar .add .i64 a0.2 1) 1) 29)) (ar .mul .i64 (ar .quo .i64 (ar .sub .i64 (ar .add .i64 a0.2 1) 1) (lenI .byte a0.1)) 53)) 64)) a1), (ar .add .i64 a0.2 1))))))))
def spec_l6Rd_pick_b := fun a0 a1 => (spec_l6Rd_pick_b_t a0 a1).val
def spec_l6Rd_pick_b_ob := fun a0 a1 => (spec_l6Rd_pick_b_t a0 a1).ob
def spec_l6Rd_pick_b_S := fun a0 a1 => SubP.mk (spec_l6Rd_pick_b a0 a1) (spec_l6Rd_pick_b_ob a0 a1) [] [(0, .box [(.sh, .lst .byte a0.1), (.fr, .i a0.2)]), (1, .I a1)] (rv98 a0.1) nE nE nE nE
theorem spec_l6Rd_pick_b_ok (G : Good Try.prog tt sp_spec_l6Rd_pick) {fr : Fr} : ∀ a0 a1, Ok98 fr (spec_l6Rd_pick_b_S a0 a1) :=
  fun a0 a1 => run_ok G [] trivial [(0,[0,1]),(1,[0,1]),(2,[0,1,24]),(3,[0,4]),(4,[0,1,5]),(5,[0,1,5,36]),(6,[0,4]),(7,[0,1,6]),(8,[0,1,6]),(9,[0,4])] [] [] (spec_l6Rd_pick_b_t a0 a1) rfl rfl (by kernel_rfl)
def v_spec_l6Rd_pick (a0 : (LB × Int)) (a1 : Int) : Int × Int := ocR (spec_l6Rd_pick_b a0 a1)
def p_spec_l6Rd_pick (a0 : (LB × Int)) (a1 : Int) : Prop := spec_l6Rd_pick_b_ob a0 a1
def s_spec_l6Rd_pick : Spec := ⟨[.rdr, (.int .i64)], .one .fr (.int .i64), true, fun x => v_spec_l6Rd_pick x.1 x.2.1, fun x => p_spec_l6Rd_pick x.1 x.2.1⟩
theorem con_spec_l6Rd_pick (G : Good Try.prog tt sp_spec_l6Rd_pick) : Con Try.prog 98 s_spec_l6Rd_pick :=
  con_rdr (pts := [.rdr, (.int .i64)]) (rt := .one .fr (.int .i64)) (o := fun x => spec_l6Rd_pick_b x.1 x.2.1) (ob := fun x => spec_l6Rd_pick_b_ob x.1 x.2.1) G (fn := Try.f98) (c := bodyOf Try.f98) (by kernel_rfl) (by kernel_rfl) (by kernel_rfl) (rs := [.tmp 4]) (fz := F98.fz) (by kernel_rfl) (by kernel_rfl) (fun h => Bool.noConfusion h) rfl (fun x => x.1.1) (fun _ => rfl) (fun x => spec_l6Rd_pick_b_S x.1 x.2.1) (fun _ => ⟨rfl, rfl, rfl, rfl, rfl⟩) (fun x _ => spec_l6Rd_pick_b_ok G x.1 x.2.1)
def sp_spec_l71Time : SP := [(98, s_spec_l6Rd_pick)]
abbrev F157 : Fnn := ⟨[.cell 2 74], .one .fr (.st .time), some 0, []⟩
abbrev rv157 (b : LB) : Time × Int → RV := fun q => (some (RT.av (.one .fr (.st .time)) q.1), .box [(.sh, .lst .byte b), (.fr, .i q.2)])
abbrev Ok157 (fr : Fr) {A X Y Z : Type} (S : SubP (Time × Int) A X Y Z) : Prop := SubOk Try.prog tt ⟨Try.f157.ntmps, some 0, []⟩ fr (bodyOf Try.f157) F157 S
def spec_l71Time_b_t (a0 : (LB × Int)) : Tr (Time × Int) Empty Empty Empty Empty :=
  .w [(p_spec_l6Rd_pick (a0.1, a0.2) 10)] (.c (cmp .eql (v_spec_l6Rd_pick (a0.1, a0.2) 10).1 0)
  (.w [(p_spec_l6Rd_pick (a0.1, (v_spec_l6Rd_pick (a0.1, a0.2) 10).2) 8), (p_spec_l6Rd_pick (a0.1, (v_spec_l6Rd_pick (a0.1, (v_spec_l6Rd_pick (a0.1, a0.2) 10).2) 8).2) 8)] (.l (.r ((Time.mk (v_spec_l6Rd_pick (a0.1, (v_spec_l6Rd_pick (a0.1, a0.2) 10).2) 8).1 (v_spec_l6Rd_pick (a0.1, (v_spec_l6Rd_pick (a0.1, (v_spec_l6Rd_pick (a0.1, a0.2) 10).2) 8).2) 8).1), (v_spec_l6Rd_pick (a0.1, (v_spec_l6Rd_pick (a0.1, (v_spec_l6Rd_pick (a0.1, a0.2) 10).2) 8).2) 8).2))))
  (.w [(p_spec_l6Rd_pick (a0.1, (v_spec_l6Rd_pick (a0.1, a0.2) 10).2) 4), (p_spec_l6Rd_pick (a0.1, (v_spec_l6Rd_pick (a0.1, (v_spec_l6Rd_pick (a0.1, a0.2) 10).2) 4).2) 4)] (.l (.r ((Time.mk (v_spec_l6Rd_pick (a0.1, (v_spec_l6Rd_pick (a0.1, a0.2) 10).2) 4).1 (v_spec_l6Rd_pick (a0.1, (v_spec_l6Rd_pick (a0.1, (v_spec_l6Rd_pick (a0.1, a0.2) 10).2) 4).2) 4).1), (v_spec_l6Rd_pick (a0.1, (v_spec_l6Rd_pick (a0.1, (v_spec_l6Rd_pick (a0.1, a0.2) 10).2) 4).2) 4).2)))))
def spec_l71Time_b := fun a0 => (spec_l71Time_b_t a0).val
def spec_l71Time_b_ob := fun a0 => (spec_l71Time_b_t a0).ob
def spec_l71Time_b_S := fun a0 => SubP.mk (spec_l71Time_b a0) (spec_l71Time_b_ob a0) [] [(0, .box [(.sh, .lst .byte a0.1), (.fr, .i a0.2)])] (rv157 a0.1) nE nE nE nE
theorem spec_l71Time_b_ok (G : Good Try.prog tt sp_spec_l71Time) {fr : Fr} : ∀ a0, Ok157 fr (spec_l71Time_b_S a0) :=
  fun a0 => run_ok G [] trivial [(0,[0,2]),(1,[0,2,5]),(2,[0,2]),(3,[0,2])] [] [] (spec_l71Time_b_t a0) rfl rfl (by kernel_rfl)
def v_spec_l71Time (a0 : (LB × Int)) : Time × Int := ocR (spec_l71Time_b a0)
def p_spec_l71Time (a0 : (LB × Int)) : Prop := spec_l71Time_b_ob a0
def s_spec_l71Time : Spec := ⟨[.rdr], .one .fr (.st .time), true, fun x => v_spec_l71Time x.1, fun x => p_spec_l71Time x.1⟩
theorem con_spec_l71Time (G : Good Try.prog tt sp_spec_l71Time) : Con Try.prog 157 s_spec_l71Time :=
  con_rdr (pts := [.rdr]) (rt := .one .fr (.st .time)) (o := fun x => spec_l71Time_b x.1) (ob := fun x => spec_l71Time_b_ob x.1) G (fn := Try.f157) (c := bodyOf Try.f157) (by kernel_rfl) (by kernel_rfl) (by kernel_rfl) (rs := [.cell 2 74]) (fz := F157.fz) (by kernel_rfl) (by kernel_rfl) (fun h => Bool.noConfusion h) rfl (fun x => x.1.1) (fun _ => rfl) (fun x => spec_l71Time_b_S x.1) (fun _ => ⟨rfl, rfl, rfl, rfl, rfl⟩) (fun x _ => spec_l71Time_b_ok G x.1)
def sp_spec_l71Row : SP := [(98, s_spec_l6Rd_pick), (157, s_spec_l71Time)]
abbrev F144 : Fnn := ⟨[.cell 2 76], .one .fr (.st .row), some 0, []⟩
abbrev rv144 (b : LB) : Row × Int → RV := fun q => (some (RT.av (.one .fr (.st .row)) q.1), .box [(.sh, .lst .byte b), (.fr, .i q.2)])
abbrev Ok144 (fr : Fr) {A X Y Z : Type} (S : SubP (Row × Int) A X Y Z) : Prop := SubOk Try.prog tt ⟨Try.f144.ntmps, some 0, []⟩ fr (bodyOf Try.f144) F144 S
def spec_l71Row_b_t (a0 : (LB × Int)) : Tr (Row × Int) Empty Empty Empty Empty :=
  .w [(p_spec_l6Rd_pick (a0.1, a0.2) 4), (p_spec_l6Rd_pick (a0.1, (v_spec_l6Rd_pick (a0.1, a0.2) 4).2) 9), inb (v_spec_l6Rd_pick (a0.1, (v_spec_l6Rd_pick (a0.1, a0.2) 4).2) 9).1 (lenI .int [0, 1, 2, 3, 4, 9, 10, 57, 99]), (p_spec_l71Time (a0.1, (v_spec_l6Rd_pick (a0.1, (v_spec_l6Rd_pick (a0.1, a0.2) 4).2) 9).2)), (p_spec_l6Rd_pick (a0.1, (v_spec_l71Time (a0.1, (v_spec_l6Rd_pick (a0.1, (v_spec_l6Rd_pick (a0.1, a0.2) 4).2) 9).2)).2) 8), inb (v_spec_l6Rd_pick (a0.1, (v_spec_l71Time (a0.1, (v_spec_l6Rd_pick (a0.1, (v_spec_l6Rd_pick (a0.1, a0.2) 4).2) 9).2)).2) 8).1 (lenI .int [1, 1, 1, 2, (-1), (-1), 3, 0])] (.l (.r ((Row.mk (v_spec_l6Rd_pick (a0.1, a0.2) 4).1 (rd .int [0, 1, 2, 3, 4, 9, 10, 57, 99] (v_spec_l6Rd_pick (a0.1, (v_spec_l6Rd_pick (a0.1, a0.2) 4).2) 9).1) (v_spec_l71Time (a0.1, (v_spec_l6Rd_pick (a0.1, (v_spec_l6Rd_pick (a0.1, a0.2) 4).2) 9).2)).1 (rd .int [1, 1, 1, 2, (-1), (-1), 3, 0] (v_spec_l6Rd_pick (a0.1, (v_spec_l71Time (a0.1, (v_spec_l6Rd_pick (a0.1, (v_spec_l6Rd_pick (a0.1, a0.2) 4).2) 9).2)).2) 8).1)), (v_spec_l6Rd_pick (a0.1, (v_spec_l71Time (a0.1, (v_spec_l6Rd_pick (a0.1, (v_spec_l6Rd_pick (a0.1, a0.2) 4).2) 9).2)).2) 8).2)))
def spec_l71Row_b := fun a0 => (spec_l71Row_b_t a0).val
def spec_l71Row_b_ob := fun a0 => (spec_l71Row_b_t a0).ob
def spec_l71Row_b_S := fun a0 => SubP.mk (spec_l71Row_b a0) (spec_l71Row_b_ob a0) [] [(0, .box [(.sh, .lst .byte a0.1), (.fr, .i a0.2)])] (rv144 a0.1) nE nE nE nE
theorem spec_l71Row_b_ok (G : Good Try.prog tt sp_spec_l71Row) {fr : Fr} : ∀ a0, Ok144 fr (spec_l71Row_b_S a0) :=
  fun a0 => run_ok G [] trivial [(0,[0,2]),(1,[0,2])] [] [] (spec_l71Row_b_t a0) rfl rfl (by kernel_rfl)
def v_spec_l71Row (a0 : (LB × Int)) : Row × Int := ocR (spec_l71Row_b a0)
def p_spec_l71Row (a0 : (LB × Int)) : Prop := spec_l71Row_b_ob a0
def s_spec_l71Row : Spec := ⟨[.rdr], .one .fr (.st .row), true, fun x => v_spec_l71Row x.1, fun x => p_spec_l71Row x.1⟩
theorem con_spec_l71Row (G : Good Try.prog tt sp_spec_l71Row) : Con Try.prog 144 s_spec_l71Row :=
  con_rdr (pts := [.rdr]) (rt := .one .fr (.st .row)) (o := fun x => spec_l71Row_b x.1) (ob := fun x => spec_l71Row_b_ob x.1) G (fn := Try.f144) (c := bodyOf Try.f144) (by kernel_rfl) (by kernel_rfl) (by kernel_rfl) (rs := [.cell 2 76]) (fz := F144.fz) (by kernel_rfl) (by kernel_rfl) (fun h => Bool.noConfusion h) rfl (fun x => x.1.1) (fun _ => rfl) (fun x => spec_l71Row_b_S x.1) (fun _ => ⟨rfl, rfl, rfl, rfl, rfl⟩) (fun x _ => spec_l71Row_b_ok G x.1)
def sp_spec_l71Rows : SP := [(98, s_spec_l6Rd_pick), (144, s_spec_l71Row)]
abbrev F129 : Fnn := ⟨[.tmp 4], .one (.acc true) (.lst .row), some 0, []⟩
abbrev rv129 (b : LB) : LR × Int → RV := fun q => (some (RT.av (.one (.acc true) (.lst .row)) q.1), .box [(.sh, .lst .byte b), (.fr, .i q.2)])
abbrev Ok129 (fr : Fr) {A X Y Z : Type} (S : SubP (LR × Int) A X Y Z) : Prop := SubOk Try.prog tt ⟨Try.f129.ntmps, some 0, []⟩ fr (bodyOf Try.f129) F129 S
def spec_l71Rows_c4_t (x42 : LB) (x43 : Int) (x44 : LR) (_x45 : Int) (x46 : Row) : Tr (LR × Int) (Int × Int × Int × Int) Empty Empty Empty :=
  .w [(((cmp .gtr (lenI .row x44) 0) && true) = true → (p_spec_l6Rd_pick (x42, x43) 3))] (.c (cond (cmp .gtr (lenI .row x44) 0) (cmp .eql (v_spec_l6Rd_pick (x42, x43) 3).1 0) false)
  (.w [(p_spec_l6Rd_pick (x42, (cond ((cmp .gtr (lenI .row x44) 0) && true) (v_spec_l6Rd_pick (x42, x43) 3).2 x43)) (lenI .row x44)), inb (v_spec_l6Rd_pick (x42, (cond ((cmp .gtr (lenI .row x44) 0) && true) (v_spec_l6Rd_pick (x42, x43) 3).2 x43)) (lenI .row x44)).1 (lenI .row x44)] (.w [(p_spec_l6Rd_pick (x42, (v_spec_l6Rd_pick (x42, (cond ((cmp .gtr (lenI .row x44) 0) && true) (v_spec_l6Rd_pick (x42, x43) 3).2 x43)) (lenI .row x44)).2) 2)] (.c (cmp .eql (v_spec_l6Rd_pick (x42, (v_spec_l6Rd_pick (x42, (cond ((cmp .gtr (lenI .row x44) 0) && true) (v_spec_l6Rd_pick (x42, x43) 3).2 x43)) (lenI .row x44)).2) 2).1 0)
  (.l (.n ((v_spec_l6Rd_pick (x42, (v_spec_l6Rd_pick (x42, (cond ((cmp .gtr (lenI .row x44) 0) && true) (v_spec_l6Rd_pick (x42, x43) 3).2 x43)) (lenI .row x44)).2) 2).2, (rd .row x44 (v_spec_l6Rd_pick (x42, (cond ((cmp .gtr (lenI .row x44) 0) && true) (v_spec_l6Rd_pick (x42, x43) 3).2 x43)) (lenI .row x44)).1).Key, (rd .row x44 (v_spec_l6Rd_pick (x42, (cond ((cmp .gtr (lenI .row x44) 0) && true) (v_spec_l6Rd_pick (x42, x43) 3).2 x43)) (lenI .row x44)).1).Val, (IntKind.wrap .i64 (0 - (rd .row x44 (v_spec_l6Rd_pick (x42, (cond ((cmp .gtr (lenI .row x44) 0) && true) (v_spec_l6Rd_pick (x42, x43) 3).2 x43)) (lenI .row x44)).1).Diff)))))
  (.l (.n ((v_spec_l6Rd_pick (x42, (v_spec_l6Rd_pick (x42, (cond ((cmp .gtr (lenI .row x44) 0) && true) (v_spec_l6Rd_pick (x42, x43) 3).2 x43)) (lenI .row x44)).2) 2).2, (rd .row x44 (v_spec_l6Rd_pick (x42, (cond ((cmp .gtr (lenI .row x44) 0) && true) (v_spec_l6Rd_pick (x42, x43) 3).2 x43)) (lenI .row x44)).1).Key, (rd .row x44 (v_spec_l6Rd_pick (x42, (cond ((cmp .gtr (lenI .row x44) 0) && true) (v_spec_l6Rd_pick (x42, x43) 3).2 x43)) (lenI .row x44)).1).Val, x46.Diff))))))
  (.l (.n ((cond ((cmp .gtr (lenI .row x44) 0) && true) (v_spec_l6Rd_pick (x42, x43) 3).2 x43), x46.Key, x46.Val, x46.Diff))))
def spec_l71Rows_c4 := fun x42 x43 x44 x45 x46 => (spec_l71Rows_c4_t x42 x43 x44 x45 x46).val
def spec_l71Rows_c4_ob := fun x42 x43 x44 x45 x46 => (spec_l71Rows_c4_t x42 x43 x44 x45 x46).ob
def spec_l71Rows_c4_S := fun x42 x43 x44 x45 x46 => SubP.mk (spec_l71Rows_c4 x42 x43 x44 x45 x46) (spec_l71Rows_c4_ob x42 x43 x44 x45 x46) [0,1,0,0,1,0,0,1,0,1,1] [(0, .box [(.sh, .lst .byte x42), (.fr, .i x43)]), (5, .A .row x44), (6, .I x45), (7, .box [(.fr, .i x46.Key), (.fr, .i x46.Val), (.fr, .i x46.At.A), (.fr, .i x46.At.B), (.fr, .i x46.Diff)])] (rv129 x42) (fun q => [(0, .box [(.sh, .lst .byte x42), (.fr, .i q.1)]), (5, .A .row x44), (6, .I x45), (7, .box [(.fr, .i q.2.1), (.fr, .i q.2.2.1), (.fr, .i x46.At.A), (.fr, .i x46.At.B), (.fr, .i q.2.2.2)])]) nE nE nE
theorem spec_l71Rows_c4_ok (G : Good Try.prog tt sp_spec_l71Rows) {fr : Fr} : ∀ x42 x43 x44 x45 x46, Ok129 fr (spec_l71Rows_c4_S x42 x43 x44 x45 x46) :=
  fun x42 x43 x44 x45 x46 => run_ok G [] trivial [(6,[0,5,6,7,27]),(7,[0,5,6,7,8]),(8,[0,5,6,7,8]),(9,[0,5,6,7,8]),(10,[0,5,6,7,8,43]),(11,[0,5,6,7])] [] [] (spec_l71Rows_c4_t x42 x43 x44 x45 x46) rfl rfl (by kernel_rfl)
def spec_l71Rows_c3_t (x38 : LB) (x39 : Int) (x40 : LR) (x41 : Int) : Tr (LR × Int) (Int × LR) Empty Empty Empty :=
  .w [(p_spec_l71Row (x38, x39))] (.s (spec_l71Rows_c4_S x38 (v_spec_l71Row (x38, x39)).2 x40 x41 (v_spec_l71Row (x38, x39)).1) (fun q53 => .w [lim (lenI .row x40) (lenI .row [(Row.mk q53.2.1 q53.2.2.1 (v_spec_l71Row (x38, x39)).1.At q53.2.2.2)])] (.l (.n (q53.1, (x40 ++ [(Row.mk q53.2.1 q53.2.2.1 (v_spec_l71Row (x38, x39)).1.At q53.2.2.2)]))))) nE nE nE)
def spec_l71Rows_c3 := fun x38 x39 x40 x41 => (spec_l71Rows_c3_t x38 x39 x40 x41).val
def spec_l71Rows_c3_ob := fun x38 x39 x40 x41 => (spec_l71Rows_c3_t x38 x39 x40 x41).ob
def spec_l71Rows_c3_S := fun x38 x39 x40 x41 => SubP.mk (spec_l71Rows_c3 x38 x39 x40 x41) (spec_l71Rows_c3_ob x38 x39 x40 x41) [0,1,0,0,1,0,1,1] [(0, .box [(.sh, .lst .byte x38), (.fr, .i x39)]), (5, .A .row x40), (6, .I x41)] (rv129 x38) (fun q => [(0, .box [(.sh, .lst .byte x38), (.fr, .i q.1)]), (5, .A .row q.2), (6, .I x41)]) nE nE nE
theorem spec_l71Rows_c3_ok (G : Good Try.prog tt sp_spec_l71Rows) {fr : Fr} : ∀ x38 x39 x40 x41, Ok129 fr (spec_l71Rows_c3_S x38 x39 x40 x41) :=
  fun x38 x39 x40 x41 => run_ok G [([0,1,0,0,1,0,0,1,0,1,1], fun e => ⟨spec_l71Rows_c4_S (gL .byte e 0 0) (gI e 0 1) (gL .row e 5 0) (gI e 6 0) (gRow e 7)⟩)] ⟨fun _ => ⟨rfl, spec_l71Rows_c4_ok G _ _ _ _ _⟩, trivial⟩ [(5,[0,5,6,7]),(12,[0,5,6])] [] [] (spec_l71Rows_c3_t x38 x39 x40 x41) rfl rfl (by kernel_rfl)
def spec_l71Rows_c2_r_t (x4 : LB) (_x5 _x6 s34 : Int) (s35 : LR) (s36 : Int) : Tr (LR × Int) (Int × LR × Int) (Int × LR) Empty Empty :=
  .c (cmp .gtr s36 0)
  (.s (spec_l71Rows_c3_S x4 s34 s35 s36) (fun q59 => .l (.n (q59.1, q59.2, (ar .sub .i64 s36 1)))) nE nE nE)
  (.l (.x (s34, s35)))
def spec_l71Rows_c2_r := fun x4 x5 x6 s34 s35 s36 => (spec_l71Rows_c2_r_t x4 x5 x6 s34 s35 s36).val
def spec_l71Rows_c2_r_ob := fun x4 x5 x6 s34 s35 s36 => (spec_l71Rows_c2_r_t x4 x5 x6 s34 s35 s36).ob
def spec_l71Rows_c2_r_S := fun x4 x5 x6 s34 s35 s36 => mkRd (spec_l71Rows_c2_r x4 x5 x6 s34 s35 s36) (spec_l71Rows_c2_r_ob x4 x5 x6 s34 s35 s36) [0,0,1,0,1,1] (fun q => [(0, .box [(.sh, .lst .byte x4), (.fr, .i q.1)]), (5, .A .row q.2.1), (6, .I q.2.2)]) (s34, s35, s36) (rv129 x4) (fun q => (0, [(0, .box [(.sh, .lst .byte x4), (.fr, .i q.1)]), (5, .A .row q.2)])) nE nE
theorem spec_l71Rows_c2_r_ok (G : Good Try.prog tt sp_spec_l71Rows) {fr : Fr} : ∀ x4 x5 x6 s34 s35 s36, Ok129 fr (spec_l71Rows_c2_r_S x4 x5 x6 s34 s35 s36) :=
  fun x4 x5 x6 s34 s35 s36 => run_ok G [([0,1,0,0,1,0,1,1], fun e => ⟨spec_l71Rows_c3_S (gL .byte e 0 0) (gI e 0 1) (gL .row e 5 0) (gI e 6 0)⟩)] ⟨fun _ => ⟨rfl, spec_l71Rows_c3_ok G _ _ _ _⟩, trivial⟩ [(3,[0,5,6,15]),(4,[0,5,6])] [] [] (spec_l71Rows_c2_r_t x4 x5 x6 s34 s35 s36) rfl rfl (by kernel_rfl)
def spec_l71Rows_c2 := fun x4 x5 x6 => lpV (fun s : Int × LR × Int => ocLp (spec_l71Rows_c2_r x4 x5 x6 s.1 s.2.1 s.2.2)) (x5, [], x6)
def spec_l71Rows_c2_ob := fun x4 x5 x6 => LpT (fun s : Int × LR × Int => ocLp (spec_l71Rows_c2_r x4 x5 x6 s.1 s.2.1 s.2.2)) (fun s => spec_l71Rows_c2_r_ob x4 x5 x6 s.1 s.2.1 s.2.2) (x5, [], x6)
def spec_l71Rows_c2_S := fun x4 x5 x6 => lpS (spec_l71Rows_c2_r_S x4 x5 x6 x5 [] x6) (spec_l71Rows_c2 x4 x5 x6) (spec_l71Rows_c2_ob x4 x5 x6)
theorem spec_l71Rows_c2_ok (G : Good Try.prog tt sp_spec_l71Rows) {fr : Fr} : ∀ x4 x5 x6, Ok129 fr (spec_l71Rows_c2_S x4 x5 x6) :=
  fun x4 x5 x6 => loop_ok (fun s : Int × LR × Int => spec_l71Rows_c2_r_S x4 x5 x6 s.1 s.2.1 s.2.2) (x5, [], x6) (fun _ => rfl) (fun _ => ⟨rfl, rfl, rfl, rfl, rfl⟩) (by kernel_rfl) fun _ => spec_l71Rows_c2_r_ok G _ _ _ _ _ _
def spec_l71Rows_c1_t (x1 : LB) (x2 x3 : Int) : Tr (LR × Int) (Int × LR) Empty Empty Empty :=
  .w [(p_spec_l6Rd_pick (x1, x2) (ar .add .i64 x3 1))] (.s (spec_l71Rows_c2_S x1 (v_spec_l6Rd_pick (x1, x2) (ar .add .i64 x3 1)).2 (v_spec_l6Rd_pick (x1, x2) (ar .add .i64 x3 1)).1) nE (fun q73 => .l (.n (q73.1, q73.2))) nE nE)
def spec_l71Rows_c1 := fun x1 x2 x3 => (spec_l71Rows_c1_t x1 x2 x3).val
def spec_l71Rows_c1_ob := fun x1 x2 x3 => (spec_l71Rows_c1_t x1 x2 x3).ob
def spec_l71Rows_c1_S := fun x1 x2 x3 => SubP.mk (spec_l71Rows_c1 x1 x2 x3) (spec_l71Rows_c1_ob x1 x2 x3) [0,1,1] [(0, .box [(.sh, .lst .byte x1), (.fr, .i x2)]), (1, .I x3), (5, .A .row [])] (rv129 x1) (fun q => [(0, .box [(.sh, .lst .byte x1), (.fr, .i q.1)]), (5, .A .row q.2)]) nE nE nE
theorem spec_l71Rows_c1_ok (G : Good Try.prog tt sp_spec_l71Rows) {fr : Fr} : ∀ x1 x2 x3, Ok129 fr (spec_l71Rows_c1_S x1 x2 x3) :=
  fun x1 x2 x3 => run_ok G [([0,1,0,1,1], fun e => ⟨spec_l71Rows_c2_S (gL .byte e 0 0) (gI e 0 1) (gI e 6 0)⟩)] ⟨fun _ => ⟨rfl, spec_l71Rows_c2_ok G _ _ _⟩, trivial⟩ [(2,[0,5,6])] [] [] (spec_l71Rows_c1_t x1 x2 x3) rfl rfl (by kernel_rfl)
def spec_l71Rows_b_t (a0 : (LB × Int)) (a1 : Int) : Tr (LR × Int) Empty Empty Empty Empty :=
  .s (spec_l71Rows_c1_S a0.1 a0.2 a1) (fun q77 => .l (.r (q77.2, q77.1))) nE nE nE
def spec_l71Rows_b := fun a0 a1 => (spec_l71Rows_b_t a0 a1).val
def spec_l71Rows_b_ob := fun a0 a1 => (spec_l71Rows_b_t a0 a1).ob
def spec_l71Rows_b_S := fun a0 a1 => SubP.mk (spec_l71Rows_b a0 a1) (spec_l71Rows_b_ob a0 a1) [] [(0, .box [(.sh, .lst .byte a0.1), (.fr, .i a0.2)]), (1, .I a1)] (rv129 a0.1) nE nE nE nE
theorem spec_l71Rows_b_ok (G : Good Try.prog tt sp_spec_l71Rows) {fr : Fr} : ∀ a0 a1, Ok129 fr (spec_l71Rows_b_S a0 a1) :=
  fun a0 a1 => run_ok G [([0,1,1], fun e => ⟨spec_l71Rows_c1_S (gL .byte e 0 0) (gI e 0 1) (gI e 1 0)⟩)] ⟨fun _ => ⟨rfl, spec_l71Rows_c1_ok G _ _ _⟩, trivial⟩ [(0,[0,1]),(1,[0,1,5]),(13,[0,4])] [] [] (spec_l71Rows_b_t a0 a1) rfl rfl (by kernel_rfl)
def v_spec_l71Rows (a0 : (LB × Int)) (a1 : Int) : LR × Int := ocR (spec_l71Rows_b a0 a1)
def p_spec_l71Rows (a0 : (LB × Int)) (a1 : Int) : Prop := spec_l71Rows_b_ob a0 a1
def s_spec_l71Rows : Spec := ⟨[.rdr, (.int .i64)], .one (.acc true) (.lst .row), true, fun x => v_spec_l71Rows x.1 x.2.1, fun x => p_spec_l71Rows x.1 x.2.1⟩
theorem con_spec_l71Rows (G : Good Try.prog tt sp_spec_l71Rows) : Con Try.prog 129 s_spec_l71Rows :=
  con_rdr (pts := [.rdr, (.int .i64)]) (rt := .one (.acc true) (.lst .row)) (o := fun x => spec_l71Rows_b x.1 x.2.1) (ob := fun x => spec_l71Rows_b_ob x.1 x.2.1) G (fn := Try.f129) (c := bodyOf Try.f129) (by kernel_rfl) (by kernel_rfl) (by kernel_rfl) (rs := [.tmp 4]) (fz := F129.fz) (by kernel_rfl) (by kernel_rfl) (fun h => Bool.noConfusion h) rfl (fun x => x.1.1) (fun _ => rfl) (fun x => spec_l71Rows_b_S x.1 x.2.1) (fun _ => ⟨rfl, rfl, rfl, rfl, rfl⟩) (fun x _ => spec_l71Rows_b_ok G x.1 x.2.1)
def sp_spec_l6In : SP := []
abbrev F93 : Fnn := ⟨[.tmp 6], .one .fr .bool, none, []⟩
abbrev rv93 : Bool → RV := fun q => (some (RT.av (.one .fr .bool) q), .dead)
abbrev Ok93 (fr : Fr) {A X Y Z : Type} (S : SubP Bool A X Y Z) : Prop := SubOk Try.prog tt ⟨Try.f93.ntmps, none, []⟩ fr (bodyOf Try.f93) F93 S
def spec_l6In_b_t (a0 a1 a2 : Int) : Tr Bool Empty Empty Empty Empty :=
  .l (.r (cond (cmp .geq a0 a1) (cmp .leq a0 a2) false))
def spec_l6In_b := fun a0 a1 a2 => (spec_l6In_b_t a0 a1 a2).val
def spec_l6In_b_ob := fun a0 a1 a2 => (spec_l6In_b_t a0 a1 a2).ob
def spec_l6In_b_S := fun a0 a1 a2 => SubP.mk (spec_l6In_b a0 a1 a2) (spec_l6In_b_ob a0 a1 a2) [] [(0, .I a0), (1, .I a1), (2, .I a2)] rv93 nE nE nE nE
theorem spec_l6In_b_ok (G : Good Try.prog tt sp_spec_l6In) {fr : Fr} : ∀ a0 a1 a2, Ok93 fr (spec_l6In_b_S a0 a1 a2) :=
  fun a0 a1 a2 => run_ok G [] trivial [(0,[0,1,2]),(1,[6])] [] [] (spec_l6In_b_t a0 a1 a2) rfl rfl (by kernel_rfl)
def v_spec_l6In (a0 : Int) (a1 : Int) (a2 : Int) : Bool := ocR (spec_l6In_b a0 a1 a2)
def p_spec_l6In (a0 : Int) (a1 : Int) (a2 : Int) : Prop := spec_l6In_b_ob a0 a1 a2
def s_spec_l6In : Spec := ⟨[(.int .i64), (.int .i64), (.int .i64)], .one .fr .bool, false, fun x => (v_spec_l6In x.1 x.2.1 x.2.2.1, 0), fun x => p_spec_l6In x.1 x.2.1 x.2.2.1⟩
theorem con_spec_l6In (G : Good Try.prog tt sp_spec_l6In) : Con Try.prog 93 s_spec_l6In :=
  con_run (pts := [(.int .i64), (.int .i64), (.int .i64)]) (rt := .one .fr .bool) (o := fun x => spec_l6In_b x.1 x.2.1 x.2.2.1) (ob := fun x => spec_l6In_b_ob x.1 x.2.1 x.2.2.1) G (fn := Try.f93) (c := bodyOf Try.f93) (by kernel_rfl) (by kernel_rfl) (by kernel_rfl) (rs := [.tmp 6]) (fz := F93.fz) (by kernel_rfl) (by kernel_rfl) (fun _ => rfl) rfl (fun x => spec_l6In_b_S x.1 x.2.1 x.2.2.1) (fun _ => ⟨rfl, rfl, rfl, rfl, rfl⟩) (fun x _ => spec_l6In_b_ok G x.1 x.2.1 x.2.2.1)
def sp_spec_TimeOk : SP := [(93, s_spec_l6In)]
abbrev F132 : Fnn := ⟨[.tmp 2], .one .fr .bool, none, []⟩
abbrev rv132 : Bool → RV := fun q => (some (RT.av (.one .fr .bool) q), .dead)
abbrev Ok132 (fr : Fr) {A X Y Z : Type} (S : SubP Bool A X Y Z) : Prop := SubOk Try.prog tt ⟨Try.f132.ntmps, none, []⟩ fr (bodyOf Try.f132) F132 S
def spec_TimeOk_b_t (a0 : Time) : Tr Bool Empty Empty Empty Empty :=
  .w [(p_spec_l6In a0.A 0 7), (((v_spec_l6In a0.A 0 7) && true) = true → (p_spec_l6In a0.B 0 7))] (.l (.r (cond (v_spec_l6In a0.A 0 7) (v_spec_l6In a0.B 0 7) false)))
def spec_TimeOk_b := fun a0 => (spec_TimeOk_b_t a0).val
def spec_TimeOk_b_ob := fun a0 => (spec_TimeOk_b_t a0).ob
def spec_TimeOk_b_S := fun a0 => SubP.mk (spec_TimeOk_b a0) (spec_TimeOk_b_ob a0) [] [(0, .agg true [.i a0.A, .i a0.B])] rv132 nE nE nE nE
theorem spec_TimeOk_b_ok (G : Good Try.prog tt sp_spec_TimeOk) {fr : Fr} : ∀ a0, Ok132 fr (spec_TimeOk_b_S a0) :=
  fun a0 => run_ok G [] trivial [(0,[1]),(1,[2])] [] [] (spec_TimeOk_b_t a0) rfl rfl (by kernel_rfl)
def v_spec_TimeOk (a0 : Time) : Bool := ocR (spec_TimeOk_b a0)
def p_spec_TimeOk (a0 : Time) : Prop := spec_TimeOk_b_ob a0
def s_spec_TimeOk : Spec := ⟨[(.st .time)], .one .fr .bool, false, fun x => (v_spec_TimeOk x.1, 0), fun x => p_spec_TimeOk x.1⟩
theorem con_spec_TimeOk (G : Good Try.prog tt sp_spec_TimeOk) : Con Try.prog 132 s_spec_TimeOk :=
  con_run (pts := [(.st .time)]) (rt := .one .fr .bool) (o := fun x => spec_TimeOk_b x.1) (ob := fun x => spec_TimeOk_b_ob x.1) G (fn := Try.f132) (c := bodyOf Try.f132) (by kernel_rfl) (by kernel_rfl) (by kernel_rfl) (rs := [.tmp 2]) (fz := F132.fz) (by kernel_rfl) (by kernel_rfl) (fun _ => rfl) rfl (fun x => spec_TimeOk_b_S x.1) (fun _ => ⟨rfl, rfl, rfl, rfl, rfl⟩) (fun x _ => spec_TimeOk_b_ok G x.1)
def sp_spec_l2Row : SP := [(93, s_spec_l6In), (132, s_spec_TimeOk)]
abbrev F109 : Fnn := ⟨[.tmp 2], .one .fr .bool, none, []⟩
abbrev rv109 : Bool → RV := fun q => (some (RT.av (.one .fr .bool) q), .dead)
abbrev Ok109 (fr : Fr) {A X Y Z : Type} (S : SubP Bool A X Y Z) : Prop := SubOk Try.prog tt ⟨Try.f109.ntmps, none, []⟩ fr (bodyOf Try.f109) F109 S
def spec_l2Row_b_t (a0 : Row) : Tr Bool Empty Empty Empty Empty :=
  .w [(p_spec_l6In a0.Key 0 3), (((v_spec_l6In a0.Key 0 3) && true) = true → (p_spec_l6In a0.Val 0 99)), (((cond (v_spec_l6In a0.Key 0 3) (v_spec_l6In a0.Val 0 99) false) && true) = true → (p_spec_TimeOk a0.At)), (((cond (cond (v_spec_l6In a0.Key 0 3) (v_spec_l6In a0.Val 0 99) false) (v_spec_TimeOk a0.At) false) && true) = true → (p_spec_l6In a0.Diff (-99999) 99999))] (.l (.r (cond (cond (cond (v_spec_l6In a0.Key 0 3) (v_spec_l6In a0.Val 0 99) false) (v_spec_TimeOk a0.At) false) (v_spec_l6In a0.Diff (-99999) 99999) false)))
def spec_l2Row_b := fun a0 => (spec_l2Row_b_t a0).val
def spec_l2Row_b_ob := fun a0 => (spec_l2Row_b_t a0).ob
def spec_l2Row_b_S := fun a0 => SubP.mk (spec_l2Row_b a0) (spec_l2Row_b_ob a0) [] [(0, .agg true [.i a0.Key, .i a0.Val, .i a0.At.A, .i a0.At.B, .i a0.Diff])] rv109 nE nE nE nE
theorem spec_l2Row_b_ok (G : Good Try.prog tt sp_spec_l2Row) {fr : Fr} : ∀ a0, Ok109 fr (spec_l2Row_b_S a0) :=
  fun a0 => run_ok G [] trivial [(0,[1]),(1,[2])] [] [] (spec_l2Row_b_t a0) rfl rfl (by kernel_rfl)
def v_spec_l2Row (a0 : Row) : Bool := ocR (spec_l2Row_b a0)
def p_spec_l2Row (a0 : Row) : Prop := spec_l2Row_b_ob a0
def s_spec_l2Row : Spec := ⟨[(.st .row)], .one .fr .bool, false, fun x => (v_spec_l2Row x.1, 0), fun x => p_spec_l2Row x.1⟩
theorem con_spec_l2Row (G : Good Try.prog tt sp_spec_l2Row) : Con Try.prog 109 s_spec_l2Row :=
  con_run (pts := [(.st .row)]) (rt := .one .fr .bool) (o := fun x => spec_l2Row_b x.1) (ob := fun x => spec_l2Row_b_ob x.1) G (fn := Try.f109) (c := bodyOf Try.f109) (by kernel_rfl) (by kernel_rfl) (by kernel_rfl) (rs := [.tmp 2]) (fz := F109.fz) (by kernel_rfl) (by kernel_rfl) (fun _ => rfl) rfl (fun x => spec_l2Row_b_S x.1) (fun _ => ⟨rfl, rfl, rfl, rfl, rfl⟩) (fun x _ => spec_l2Row_b_ok G x.1)
def sp_spec_RowsOk : SP := [(109, s_spec_l2Row)]
abbrev F56 : Fnn := ⟨[.tmp 2], .one .fr .bool, none, []⟩
abbrev rv56 : Bool → RV := fun q => (some (RT.av (.one .fr .bool) q), .dead)
abbrev Ok56 (fr : Fr) {A X Y Z : Type} (S : SubP Bool A X Y Z) : Prop := SubOk Try.prog tt ⟨Try.f56.ntmps, none, []⟩ fr (bodyOf Try.f56) F56 S
def spec_RowsOk_c2_r_t (x3 : LR) (s7 : Int) : Tr Bool Int Unit Empty Empty :=
  .c (cmp .lss s7 (lenI .row x3))
  (.w [inb s7 (lenI .row x3), (p_spec_l2Row (rd .row x3 s7))] (.c (!(v_spec_l2Row (rd .row x3 s7)))
  (.l (.r false))
  (.l (.n (ar .add .i64 s7 1)))))
  (.l (.x ()))
def spec_RowsOk_c2_r := fun x3 s7 => (spec_RowsOk_c2_r_t x3 s7).val
def spec_RowsOk_c2_r_ob := fun x3 s7 => (spec_RowsOk_c2_r_t x3 s7).ob
def spec_RowsOk_c2_r_S := fun x3 s7 => mkRd (spec_RowsOk_c2_r x3 s7) (spec_RowsOk_c2_r_ob x3 s7) [0,0,1,0,1,1] (fun q => [(0, .S .row x3), (3, .I q)]) s7 rv56 (fun _ => (0, [])) nE nE
theorem spec_RowsOk_c2_r_ok (G : Good Try.prog tt sp_spec_RowsOk) {fr : Fr} : ∀ x3 s7, Ok56 fr (spec_RowsOk_c2_r_S x3 s7) :=
  fun x3 s7 => run_ok G [] trivial [(4,[0,3,10]),(5,[0,3]),(6,[0,3,18]),(7,[2])] [] [] (spec_RowsOk_c2_r_t x3 s7) rfl rfl (by kernel_rfl)
def spec_RowsOk_c2 := fun x3 => lpV (fun s : Int => ocLp (spec_RowsOk_c2_r x3 s)) 0
def spec_RowsOk_c2_ob := fun x3 => LpT (fun s : Int => ocLp (spec_RowsOk_c2_r x3 s)) (fun s => spec_RowsOk_c2_r_ob x3 s) 0
def spec_RowsOk_c2_S := fun x3 => lpS (spec_RowsOk_c2_r_S x3 0) (spec_RowsOk_c2 x3) (spec_RowsOk_c2_ob x3)
theorem spec_RowsOk_c2_ok (G : Good Try.prog tt sp_spec_RowsOk) {fr : Fr} : ∀ x3, Ok56 fr (spec_RowsOk_c2_S x3) :=
  fun x3 => loop_ok (fun s : Int => spec_RowsOk_c2_r_S x3 s) 0 (fun _ => rfl) (fun _ => ⟨rfl, rfl, rfl, rfl, rfl⟩) (by kernel_rfl) fun _ => spec_RowsOk_c2_r_ok G _ _
def spec_RowsOk_c1_t (x2 : LR) : Tr Bool Unit Empty Empty Empty :=
  .s (spec_RowsOk_c2_S x2) nE (fun _ => .l (.n ())) nE nE
def spec_RowsOk_c1 := fun x2 => (spec_RowsOk_c1_t x2).val
def spec_RowsOk_c1_ob := fun x2 => (spec_RowsOk_c1_t x2).ob
def spec_RowsOk_c1_S := fun x2 => SubP.mk (spec_RowsOk_c1 x2) (spec_RowsOk_c1_ob x2) [0,1,1] [(0, .S .row x2)] rv56 (fun _ => []) nE nE nE
theorem spec_RowsOk_c1_ok (G : Good Try.prog tt sp_spec_RowsOk) {fr : Fr} : ∀ x2, Ok56 fr (spec_RowsOk_c1_S x2) :=
  fun x2 => run_ok G [([0,1,0,1,1], fun e => ⟨spec_RowsOk_c2_S (gL .row e 0 0)⟩)] ⟨fun _ => ⟨rfl, spec_RowsOk_c2_ok G _⟩, trivial⟩ [(3,[0,3])] [] [] (spec_RowsOk_c1_t x2) rfl rfl (by kernel_rfl)
def spec_RowsOk_b_t (a0 : LR) : Tr Bool Empty Empty Empty Empty :=
  .c (cmp .gtr (lenI .row a0) 400)
  (.l (.r false))
  (.s (spec_RowsOk_c1_S a0) (fun _ => .l (.r true)) nE nE nE)
def spec_RowsOk_b := fun a0 => (spec_RowsOk_b_t a0).val
def spec_RowsOk_b_ob := fun a0 => (spec_RowsOk_b_t a0).ob
def spec_RowsOk_b_S := fun a0 => SubP.mk (spec_RowsOk_b a0) (spec_RowsOk_b_ob a0) [] [(0, .S .row a0)] rv56 nE nE nE nE
theorem spec_RowsOk_b_ok (G : Good Try.prog tt sp_spec_RowsOk) {fr : Fr} : ∀ a0, Ok56 fr (spec_RowsOk_b_S a0) :=
  fun a0 => run_ok G [([0,1,1], fun e => ⟨spec_RowsOk_c1_S (gL .row e 0 0)⟩)] ⟨fun _ => ⟨rfl, spec_RowsOk_c1_ok G _⟩, trivial⟩ [(0,[0]),(1,[0,6]),(2,[2]),(8,[2])] [] [] (spec_RowsOk_b_t a0) rfl rfl (by kernel_rfl)
def v_spec_RowsOk (a0 : LR) : Bool := ocR (spec_RowsOk_b a0)
def p_spec_RowsOk (a0 : LR) : Prop := spec_RowsOk_b_ob a0
def s_spec_RowsOk : Spec := ⟨[(.lst .row)], .one .fr .bool, false, fun x => (v_spec_RowsOk x.1, 0), fun x => p_spec_RowsOk x.1⟩
theorem con_spec_RowsOk (G : Good Try.prog tt sp_spec_RowsOk) : Con Try.prog 56 s_spec_RowsOk :=
  con_run (pts := [(.lst .row)]) (rt := .one .fr .bool) (o := fun x => spec_RowsOk_b x.1) (ob := fun x => spec_RowsOk_b_ob x.1) G (fn := Try.f56) (c := bodyOf Try.f56) (by kernel_rfl) (by kernel_rfl) (by kernel_rfl) (rs := [.tmp 2]) (fz := F56.fz) (by kernel_rfl) (by kernel_rfl) (fun _ => rfl) rfl (fun x => spec_RowsOk_b_S x.1) (fun _ => ⟨rfl, rfl, rfl, rfl, rfl⟩) (fun x _ => spec_RowsOk_b_ok G x.1)
def sp_spec_TimeLess : SP := [(132, s_spec_TimeOk)]
abbrev F104 : Fnn := ⟨[.tmp 4], .one .fr .bool, none, []⟩
abbrev rv104 : Bool → RV := fun q => (some (RT.av (.one .fr .bool) q), .dead)
abbrev Ok104 (fr : Fr) {A X Y Z : Type} (S : SubP Bool A X Y Z) : Prop := SubOk Try.prog tt ⟨Try.f104.ntmps, none, []⟩ fr (bodyOf Try.f104) F104 S
def spec_TimeLess_b_t (a0 a1 : Time) : Tr Bool Empty Empty Empty Empty :=
  .w [(p_spec_TimeOk a0), (((v_spec_TimeOk a0) && true) = true → (p_spec_TimeOk a1))] (.l (.r (cond (cond (cond (v_spec_TimeOk a0) (v_spec_TimeOk a1) false) (cmp .leq a0.A a1.A) false) (cmp .leq a0.B a1.B) false)))
def spec_TimeLess_b := fun a0 a1 => (spec_TimeLess_b_t a0 a1).val
def spec_TimeLess_b_ob := fun a0 a1 => (spec_TimeLess_b_t a0 a1).ob
def spec_TimeLess_b_S := fun a0 a1 => SubP.mk (spec_TimeLess_b a0 a1) (spec_TimeLess_b_ob a0 a1) [] [(0, .agg true [.i a0.A, .i a0.B]), (1, .agg true [.i a1.A, .i a1.B])] rv104 nE nE nE nE
theorem spec_TimeLess_b_ok (G : Good Try.prog tt sp_spec_TimeLess) {fr : Fr} : ∀ a0 a1, Ok104 fr (spec_TimeLess_b_S a0 a1) :=
  fun a0 a1 => run_ok G [] trivial [(0,[2,3]),(1,[4])] [] [] (spec_TimeLess_b_t a0 a1) rfl rfl (by kernel_rfl)
def v_spec_TimeLess (a0 : Time) (a1 : Time) : Bool := ocR (spec_TimeLess_b a0 a1)
def p_spec_TimeLess (a0 : Time) (a1 : Time) : Prop := spec_TimeLess_b_ob a0 a1
def s_spec_TimeLess : Spec := ⟨[(.st .time), (.st .time)], .one .fr .bool, false, fun x => (v_spec_TimeLess x.1 x.2.1, 0), fun x => p_spec_TimeLess x.1 x.2.1⟩
theorem con_spec_TimeLess (G : Good Try.prog tt sp_spec_TimeLess) : Con Try.prog 104 s_spec_TimeLess :=
  con_run (pts := [(.st .time), (.st .time)]) (rt := .one .fr .bool) (o := fun x => spec_TimeLess_b x.1 x.2.1) (ob := fun x => spec_TimeLess_b_ob x.1 x.2.1) G (fn := Try.f104) (c := bodyOf Try.f104) (by kernel_rfl) (by kernel_rfl) (by kernel_rfl) (rs := [.tmp 4]) (fz := F104.fz) (by kernel_rfl) (by kernel_rfl) (fun _ => rfl) rfl (fun x => spec_TimeLess_b_S x.1 x.2.1) (fun _ => ⟨rfl, rfl, rfl, rfl, rfl⟩) (fun x _ => spec_TimeLess_b_ok G x.1 x.2.1)
def sp_spec_l2Comp : SP := []
abbrev F131 : Fnn := ⟨[.tmp 4], .one .fr (.int .i64), none, []⟩
abbrev rv131 : Int → RV := fun q => (some (RT.av (.one .fr (.int .i64)) q), .dead)
abbrev Ok131 (fr : Fr) {A X Y Z : Type} (S : SubP Int A X Y Z) : Prop := SubOk Try.prog tt ⟨Try.f131.ntmps, none, []⟩ fr (bodyOf Try.f131) F131 S
def spec_l2Comp_c2_r_t (x3 x4 : LB) (s9 : Int) : Tr Int Int Unit Empty Empty :=
  .c (cmp .lss s9 (lenI .int x3))
  (.w [inb s9 (lenI .int x3), inb s9 (lenI .int x4)] (.c (cmp .lss (rd .int x3 s9) (rd .int x4 s9))
  (.l (.r (-1)))
  (.w [inb s9 (lenI .int x3), inb s9 (lenI .int x4)] (.c (cmp .gtr (rd .int x3 s9) (rd .int x4 s9))
  (.l (.r 1))
  (.l (.n (ar .add .i64 s9 1)))))))
  (.l (.x ()))
def spec_l2Comp_c2_r := fun x3 x4 s9 => (spec_l2Comp_c2_r_t x3 x4 s9).val
def spec_l2Comp_c2_r_ob := fun x3 x4 s9 => (spec_l2Comp_c2_r_t x3 x4 s9).ob
def spec_l2Comp_c2_r_S := fun x3 x4 s9 => mkRd (spec_l2Comp_c2_r x3 x4 s9) (spec_l2Comp_c2_r_ob x3 x4 s9) [0,0,1,0,1,1,1] (fun q => [(5, .A .int x3), (6, .A .int x4), (7, .I q)]) s9 rv131 (fun _ => (0, [])) nE nE
theorem spec_l2Comp_c2_r_ok (G : Good Try.prog tt sp_spec_l2Comp) {fr : Fr} : ∀ x3 x4 s9, Ok131 fr (spec_l2Comp_c2_r_S x3 x4 s9) :=
  fun x3 x4 s9 => run_ok G [] trivial [(4,[5,6,7,33]),(5,[5,6,7]),(6,[5,6,7,44]),(7,[4]),(8,[5,6,7,53]),(9,[4])] [] [] (spec_l2Comp_c2_r_t x3 x4 s9) rfl rfl (by kernel_rfl)
def spec_l2Comp_c2 := fun x3 x4 => lpV (fun s : Int => ocLp (spec_l2Comp_c2_r x3 x4 s)) 0
def spec_l2Comp_c2_ob := fun x3 x4 => LpT (fun s : Int => ocLp (spec_l2Comp_c2_r x3 x4 s)) (fun s => spec_l2Comp_c2_r_ob x3 x4 s) 0
def spec_l2Comp_c2_S := fun x3 x4 => lpS (spec_l2Comp_c2_r_S x3 x4 0) (spec_l2Comp_c2 x3 x4) (spec_l2Comp_c2_ob x3 x4)
theorem spec_l2Comp_c2_ok (G : Good Try.prog tt sp_spec_l2Comp) {fr : Fr} : ∀ x3 x4, Ok131 fr (spec_l2Comp_c2_S x3 x4) :=
  fun x3 x4 => loop_ok (fun s : Int => spec_l2Comp_c2_r_S x3 x4 s) 0 (fun _ => rfl) (fun _ => ⟨rfl, rfl, rfl, rfl, rfl⟩) (by kernel_rfl) fun _ => spec_l2Comp_c2_r_ok G _ _ _
def spec_l2Comp_c1_t (x1 x2 : LB) : Tr Int Unit Empty Empty Empty :=
  .s (spec_l2Comp_c2_S x1 x2) nE (fun _ => .l (.n ())) nE nE
def spec_l2Comp_c1 := fun x1 x2 => (spec_l2Comp_c1_t x1 x2).val
def spec_l2Comp_c1_ob := fun x1 x2 => (spec_l2Comp_c1_t x1 x2).ob
def spec_l2Comp_c1_S := fun x1 x2 => SubP.mk (spec_l2Comp_c1 x1 x2) (spec_l2Comp_c1_ob x1 x2) [0,1,1,1] [(5, .A .int x1), (6, .A .int x2)] rv131 (fun _ => []) nE nE nE
theorem spec_l2Comp_c1_ok (G : Good Try.prog tt sp_spec_l2Comp) {fr : Fr} : ∀ x1 x2, Ok131 fr (spec_l2Comp_c1_S x1 x2) :=
  fun x1 x2 => run_ok G [([0,1,0,1,1,1], fun e => ⟨spec_l2Comp_c2_S (gL .int e 5 0) (gL .int e 6 0)⟩)] ⟨fun _ => ⟨rfl, spec_l2Comp_c2_ok G _ _⟩, trivial⟩ [(3,[5,6,7])] [] [] (spec_l2Comp_c1_t x1 x2) rfl rfl (by kernel_rfl)
def spec_l2Comp_b_t (a0 a1 : Row) : Tr Int Empty Empty Empty Empty :=
  .s (spec_l2Comp_c1_S [a0.Key, a0.Val, a0.At.A, a0.At.B] [a1.Key, a1.Val, a1.At.A, a1.At.B]) (fun _ => .l (.r 0)) nE nE nE
def spec_l2Comp_b := fun a0 a1 => (spec_l2Comp_b_t a0 a1).val
def spec_l2Comp_b_ob := fun a0 a1 => (spec_l2Comp_b_t a0 a1).ob
def spec_l2Comp_b_S := fun a0 a1 => SubP.mk (spec_l2Comp_b a0 a1) (spec_l2Comp_b_ob a0 a1) [] [(0, .agg true [.i a0.Key, .i a0.Val, .i a0.At.A, .i a0.At.B, .i a0.Diff]), (1, .agg true [.i a1.Key, .i a1.Val, .i a1.At.A, .i a1.At.B, .i a1.Diff])] rv131 nE nE nE nE
theorem spec_l2Comp_b_ok (G : Good Try.prog tt sp_spec_l2Comp) {fr : Fr} : ∀ a0 a1, Ok131 fr (spec_l2Comp_b_S a0 a1) :=
  fun a0 a1 => run_ok G [([0,1,1,1], fun e => ⟨spec_l2Comp_c1_S (gL .int e 5 0) (gL .int e 6 0)⟩)] ⟨fun _ => ⟨rfl, spec_l2Comp_c1_ok G _ _⟩, trivial⟩ [(0,[2,3]),(1,[3,5]),(2,[5,6]),(10,[4])] [] [] (spec_l2Comp_b_t a0 a1) rfl rfl (by kernel_rfl)
def v_spec_l2Comp (a0 : Row) (a1 : Row) : Int := ocR (spec_l2Comp_b a0 a1)
def p_spec_l2Comp (a0 : Row) (a1 : Row) : Prop := spec_l2Comp_b_ob a0 a1
def s_spec_l2Comp : Spec := ⟨[(.st .row), (.st .row)], .one .fr (.int .i64), false, fun x => (v_spec_l2Comp x.1 x.2.1, 0), fun x => p_spec_l2Comp x.1 x.2.1⟩
theorem con_spec_l2Comp (G : Good Try.prog tt sp_spec_l2Comp) : Con Try.prog 131 s_spec_l2Comp :=
  con_run (pts := [(.st .row), (.st .row)]) (rt := .one .fr (.int .i64)) (o := fun x => spec_l2Comp_b x.1 x.2.1) (ob := fun x => spec_l2Comp_b_ob x.1 x.2.1) G (fn := Try.f131) (c := bodyOf Try.f131) (by kernel_rfl) (by kernel_rfl) (by kernel_rfl) (rs := [.tmp 4]) (fz := F131.fz) (by kernel_rfl) (by kernel_rfl) (fun _ => rfl) rfl (fun x => spec_l2Comp_b_S x.1 x.2.1) (fun _ => ⟨rfl, rfl, rfl, rfl, rfl⟩) (fun x _ => spec_l2Comp_b_ok G x.1 x.2.1)
def sp_spec_l2Put : SP := [(131, s_spec_l2Comp)]
abbrev F126 : Fnn := ⟨[.tmp 4], .one (.acc true) (.lst .row), none, []⟩
abbrev rv126 : LR → RV := fun q => (some (RT.av (.one (.acc true) (.lst .row)) q), .dead)
abbrev Ok126 (fr : Fr) {A X Y Z : Type} (S : SubP LR A X Y Z) : Prop := SubOk Try.prog tt ⟨Try.f126.ntmps, none, []⟩ fr (bodyOf Try.f126) F126 S
def spec_l2Put_c4_t (_x44 : LR) (x45 x46 x47 x48 x49 : Int) (x50 : LR) (x51 : Bool) (_x52 x53 : Int) : Tr LR (LR × Bool) Empty Empty Empty :=
  .c (cond (!x51) (cmp .gtr x53 0) false)
  (.w [lim (lenI .row x50) (lenI .row [(Row.mk x45 x46 (Time.mk x47 x48) x49)])] (.l (.n ((x50 ++ [(Row.mk x45 x46 (Time.mk x47 x48) x49)]), true))))
  (.l (.n (x50, x51)))
def spec_l2Put_c4 := fun x44 x45 x46 x47 x48 x49 x50 x51 x52 x53 => (spec_l2Put_c4_t x44 x45 x46 x47 x48 x49 x50 x51 x52 x53).val
def spec_l2Put_c4_ob := fun x44 x45 x46 x47 x48 x49 x50 x51 x52 x53 => (spec_l2Put_c4_t x44 x45 x46 x47 x48 x49 x50 x51 x52 x53).ob
def spec_l2Put_c4_S := fun x44 x45 x46 x47 x48 x49 x50 x51 x52 x53 => SubP.mk (spec_l2Put_c4 x44 x45 x46 x47 x48 x49 x50 x51 x52 x53) (spec_l2Put_c4_ob x44 x45 x46 x47 x48 x49 x50 x51 x52 x53) [0,1,0,0,1,0,0,1,0,1,1,1] [(0, .S .row x44), (3, .box [(.fr, .i x45), (.fr, .i x46), (.fr, .i x47), (.fr, .i x48), (.fr, .i x49)]), (5, .A .row x50), (6, .O x51), (7, .I x52), (8, .I x53)] rv126 (fun q => [(0, .S .row x44), (3, .box [(.fr, .i x45), (.fr, .i x46), (.fr, .i x47), (.fr, .i x48), (.fr, .i x49)]), (5, .A .row q.1), (6, .O q.2), (7, .I x52), (8, .I x53)]) nE nE nE
theorem spec_l2Put_c4_ok (G : Good Try.prog tt sp_spec_l2Put) {fr : Fr} : ∀ x44 x45 x46 x47 x48 x49 x50 x51 x52 x53, Ok126 fr (spec_l2Put_c4_S x44 x45 x46 x47 x48 x49 x50 x51 x52 x53) :=
  fun x44 x45 x46 x47 x48 x49 x50 x51 x52 x53 => run_ok G [] trivial [(7,[0,3,5,6,7,8,27]),(8,[0,3,5,7,8]),(9,[0,3,5,6,7,8])] [] [] (spec_l2Put_c4_t x44 x45 x46 x47 x48 x49 x50 x51 x52 x53) rfl rfl (by kernel_rfl)
def spec_l2Put_c3_t (x35 : LR) (x36 x37 x38 x39 x40 : Int) (x41 : LR) (x42 : Bool) (x43 : Int) : Tr LR (Int × LR × Bool) Empty Empty Empty :=
  .w [inb x43 (lenI .row x35), (p_spec_l2Comp (rd .row x35 x43) (Row.mk x36 x37 (Time.mk x38 x39) x40))] (.s (spec_l2Put_c4_S x35 x36 x37 x38 x39 x40 x41 x42 x43 (v_spec_l2Comp (rd .row x35 x43) (Row.mk x36 x37 (Time.mk x38 x39) x40))) (fun q57 => .c (cond (!q57.2) (cmp .eql (v_spec_l2Comp (rd .row x35 x43) (Row.mk x36 x37 (Time.mk x38 x39) x40)) 0) false)
  (.w [inb x43 (lenI .row x35)] (.w [lim (lenI .row q57.1) (lenI .row [(Row.mk x36 x37 (Time.mk x38 x39) (ar .add .i64 x40 (rd .row x35 x43).Diff))])] (.l (.n ((ar .add .i64 x40 (rd .row x35 x43).Diff), (q57.1 ++ [(Row.mk x36 x37 (Time.mk x38 x39) (ar .add .i64 x40 (rd .row x35 x43).Diff))]), true)))))
  (.w [inb x43 (lenI .row x35), lim (lenI .row q57.1) (lenI .row [(rd .row x35 x43)])] (.l (.n (x40, (q57.1 ++ [(rd .row x35 x43)]), q57.2))))) nE nE nE)
def spec_l2Put_c3 := fun x35 x36 x37 x38 x39 x40 x41 x42 x43 => (spec_l2Put_c3_t x35 x36 x37 x38 x39 x40 x41 x42 x43).val
def spec_l2Put_c3_ob := fun x35 x36 x37 x38 x39 x40 x41 x42 x43 => (spec_l2Put_c3_t x35 x36 x37 x38 x39 x40 x41 x42 x43).ob
def spec_l2Put_c3_S := fun x35 x36 x37 x38 x39 x40 x41 x42 x43 => SubP.mk (spec_l2Put_c3 x35 x36 x37 x38 x39 x40 x41 x42 x43) (spec_l2Put_c3_ob x35 x36 x37 x38 x39 x40 x41 x42 x43) [0,1,0,0,1,0,1,1,1] [(0, .S .row x35), (3, .box [(.fr, .i x36), (.fr, .i x37), (.fr, .i x38), (.fr, .i x39), (.fr, .i x40)]), (5, .A .row x41), (6, .O x42), (7, .I x43)] rv126 (fun q => [(0, .S .row x35), (3, .box [(.fr, .i x36), (.fr, .i x37), (.fr, .i x38), (.fr, .i x39), (.fr, .i q.1)]), (5, .A .row q.2.1), (6, .O q.2.2), (7, .I x43)]) nE nE nE
theorem spec_l2Put_c3_ok (G : Good Try.prog tt sp_spec_l2Put) {fr : Fr} : ∀ x35 x36 x37 x38 x39 x40 x41 x42 x43, Ok126 fr (spec_l2Put_c3_S x35 x36 x37 x38 x39 x40 x41 x42 x43) :=
  fun x35 x36 x37 x38 x39 x40 x41 x42 x43 => run_ok G [([0,1,0,0,1,0,0,1,0,1,1,1], fun e => ⟨spec_l2Put_c4_S (gL .row e 0 0) (gI e 3 0) (gI e 3 1) (gI e 3 2) (gI e 3 3) (gI e 3 4) (gL .row e 5 0) (gB e 6 0) (gI e 7 0) (gI e 8 0)⟩)] ⟨fun _ => ⟨rfl, spec_l2Put_c4_ok G _ _ _ _ _ _ _ _ _ _⟩, trivial⟩ [(6,[0,3,5,6,7,8]),(10,[0,3,5,6,7,37]),(11,[0,3,5,7]),(12,[0,3,5,7]),(13,[0,3,5,6,7]),(14,[0,3,5,6,7])] [] [] (spec_l2Put_c3_t x35 x36 x37 x38 x39 x40 x41 x42 x43) rfl rfl (by kernel_rfl)
def spec_l2Put_c2_r_t (x3 : LR) (x4 : Row) (s30 : Int) (s31 : LR) (s32 : Bool) (s33 : Int) : Tr LR (Int × LR × Bool × Int) (Int × LR × Bool) Empty Empty :=
  .c (cmp .lss s33 (lenI .row x3))
  (.s (spec_l2Put_c3_S x3 x4.Key x4.Val x4.At.A x4.At.B s30 s31 s32 s33) (fun q65 => .l (.n (q65.1, q65.2.1, q65.2.2, (ar .add .i64 s33 1)))) nE nE nE)
  (.l (.x (s30, s31, s32)))
def spec_l2Put_c2_r := fun x3 x4 s30 s31 s32 s33 => (spec_l2Put_c2_r_t x3 x4 s30 s31 s32 s33).val
def spec_l2Put_c2_r_ob := fun x3 x4 s30 s31 s32 s33 => (spec_l2Put_c2_r_t x3 x4 s30 s31 s32 s33).ob
def spec_l2Put_c2_r_S := fun x3 x4 s30 s31 s32 s33 => mkRd (spec_l2Put_c2_r x3 x4 s30 s31 s32 s33) (spec_l2Put_c2_r_ob x3 x4 s30 s31 s32 s33) [0,0,1,0,1,1,1] (fun q => [(0, .S .row x3), (3, .box [(.fr, .i x4.Key), (.fr, .i x4.Val), (.fr, .i x4.At.A), (.fr, .i x4.At.B), (.fr, .i q.1)]), (5, .A .row q.2.1), (6, .O q.2.2.1), (7, .I q.2.2.2)]) (s30, s31, s32, s33) rv126 (fun q => (0, [(3, .box [(.fr, .i x4.Key), (.fr, .i x4.Val), (.fr, .i x4.At.A), (.fr, .i x4.At.B), (.fr, .i q.1)]), (5, .A .row q.2.1), (6, .O q.2.2)])) nE nE
theorem spec_l2Put_c2_r_ok (G : Good Try.prog tt sp_spec_l2Put) {fr : Fr} : ∀ x3 x4 s30 s31 s32 s33, Ok126 fr (spec_l2Put_c2_r_S x3 x4 s30 s31 s32 s33) :=
  fun x3 x4 s30 s31 s32 s33 => run_ok G [([0,1,0,0,1,0,1,1,1], fun e => ⟨spec_l2Put_c3_S (gL .row e 0 0) (gI e 3 0) (gI e 3 1) (gI e 3 2) (gI e 3 3) (gI e 3 4) (gL .row e 5 0) (gB e 6 0) (gI e 7 0)⟩)] ⟨fun _ => ⟨rfl, spec_l2Put_c3_ok G _ _ _ _ _ _ _ _ _⟩, trivial⟩ [(4,[0,3,5,6,7,13]),(5,[0,3,5,6,7])] [] [] (spec_l2Put_c2_r_t x3 x4 s30 s31 s32 s33) rfl rfl (by kernel_rfl)
def spec_l2Put_c2 := fun x3 x4 => lpV (fun s : Int × LR × Bool × Int => ocLp (spec_l2Put_c2_r x3 x4 s.1 s.2.1 s.2.2.1 s.2.2.2)) (x4.Diff, [], false, 0)
def spec_l2Put_c2_ob := fun x3 x4 => LpT (fun s : Int × LR × Bool × Int => ocLp (spec_l2Put_c2_r x3 x4 s.1 s.2.1 s.2.2.1 s.2.2.2)) (fun s => spec_l2Put_c2_r_ob x3 x4 s.1 s.2.1 s.2.2.1 s.2.2.2) (x4.Diff, [], false, 0)
def spec_l2Put_c2_S := fun x3 x4 => lpS (spec_l2Put_c2_r_S x3 x4 x4.Diff [] false 0) (spec_l2Put_c2 x3 x4) (spec_l2Put_c2_ob x3 x4)
theorem spec_l2Put_c2_ok (G : Good Try.prog tt sp_spec_l2Put) {fr : Fr} : ∀ x3 x4, Ok126 fr (spec_l2Put_c2_S x3 x4) :=
  fun x3 x4 => loop_ok (fun s : Int × LR × Bool × Int => spec_l2Put_c2_r_S x3 x4 s.1 s.2.1 s.2.2.1 s.2.2.2) (x4.Diff, [], false, 0) (fun _ => rfl) (fun _ => ⟨rfl, rfl, rfl, rfl, rfl⟩) (by kernel_rfl) fun _ => spec_l2Put_c2_r_ok G _ _ _ _ _ _
def spec_l2Put_c1_t (x1 : LR) (x2 : Row) : Tr LR (Int × LR × Bool) Empty Empty Empty :=
  .s (spec_l2Put_c2_S x1 x2) nE (fun q82 => .l (.n (q82.1, q82.2.1, q82.2.2))) nE nE
def spec_l2Put_c1 := fun x1 x2 => (spec_l2Put_c1_t x1 x2).val
def spec_l2Put_c1_ob := fun x1 x2 => (spec_l2Put_c1_t x1 x2).ob
def spec_l2Put_c1_S := fun x1 x2 => SubP.mk (spec_l2Put_c1 x1 x2) (spec_l2Put_c1_ob x1 x2) [0,1,1,1] [(0, .S .row x1), (3, .box [(.fr, .i x2.Key), (.fr, .i x2.Val), (.fr, .i x2.At.A), (.fr, .i x2.At.B), (.fr, .i x2.Diff)]), (5, .A .row []), (6, .O false)] rv126 (fun q => [(3, .box [(.fr, .i x2.Key), (.fr, .i x2.Val), (.fr, .i x2.At.A), (.fr, .i x2.At.B), (.fr, .i q.1)]), (5, .A .row q.2.1), (6, .O q.2.2)]) nE nE nE
theorem spec_l2Put_c1_ok (G : Good Try.prog tt sp_spec_l2Put) {fr : Fr} : ∀ x1 x2, Ok126 fr (spec_l2Put_c1_S x1 x2) :=
  fun x1 x2 => run_ok G [([0,1,0,1,1,1], fun e => ⟨spec_l2Put_c2_S (gL .row e 0 0) (gRow e 3)⟩)] ⟨fun _ => ⟨rfl, spec_l2Put_c2_ok G _ _⟩, trivial⟩ [(3,[0,3,5,6,7])] [] [] (spec_l2Put_c1_t x1 x2) rfl rfl (by kernel_rfl)
def spec_l2Put_c5_t (x89 x90 x91 x92 x93 : Int) (x94 : LR) (x95 : Bool) : Tr LR LR Empty Empty Empty :=
  .c (!x95)
  (.w [lim (lenI .row x94) (lenI .row [(Row.mk x89 x90 (Time.mk x91 x92) x93)])] (.l (.n (x94 ++ [(Row.mk x89 x90 (Time.mk x91 x92) x93)]))))
  (.l (.n x94))
def spec_l2Put_c5 := fun x89 x90 x91 x92 x93 x94 x95 => (spec_l2Put_c5_t x89 x90 x91 x92 x93 x94 x95).val
def spec_l2Put_c5_ob := fun x89 x90 x91 x92 x93 x94 x95 => (spec_l2Put_c5_t x89 x90 x91 x92 x93 x94 x95).ob
def spec_l2Put_c5_S := fun x89 x90 x91 x92 x93 x94 x95 => SubP.mk (spec_l2Put_c5 x89 x90 x91 x92 x93 x94 x95) (spec_l2Put_c5_ob x89 x90 x91 x92 x93 x94 x95) [0,1,1,1,1] [(3, .box [(.fr, .i x89), (.fr, .i x90), (.fr, .i x91), (.fr, .i x92), (.fr, .i x93)]), (5, .A .row x94), (6, .O x95)] rv126 (fun q => [(5, .A .row q)]) nE nE nE
theorem spec_l2Put_c5_ok (G : Good Try.prog tt sp_spec_l2Put) {fr : Fr} : ∀ x89 x90 x91 x92 x93 x94 x95, Ok126 fr (spec_l2Put_c5_S x89 x90 x91 x92 x93 x94 x95) :=
  fun x89 x90 x91 x92 x93 x94 x95 => run_ok G [] trivial [(15,[3,5,59]),(16,[5])] [] [] (spec_l2Put_c5_t x89 x90 x91 x92 x93 x94 x95) rfl rfl (by kernel_rfl)
def spec_l2Put_b_t (a0 : LR) (a1 : Row) : Tr LR Empty Empty Empty Empty :=
  .s (spec_l2Put_c1_S a0 a1) (fun q87 => .s (spec_l2Put_c5_S a1.Key a1.Val a1.At.A a1.At.B q87.1 q87.2.1 q87.2.2) (fun q98 => .l (.r q98)) nE nE nE) nE nE nE
def spec_l2Put_b := fun a0 a1 => (spec_l2Put_b_t a0 a1).val
def spec_l2Put_b_ob := fun a0 a1 => (spec_l2Put_b_t a0 a1).ob
def spec_l2Put_b_S := fun a0 a1 => SubP.mk (spec_l2Put_b a0 a1) (spec_l2Put_b_ob a0 a1) [] [(0, .S .row a0), (1, .agg true [.i a1.Key, .i a1.Val, .i a1.At.A, .i a1.At.B, .i a1.Diff])] rv126 nE nE nE nE
theorem spec_l2Put_b_ok (G : Good Try.prog tt sp_spec_l2Put) {fr : Fr} : ∀ a0 a1, Ok126 fr (spec_l2Put_b_S a0 a1) :=
  fun a0 a1 => run_ok G [([0,1,1,1], fun e => ⟨spec_l2Put_c1_S (gL .row e 0 0) (gRow e 3)⟩), ([0,1,1,1,1], fun e => ⟨spec_l2Put_c5_S (gI e 3 0) (gI e 3 1) (gI e 3 2) (gI e 3 3) (gI e 3 4) (gL .row e 5 0) (gB e 6 0)⟩)] ⟨fun _ => ⟨rfl, spec_l2Put_c1_ok G _ _⟩, fun _ => ⟨rfl, spec_l2Put_c5_ok G _ _ _ _ _ _ _⟩, trivial⟩ [(0,[0,3]),(1,[0,3,5]),(2,[0,3,5,6]),(17,[4])] [] [] (spec_l2Put_b_t a0 a1) rfl rfl (by kernel_rfl)
def v_spec_l2Put (a0 : LR) (a1 : Row) : LR := ocR (spec_l2Put_b a0 a1)
def p_spec_l2Put (a0 : LR) (a1 : Row) : Prop := spec_l2Put_b_ob a0 a1
def s_spec_l2Put : Spec := ⟨[(.lst .row), (.st .row)], .one (.acc true) (.lst .row), false, fun x => (v_spec_l2Put x.1 x.2.1, 0), fun x => p_spec_l2Put x.1 x.2.1⟩
theorem con_spec_l2Put (G : Good Try.prog tt sp_spec_l2Put) : Con Try.prog 126 s_spec_l2Put :=
  con_run (pts := [(.lst .row), (.st .row)]) (rt := .one (.acc true) (.lst .row)) (o := fun x => spec_l2Put_b x.1 x.2.1) (ob := fun x => spec_l2Put_b_ob x.1 x.2.1) G (fn := Try.f126) (c := bodyOf Try.f126) (by kernel_rfl) (by kernel_rfl) (by kernel_rfl) (rs := [.tmp 4]) (fz := F126.fz) (by kernel_rfl) (by kernel_rfl) (fun _ => rfl) rfl (fun x => spec_l2Put_b_S x.1 x.2.1) (fun _ => ⟨rfl, rfl, rfl, rfl, rfl⟩) (fun x _ => spec_l2Put_b_ok G x.1 x.2.1)
def sp_spec_l2Sum : SP := [(126, s_spec_l2Put)]
abbrev F88 : Fnn := ⟨[.tmp 2], .one (.acc true) (.lst .row), none, []⟩
abbrev rv88 : LR → RV := fun q => (some (RT.av (.one (.acc true) (.lst .row)) q), .dead)
abbrev Ok88 (fr : Fr) {A X Y Z : Type} (S : SubP LR A X Y Z) : Prop := SubOk Try.prog tt ⟨Try.f88.ntmps, none, []⟩ fr (bodyOf Try.f88) F88 S
def spec_l2Sum_c2_r_t (x2 s6 : LR) (s7 : Int) : Tr LR (LR × Int) LR Empty Empty :=
  .c (cmp .lss s7 (lenI .row x2))
  (.w [inb s7 (lenI .row x2), (p_spec_l2Put s6 (rd .row x2 s7))] (.l (.n ((v_spec_l2Put s6 (rd .row x2 s7)), (ar .add .i64 s7 1)))))
  (.l (.x s6))
def spec_l2Sum_c2_r := fun x2 s6 s7 => (spec_l2Sum_c2_r_t x2 s6 s7).val
def spec_l2Sum_c2_r_ob := fun x2 s6 s7 => (spec_l2Sum_c2_r_t x2 s6 s7).ob
def spec_l2Sum_c2_r_S := fun x2 s6 s7 => mkRd (spec_l2Sum_c2_r x2 s6 s7) (spec_l2Sum_c2_r_ob x2 s6 s7) [0,0,1,0,1,1] (fun q => [(0, .S .row x2), (3, .A .row q.1), (4, .I q.2)]) (s6, s7) rv88 (fun q => (0, [(3, .A .row q)])) nE nE
theorem spec_l2Sum_c2_r_ok (G : Good Try.prog tt sp_spec_l2Sum) {fr : Fr} : ∀ x2 s6 s7, Ok88 fr (spec_l2Sum_c2_r_S x2 s6 s7) :=
  fun x2 s6 s7 => run_ok G [] trivial [(3,[0,3,4,11]),(4,[0,3,4]),(5,[0,3,4])] [] [] (spec_l2Sum_c2_r_t x2 s6 s7) rfl rfl (by kernel_rfl)
def spec_l2Sum_c2 := fun x2 => lpV (fun s : LR × Int => ocLp (spec_l2Sum_c2_r x2 s.1 s.2)) ([], 0)
def spec_l2Sum_c2_ob := fun x2 => LpT (fun s : LR × Int => ocLp (spec_l2Sum_c2_r x2 s.1 s.2)) (fun s => spec_l2Sum_c2_r_ob x2 s.1 s.2) ([], 0)
def spec_l2Sum_c2_S := fun x2 => lpS (spec_l2Sum_c2_r_S x2 [] 0) (spec_l2Sum_c2 x2) (spec_l2Sum_c2_ob x2)
theorem spec_l2Sum_c2_ok (G : Good Try.prog tt sp_spec_l2Sum) {fr : Fr} : ∀ x2, Ok88 fr (spec_l2Sum_c2_S x2) :=
  fun x2 => loop_ok (fun s : LR × Int => spec_l2Sum_c2_r_S x2 s.1 s.2) ([], 0) (fun _ => rfl) (fun _ => ⟨rfl, rfl, rfl, rfl, rfl⟩) (by kernel_rfl) fun _ => spec_l2Sum_c2_r_ok G _ _ _
def spec_l2Sum_c1_t (x1 : LR) : Tr LR LR Empty Empty Empty :=
  .s (spec_l2Sum_c2_S x1) nE (fun q16 => .l (.n q16)) nE nE
def spec_l2Sum_c1 := fun x1 => (spec_l2Sum_c1_t x1).val
def spec_l2Sum_c1_ob := fun x1 => (spec_l2Sum_c1_t x1).ob
def spec_l2Sum_c1_S := fun x1 => SubP.mk (spec_l2Sum_c1 x1) (spec_l2Sum_c1_ob x1) [0,1,1] [(0, .S .row x1), (3, .A .row [])] rv88 (fun q => [(3, .A .row q)]) nE nE nE
theorem spec_l2Sum_c1_ok (G : Good Try.prog tt sp_spec_l2Sum) {fr : Fr} : ∀ x1, Ok88 fr (spec_l2Sum_c1_S x1) :=
  fun x1 => run_ok G [([0,1,0,1,1], fun e => ⟨spec_l2Sum_c2_S (gL .row e 0 0)⟩)] ⟨fun _ => ⟨rfl, spec_l2Sum_c2_ok G _⟩, trivial⟩ [(2,[0,3,4])] [] [] (spec_l2Sum_c1_t x1) rfl rfl (by kernel_rfl)
def spec_l2Sum_c5_t (x36 x37 : LR) (x38 : Int) : Tr LR LR Empty Empty Empty :=
  .w [inb x38 (lenI .row x36)] (.c (cmp .neq (rd .row x36 x38).Diff 0)
  (.w [inb x38 (lenI .row x36), lim (lenI .row x37) (lenI .row [(rd .row x36 x38)])] (.l (.n (x37 ++ [(rd .row x36 x38)]))))
  (.l (.n x37)))
def spec_l2Sum_c5 := fun x36 x37 x38 => (spec_l2Sum_c5_t x36 x37 x38).val
def spec_l2Sum_c5_ob := fun x36 x37 x38 => (spec_l2Sum_c5_t x36 x37 x38).ob
def spec_l2Sum_c5_S := fun x36 x37 x38 => SubP.mk (spec_l2Sum_c5 x36 x37 x38) (spec_l2Sum_c5_ob x36 x37 x38) [0,1,0,0,1,0,1,1,1,1] [(3, .A .row x36), (5, .A .row x37), (6, .I x38)] rv88 (fun q => [(3, .A .row x36), (5, .A .row q), (6, .I x38)]) nE nE nE
theorem spec_l2Sum_c5_ok (G : Good Try.prog tt sp_spec_l2Sum) {fr : Fr} : ∀ x36 x37 x38, Ok88 fr (spec_l2Sum_c5_S x36 x37 x38) :=
  fun x36 x37 x38 => run_ok G [] trivial [(10,[3,5,6,32]),(11,[3,5,6])] [] [] (spec_l2Sum_c5_t x36 x37 x38) rfl rfl (by kernel_rfl)
def spec_l2Sum_c4_r_t (x22 s33 : LR) (s34 : Int) : Tr LR (LR × Int) LR Empty Empty :=
  .c (cmp .lss s34 (lenI .row x22))
  (.s (spec_l2Sum_c5_S x22 s33 s34) (fun q41 => .l (.n (q41, (ar .add .i64 s34 1)))) nE nE nE)
  (.l (.x s33))
def spec_l2Sum_c4_r := fun x22 s33 s34 => (spec_l2Sum_c4_r_t x22 s33 s34).val
def spec_l2Sum_c4_r_ob := fun x22 s33 s34 => (spec_l2Sum_c4_r_t x22 s33 s34).ob
def spec_l2Sum_c4_r_S := fun x22 s33 s34 => mkRd (spec_l2Sum_c4_r x22 s33 s34) (spec_l2Sum_c4_r_ob x22 s33 s34) [0,0,1,0,1,1,1,1] (fun q => [(3, .A .row x22), (5, .A .row q.1), (6, .I q.2)]) (s33, s34) rv88 (fun q => (2, [(5, .A .row q)])) nE nE
theorem spec_l2Sum_c4_r_ok (G : Good Try.prog tt sp_spec_l2Sum) {fr : Fr} : ∀ x22 s33 s34, Ok88 fr (spec_l2Sum_c4_r_S x22 s33 s34) :=
  fun x22 s33 s34 => run_ok G [([0,1,0,0,1,0,1,1,1,1], fun e => ⟨spec_l2Sum_c5_S (gL .row e 3 0) (gL .row e 5 0) (gI e 6 0)⟩)] ⟨fun _ => ⟨rfl, spec_l2Sum_c5_ok G _ _ _⟩, trivial⟩ [(8,[3,5,6,24]),(9,[3,5,6])] [] [] (spec_l2Sum_c4_r_t x22 s33 s34) rfl rfl (by kernel_rfl)
def spec_l2Sum_c4 := fun x22 => lpV (fun s : LR × Int => ocLp (spec_l2Sum_c4_r x22 s.1 s.2)) ([], 0)
def spec_l2Sum_c4_ob := fun x22 => LpT (fun s : LR × Int => ocLp (spec_l2Sum_c4_r x22 s.1 s.2)) (fun s => spec_l2Sum_c4_r_ob x22 s.1 s.2) ([], 0)
def spec_l2Sum_c4_S := fun x22 => lpS (spec_l2Sum_c4_r_S x22 [] 0) (spec_l2Sum_c4 x22) (spec_l2Sum_c4_ob x22)
theorem spec_l2Sum_c4_ok (G : Good Try.prog tt sp_spec_l2Sum) {fr : Fr} : ∀ x22, Ok88 fr (spec_l2Sum_c4_S x22) :=
  fun x22 => loop_ok (fun s : LR × Int => spec_l2Sum_c4_r_S x22 s.1 s.2) ([], 0) (fun _ => rfl) (fun _ => ⟨rfl, rfl, rfl, rfl, rfl⟩) (by kernel_rfl) fun _ => spec_l2Sum_c4_r_ok G _ _ _
def spec_l2Sum_c3_t (x21 : LR) : Tr LR LR Empty Empty Empty :=
  .s (spec_l2Sum_c4_S x21) nE (fun q52 => .l (.n q52)) nE nE
def spec_l2Sum_c3 := fun x21 => (spec_l2Sum_c3_t x21).val
def spec_l2Sum_c3_ob := fun x21 => (spec_l2Sum_c3_t x21).ob
def spec_l2Sum_c3_S := fun x21 => SubP.mk (spec_l2Sum_c3 x21) (spec_l2Sum_c3_ob x21) [0,1,1,1,1] [(3, .A .row x21), (5, .A .row [])] rv88 (fun q => [(5, .A .row q)]) nE nE nE
theorem spec_l2Sum_c3_ok (G : Good Try.prog tt sp_spec_l2Sum) {fr : Fr} : ∀ x21, Ok88 fr (spec_l2Sum_c3_S x21) :=
  fun x21 => run_ok G [([0,1,0,1,1,1,1], fun e => ⟨spec_l2Sum_c4_S (gL .row e 3 0)⟩)] ⟨fun _ => ⟨rfl, spec_l2Sum_c4_ok G _⟩, trivial⟩ [(7,[3,5,6])] [] [] (spec_l2Sum_c3_t x21) rfl rfl (by kernel_rfl)
def spec_l2Sum_b_t (a0 : LR) : Tr LR Empty Empty Empty Empty :=
  .s (spec_l2Sum_c1_S a0) (fun q19 => .s (spec_l2Sum_c3_S q19) (fun q55 => .l (.r q55)) nE nE nE) nE nE nE
def spec_l2Sum_b := fun a0 => (spec_l2Sum_b_t a0).val
def spec_l2Sum_b_ob := fun a0 => (spec_l2Sum_b_t a0).ob
def spec_l2Sum_b_S := fun a0 => SubP.mk (spec_l2Sum_b a0) (spec_l2Sum_b_ob a0) [] [(0, .S .row a0)] rv88 nE nE nE nE
theorem spec_l2Sum_b_ok (G : Good Try.prog tt sp_spec_l2Sum) {fr : Fr} : ∀ a0, Ok88 fr (spec_l2Sum_b_S a0) :=
  fun a0 => run_ok G [([0,1,1], fun e => ⟨spec_l2Sum_c1_S (gL .row e 0 0)⟩), ([0,1,1,1,1], fun e => ⟨spec_l2Sum_c3_S (gL .row e 3 0)⟩)] ⟨fun _ => ⟨rfl, spec_l2Sum_c1_ok G _⟩, fun _ => ⟨rfl, spec_l2Sum_c3_ok G _⟩, trivial⟩ [(0,[0]),(1,[0,3]),(6,[3,5]),(12,[2])] [] [] (spec_l2Sum_b_t a0) rfl rfl (by kernel_rfl)
def v_spec_l2Sum (a0 : LR) : LR := ocR (spec_l2Sum_b a0)
def p_spec_l2Sum (a0 : LR) : Prop := spec_l2Sum_b_ob a0
def s_spec_l2Sum : Spec := ⟨[(.lst .row)], .one (.acc true) (.lst .row), false, fun x => (v_spec_l2Sum x.1, 0), fun x => p_spec_l2Sum x.1⟩
theorem con_spec_l2Sum (G : Good Try.prog tt sp_spec_l2Sum) : Con Try.prog 88 s_spec_l2Sum :=
  con_run (pts := [(.lst .row)]) (rt := .one (.acc true) (.lst .row)) (o := fun x => spec_l2Sum_b x.1) (ob := fun x => spec_l2Sum_b_ob x.1) G (fn := Try.f88) (c := bodyOf Try.f88) (by kernel_rfl) (by kernel_rfl) (by kernel_rfl) (rs := [.tmp 2]) (fz := F88.fz) (by kernel_rfl) (by kernel_rfl) (fun _ => rfl) rfl (fun x => spec_l2Sum_b_S x.1) (fun _ => ⟨rfl, rfl, rfl, rfl, rfl⟩) (fun x _ => spec_l2Sum_b_ok G x.1)
def sp_spec_l2Items : SP := [(88, s_spec_l2Sum)]
abbrev F81 : Fnn := ⟨[.tmp 2], .one (.acc true) (.lst .item), none, []⟩
abbrev rv81 : LI → RV := fun q => (some (RT.av (.one (.acc true) (.lst .item)) q), .dead)
abbrev Ok81 (fr : Fr) {A X Y Z : Type} (S : SubP LI A X Y Z) : Prop := SubOk Try.prog tt ⟨Try.f81.ntmps, none, []⟩ fr (bodyOf Try.f81) F81 S
def spec_l2Items_c2_r_t (x2 : LI) (s6 : LR) (s7 : Int) : Tr LI (LR × Int) LR Empty Empty :=
  .c (cmp .lss s7 (lenI .item x2))
  (.w [inb s7 (lenI .item x2), inb s7 (lenI .item x2), inb s7 (lenI .item x2), lim (lenI .row s6) (lenI .row [(Row.mk (rd .item x2 s7).Key (rd .item x2 s7).Val (Time.mk 0 0) (rd .item x2 s7).Count)])] (.l (.n ((s6 ++ [(Row.mk (rd .item x2 s7).Key (rd .item x2 s7).Val (Time.mk 0 0) (rd .item x2 s7).Count)]), (ar .add .i64 s7 1)))))
  (.l (.x s6))
def spec_l2Items_c2_r := fun x2 s6 s7 => (spec_l2Items_c2_r_t x2 s6 s7).val
def spec_l2Items_c2_r_ob := fun x2 s6 s7 => (spec_l2Items_c2_r_t x2 s6 s7).ob
def spec_l2Items_c2_r_S := fun x2 s6 s7 => mkRd (spec_l2Items_c2_r x2 s6 s7) (spec_l2Items_c2_r_ob x2 s6 s7) [0,0,1,0,1,1] (fun q => [(0, .S .item x2), (3, .A .row q.1), (4, .I q.2)]) (s6, s7) rv81 (fun q => (0, [(3, .A .row q)])) nE nE
theorem spec_l2Items_c2_r_ok (G : Good Try.prog tt sp_spec_l2Items) {fr : Fr} : ∀ x2 s6 s7, Ok81 fr (spec_l2Items_c2_r_S x2 s6 s7) :=
  fun x2 s6 s7 => run_ok G [] trivial [(3,[0,3,4,12]),(4,[0,3,4]),(5,[0,3,4])] [] [] (spec_l2Items_c2_r_t x2 s6 s7) rfl rfl (by kernel_rfl)
def spec_l2Items_c2 := fun x2 => lpV (fun s : LR × Int => ocLp (spec_l2Items_c2_r x2 s.1 s.2)) ([], 0)
def spec_l2Items_c2_ob := fun x2 => LpT (fun s : LR × Int => ocLp (spec_l2Items_c2_r x2 s.1 s.2)) (fun s => spec_l2Items_c2_r_ob x2 s.1 s.2) ([], 0)
def spec_l2Items_c2_S := fun x2 => lpS (spec_l2Items_c2_r_S x2 [] 0) (spec_l2Items_c2 x2) (spec_l2Items_c2_ob x2)
theorem spec_l2Items_c2_ok (G : Good Try.prog tt sp_spec_l2Items) {fr : Fr} : ∀ x2, Ok81 fr (spec_l2Items_c2_S x2) :=
  fun x2 => loop_ok (fun s : LR × Int => spec_l2Items_c2_r_S x2 s.1 s.2) ([], 0) (fun _ => rfl) (fun _ => ⟨rfl, rfl, rfl, rfl, rfl⟩) (by kernel_rfl) fun _ => spec_l2Items_c2_r_ok G _ _ _
def spec_l2Items_c1_t (x1 : LI) : Tr LI LR Empty Empty Empty :=
  .s (spec_l2Items_c2_S x1) nE (fun q16 => .l (.n q16)) nE nE
def spec_l2Items_c1 := fun x1 => (spec_l2Items_c1_t x1).val
def spec_l2Items_c1_ob := fun x1 => (spec_l2Items_c1_t x1).ob
def spec_l2Items_c1_S := fun x1 => SubP.mk (spec_l2Items_c1 x1) (spec_l2Items_c1_ob x1) [0,1,1] [(0, .S .item x1), (3, .A .row [])] rv81 (fun q => [(3, .A .row q)]) nE nE nE
theorem spec_l2Items_c1_ok (G : Good Try.prog tt sp_spec_l2Items) {fr : Fr} : ∀ x1, Ok81 fr (spec_l2Items_c1_S x1) :=
  fun x1 => run_ok G [([0,1,0,1,1], fun e => ⟨spec_l2Items_c2_S (gL .item e 0 0)⟩)] ⟨fun _ => ⟨rfl, spec_l2Items_c2_ok G _⟩, trivial⟩ [(2,[0,3,4])] [] [] (spec_l2Items_c1_t x1) rfl rfl (by kernel_rfl)
def spec_l2Items_c4_r_t (x22 : LR) (s26 : LI) (s27 : Int) : Tr LI (LI × Int) LI Empty Empty :=
  .c (cmp .lss s27 (lenI .row x22))
  (.w [inb s27 (lenI .row x22), inb s27 (lenI .row x22), inb s27 (lenI .row x22), lim (lenI .item s26) (lenI .item [(Item.mk (rd .row x22 s27).Key (rd .row x22 s27).Val (rd .row x22 s27).Diff)])] (.l (.n ((s26 ++ [(Item.mk (rd .row x22 s27).Key (rd .row x22 s27).Val (rd .row x22 s27).Diff)]), (ar .add .i64 s27 1)))))
  (.l (.x s26))
def spec_l2Items_c4_r := fun x22 s26 s27 => (spec_l2Items_c4_r_t x22 s26 s27).val
def spec_l2Items_c4_r_ob := fun x22 s26 s27 => (spec_l2Items_c4_r_t x22 s26 s27).ob
def spec_l2Items_c4_r_S := fun x22 s26 s27 => mkRd (spec_l2Items_c4_r x22 s26 s27) (spec_l2Items_c4_r_ob x22 s26 s27) [0,0,1,0,1,1,1,1,1] (fun q => [(5, .A .row x22), (6, .A .item q.1), (7, .I q.2)]) (s26, s27) rv81 (fun q => (2, [(6, .A .item q)])) nE nE
theorem spec_l2Items_c4_r_ok (G : Good Try.prog tt sp_spec_l2Items) {fr : Fr} : ∀ x22 s26 s27, Ok81 fr (spec_l2Items_c4_r_S x22 s26 s27) :=
  fun x22 s26 s27 => run_ok G [] trivial [(9,[5,6,7,40]),(10,[5,6,7]),(11,[5,6,7])] [] [] (spec_l2Items_c4_r_t x22 s26 s27) rfl rfl (by kernel_rfl)
def spec_l2Items_c4 := fun x22 => lpV (fun s : LI × Int => ocLp (spec_l2Items_c4_r x22 s.1 s.2)) ([], 0)
def spec_l2Items_c4_ob := fun x22 => LpT (fun s : LI × Int => ocLp (spec_l2Items_c4_r x22 s.1 s.2)) (fun s => spec_l2Items_c4_r_ob x22 s.1 s.2) ([], 0)
def spec_l2Items_c4_S := fun x22 => lpS (spec_l2Items_c4_r_S x22 [] 0) (spec_l2Items_c4 x22) (spec_l2Items_c4_ob x22)
theorem spec_l2Items_c4_ok (G : Good Try.prog tt sp_spec_l2Items) {fr : Fr} : ∀ x22, Ok81 fr (spec_l2Items_c4_S x22) :=
  fun x22 => loop_ok (fun s : LI × Int => spec_l2Items_c4_r_S x22 s.1 s.2) ([], 0) (fun _ => rfl) (fun _ => ⟨rfl, rfl, rfl, rfl, rfl⟩) (by kernel_rfl) fun _ => spec_l2Items_c4_r_ok G _ _ _
def spec_l2Items_c3_t (x21 : LR) : Tr LI LI Empty Empty Empty :=
  .s (spec_l2Items_c4_S x21) nE (fun q36 => .l (.n q36)) nE nE
def spec_l2Items_c3 := fun x21 => (spec_l2Items_c3_t x21).val
def spec_l2Items_c3_ob := fun x21 => (spec_l2Items_c3_t x21).ob
def spec_l2Items_c3_S := fun x21 => SubP.mk (spec_l2Items_c3 x21) (spec_l2Items_c3_ob x21) [0,1,1,1,1,1] [(5, .A .row x21), (6, .A .item [])] rv81 (fun q => [(6, .A .item q)]) nE nE nE
theorem spec_l2Items_c3_ok (G : Good Try.prog tt sp_spec_l2Items) {fr : Fr} : ∀ x21, Ok81 fr (spec_l2Items_c3_S x21) :=
  fun x21 => run_ok G [([0,1,0,1,1,1,1,1], fun e => ⟨spec_l2Items_c4_S (gL .row e 5 0)⟩)] ⟨fun _ => ⟨rfl, spec_l2Items_c4_ok G _⟩, trivial⟩ [(8,[5,6,7])] [] [] (spec_l2Items_c3_t x21) rfl rfl (by kernel_rfl)
def spec_l2Items_b_t (a0 : LI) : Tr LI Empty Empty Empty Empty :=
  .s (spec_l2Items_c1_S a0) (fun q19 => .w [(p_spec_l2Sum q19)] (.s (spec_l2Items_c3_S (v_spec_l2Sum q19)) (fun q39 => .l (.r q39)) nE nE nE)) nE nE nE
def spec_l2Items_b := fun a0 => (spec_l2Items_b_t a0).val
def spec_l2Items_b_ob := fun a0 => (spec_l2Items_b_t a0).ob
def spec_l2Items_b_S := fun a0 => SubP.mk (spec_l2Items_b a0) (spec_l2Items_b_ob a0) [] [(0, .S .item a0)] rv81 nE nE nE nE
theorem spec_l2Items_b_ok (G : Good Try.prog tt sp_spec_l2Items) {fr : Fr} : ∀ a0, Ok81 fr (spec_l2Items_b_S a0) :=
  fun a0 => run_ok G [([0,1,1], fun e => ⟨spec_l2Items_c1_S (gL .item e 0 0)⟩), ([0,1,1,1,1,1], fun e => ⟨spec_l2Items_c3_S (gL .row e 5 0)⟩)] ⟨fun _ => ⟨rfl, spec_l2Items_c1_ok G _⟩, fun _ => ⟨rfl, spec_l2Items_c3_ok G _⟩, trivial⟩ [(0,[0]),(1,[0,3]),(6,[5]),(7,[5,6]),(12,[2])] [] [] (spec_l2Items_b_t a0) rfl rfl (by kernel_rfl)
def v_spec_l2Items (a0 : LI) : LI := ocR (spec_l2Items_b a0)
def p_spec_l2Items (a0 : LI) : Prop := spec_l2Items_b_ob a0
def s_spec_l2Items : Spec := ⟨[(.lst .item)], .one (.acc true) (.lst .item), false, fun x => (v_spec_l2Items x.1, 0), fun x => p_spec_l2Items x.1⟩
theorem con_spec_l2Items (G : Good Try.prog tt sp_spec_l2Items) : Con Try.prog 81 s_spec_l2Items :=
  con_run (pts := [(.lst .item)]) (rt := .one (.acc true) (.lst .item)) (o := fun x => spec_l2Items_b x.1) (ob := fun x => spec_l2Items_b_ob x.1) G (fn := Try.f81) (c := bodyOf Try.f81) (by kernel_rfl) (by kernel_rfl) (by kernel_rfl) (rs := [.tmp 2]) (fz := F81.fz) (by kernel_rfl) (by kernel_rfl) (fun _ => rfl) rfl (fun x => spec_l2Items_b_S x.1) (fun _ => ⟨rfl, rfl, rfl, rfl, rfl⟩) (fun x _ => spec_l2Items_b_ok G x.1)
def sp_spec_BatchAt : SP := [(56, s_spec_RowsOk), (132, s_spec_TimeOk), (104, s_spec_TimeLess), (81, s_spec_l2Items)]
abbrev F103 : Fnn := ⟨[.tmp 4], .one (.acc true) (.lst .item), none, []⟩
abbrev rv103 : LI → RV := fun q => (some (RT.av (.one (.acc true) (.lst .item)) q), .dead)
abbrev Ok103 (fr : Fr) {A X Y Z : Type} (S : SubP LI A X Y Z) : Prop := SubOk Try.prog tt ⟨Try.f103.ntmps, none, []⟩ fr (bodyOf Try.f103) F103 S
def spec_BatchAt_c3_t (x20 : LR) (x21 : Time) (x22 : LI) (x23 : Int) : Tr LI LI Empty Empty Empty :=
  .w [inb x23 (lenI .row x20), (p_spec_TimeLess (rd .row x20 x23).At x21)] (.c (v_spec_TimeLess (rd .row x20 x23).At x21)
  (.w [inb x23 (lenI .row x20), inb x23 (lenI .row x20), inb x23 (lenI .row x20), lim (lenI .item x22) (lenI .item [(Item.mk (rd .row x20 x23).Key (rd .row x20 x23).Val (rd .row x20 x23).Diff)])] (.l (.n (x22 ++ [(Item.mk (rd .row x20 x23).Key (rd .row x20 x23).Val (rd .row x20 x23).Diff)]))))
  (.l (.n x22)))
def spec_BatchAt_c3 := fun x20 x21 x22 x23 => (spec_BatchAt_c3_t x20 x21 x22 x23).val
def spec_BatchAt_c3_ob := fun x20 x21 x22 x23 => (spec_BatchAt_c3_t x20 x21 x22 x23).ob
def spec_BatchAt_c3_S := fun x20 x21 x22 x23 => SubP.mk (spec_BatchAt_c3 x20 x21 x22 x23) (spec_BatchAt_c3_ob x20 x21 x22 x23) [0,1,0,0,1,0,1,1,1] [(0, .S .row x20), (3, .box [(.fr, .i x21.A), (.fr, .i x21.B)]), (5, .A .item x22), (6, .I x23)] rv103 (fun q => [(0, .S .row x20), (3, .box [(.fr, .i x21.A), (.fr, .i x21.B)]), (5, .A .item q), (6, .I x23)]) nE nE nE
theorem spec_BatchAt_c3_ok (G : Good Try.prog tt sp_spec_BatchAt) {fr : Fr} : ∀ x20 x21 x22 x23, Ok103 fr (spec_BatchAt_c3_S x20 x21 x22 x23) :=
  fun x20 x21 x22 x23 => run_ok G [] trivial [(7,[0,3,5,6,29]),(8,[0,3,5,6])] [] [] (spec_BatchAt_c3_t x20 x21 x22 x23) rfl rfl (by kernel_rfl)
def spec_BatchAt_c2_r_t (x4 : LR) (x5 : Time) (s17 : LI) (s18 : Int) : Tr LI (LI × Int) LI Empty Empty :=
  .c (cmp .lss s18 (lenI .row x4))
  (.s (spec_BatchAt_c3_S x4 x5 s17 s18) (fun q26 => .l (.n (q26, (ar .add .i64 s18 1)))) nE nE nE)
  (.l (.x s17))
def spec_BatchAt_c2_r := fun x4 x5 s17 s18 => (spec_BatchAt_c2_r_t x4 x5 s17 s18).val
def spec_BatchAt_c2_r_ob := fun x4 x5 s17 s18 => (spec_BatchAt_c2_r_t x4 x5 s17 s18).ob
def spec_BatchAt_c2_r_S := fun x4 x5 s17 s18 => mkRd (spec_BatchAt_c2_r x4 x5 s17 s18) (spec_BatchAt_c2_r_ob x4 x5 s17 s18) [0,0,1,0,1,1,1] (fun q => [(0, .S .row x4), (3, .box [(.fr, .i x5.A), (.fr, .i x5.B)]), (5, .A .item q.1), (6, .I q.2)]) (s17, s18) rv103 (fun q => (0, [(5, .A .item q)])) nE nE
theorem spec_BatchAt_c2_r_ok (G : Good Try.prog tt sp_spec_BatchAt) {fr : Fr} : ∀ x4 x5 s17 s18, Ok103 fr (spec_BatchAt_c2_r_S x4 x5 s17 s18) :=
  fun x4 x5 s17 s18 => run_ok G [([0,1,0,0,1,0,1,1,1], fun e => ⟨spec_BatchAt_c3_S (gL .row e 0 0) (gTime e 3) (gL .item e 5 0) (gI e 6 0)⟩)] ⟨fun _ => ⟨rfl, spec_BatchAt_c3_ok G _ _ _ _⟩, trivial⟩ [(5,[0,3,5,6,20]),(6,[0,3,5,6])] [] [] (spec_BatchAt_c2_r_t x4 x5 s17 s18) rfl rfl (by kernel_rfl)
def spec_BatchAt_c2 := fun x4 x5 => lpV (fun s : LI × Int => ocLp (spec_BatchAt_c2_r x4 x5 s.1 s.2)) ([], 0)
def spec_BatchAt_c2_ob := fun x4 x5 => LpT (fun s : LI × Int => ocLp (spec_BatchAt_c2_r x4 x5 s.1 s.2)) (fun s => spec_BatchAt_c2_r_ob x4 x5 s.1 s.2) ([], 0)
def spec_BatchAt_c2_S := fun x4 x5 => lpS (spec_BatchAt_c2_r_S x4 x5 [] 0) (spec_BatchAt_c2 x4 x5) (spec_BatchAt_c2_ob x4 x5)
theorem spec_BatchAt_c2_ok (G : Good Try.prog tt sp_spec_BatchAt) {fr : Fr} : ∀ x4 x5, Ok103 fr (spec_BatchAt_c2_S x4 x5) :=
  fun x4 x5 => loop_ok (fun s : LI × Int => spec_BatchAt_c2_r_S x4 x5 s.1 s.2) ([], 0) (fun _ => rfl) (fun _ => ⟨rfl, rfl, rfl, rfl, rfl⟩) (by kernel_rfl) fun _ => spec_BatchAt_c2_r_ok G _ _ _ _
def spec_BatchAt_c1_t (x2 : LR) (x3 : Time) : Tr LI LI Empty Empty Empty :=
  .s (spec_BatchAt_c2_S x2 x3) nE (fun q37 => .l (.n q37)) nE nE
def spec_BatchAt_c1 := fun x2 x3 => (spec_BatchAt_c1_t x2 x3).val
def spec_BatchAt_c1_ob := fun x2 x3 => (spec_BatchAt_c1_t x2 x3).ob
def spec_BatchAt_c1_S := fun x2 x3 => SubP.mk (spec_BatchAt_c1 x2 x3) (spec_BatchAt_c1_ob x2 x3) [0,1,1,1] [(0, .S .row x2), (3, .box [(.fr, .i x3.A), (.fr, .i x3.B)]), (5, .A .item [])] rv103 (fun q => [(5, .A .item q)]) nE nE nE
theorem spec_BatchAt_c1_ok (G : Good Try.prog tt sp_spec_BatchAt) {fr : Fr} : ∀ x2 x3, Ok103 fr (spec_BatchAt_c1_S x2 x3) :=
  fun x2 x3 => run_ok G [([0,1,0,1,1,1], fun e => ⟨spec_BatchAt_c2_S (gL .row e 0 0) (gTime e 3)⟩)] ⟨fun _ => ⟨rfl, spec_BatchAt_c2_ok G _ _⟩, trivial⟩ [(4,[0,3,5,6])] [] [] (spec_BatchAt_c1_t x2 x3) rfl rfl (by kernel_rfl)
def spec_BatchAt_b_t (a0 : LR) (a1 : Time) : Tr LI Empty Empty Empty Empty :=
  .w [(p_spec_RowsOk a0), (((!(!(v_spec_RowsOk a0))) && true) = true → (p_spec_TimeOk a1))] (.c (cond (!(v_spec_RowsOk a0)) true (!(v_spec_TimeOk a1)))
  (.l (.r []))
  (.s (spec_BatchAt_c1_S a0 a1) (fun q40 => .w [(p_spec_l2Items q40)] (.l (.r (v_spec_l2Items q40)))) nE nE nE))
def spec_BatchAt_b := fun a0 a1 => (spec_BatchAt_b_t a0 a1).val
def spec_BatchAt_b_ob := fun a0 a1 => (spec_BatchAt_b_t a0 a1).ob
def spec_BatchAt_b_S := fun a0 a1 => SubP.mk (spec_BatchAt_b a0 a1) (spec_BatchAt_b_ob a0 a1) [] [(0, .S .row a0), (1, .agg true [.i a1.A, .i a1.B])] rv103 nE nE nE nE
theorem spec_BatchAt_b_ok (G : Good Try.prog tt sp_spec_BatchAt) {fr : Fr} : ∀ a0 a1, Ok103 fr (spec_BatchAt_b_S a0 a1) :=
  fun a0 a1 => run_ok G [([0,1,1,1], fun e => ⟨spec_BatchAt_c1_S (gL .row e 0 0) (gTime e 3)⟩)] ⟨fun _ => ⟨rfl, spec_BatchAt_c1_ok G _ _⟩, trivial⟩ [(0,[0,3]),(1,[0,3,5]),(2,[0,3,5,15]),(3,[4]),(9,[4])] [] [] (spec_BatchAt_b_t a0 a1) rfl rfl (by kernel_rfl)
def v_spec_BatchAt (a0 : LR) (a1 : Time) : LI := ocR (spec_BatchAt_b a0 a1)
def p_spec_BatchAt (a0 : LR) (a1 : Time) : Prop := spec_BatchAt_b_ob a0 a1
def s_spec_BatchAt : Spec := ⟨[(.lst .row), (.st .time)], .one (.acc true) (.lst .item), false, fun x => (v_spec_BatchAt x.1 x.2.1, 0), fun x => p_spec_BatchAt x.1 x.2.1⟩
theorem con_spec_BatchAt (G : Good Try.prog tt sp_spec_BatchAt) : Con Try.prog 103 s_spec_BatchAt :=
  con_run (pts := [(.lst .row), (.st .time)]) (rt := .one (.acc true) (.lst .item)) (o := fun x => spec_BatchAt_b x.1 x.2.1) (ob := fun x => spec_BatchAt_b_ob x.1 x.2.1) G (fn := Try.f103) (c := bodyOf Try.f103) (by kernel_rfl) (by kernel_rfl) (by kernel_rfl) (rs := [.tmp 4]) (fz := F103.fz) (by kernel_rfl) (by kernel_rfl) (fun _ => rfl) rfl (fun x => spec_BatchAt_b_S x.1 x.2.1) (fun _ => ⟨rfl, rfl, rfl, rfl, rfl⟩) (fun x _ => spec_BatchAt_b_ok G x.1 x.2.1)
abbrev rv47 : Bool → RV := fun q => (some (RT.av (.one .fr .bool) q), .dead)
def impl_SetOk_c2_r_t (x2 : LI) (x3 s8 : Int) : Tr Bool Int Unit Empty Empty :=
  .c (cmp .lss s8 x3)
  (.w [inb s8 (lenI .item x2)] (.c (cond (cond (cond (cond (cond (cond (cmp .lss (rd .item x2 s8).Key 0) true (cmp .geq (rd .item x2 s8).Key 4)) true (cmp .lss (rd .item x2 s8).Val 0)) true (cmp .geq (rd .item x2 s8).Val 100)) true (cmp .eql (rd .item x2 s8).Count 0)) true (cmp .lss (rd .item x2 s8).Count (-1099511627776))) true (cmp .gtr (rd .item x2 s8).Count 1099511627776))
  (.l (.r false))
  (.w [(((cmp .gtr s8 0) && true) = true → inb (ar .sub .i64 s8 1) (lenI .item x2)), (((!(cmp .gtr (rd .item x2 (ar .sub .i64 s8 1)).Key (rd .item x2 s8).Key)) && ((cmp .gtr s8 0) && true)) = true → inb (ar .sub .i64 s8 1) (lenI .item x2)), (((cmp .eql (rd .item x2 (ar .sub .i64 s8 1)).Key (rd .item x2 s8).Key) && ((!(cmp .gtr (rd .item x2 (ar .sub .i64 s8 1)).Key (rd .item x2 s8).Key)) && ((cmp .gtr s8 0) && true))) = true → inb (ar .sub .i64 s8 1) (lenI .item x2))] (.c (cond (cmp .gtr s8 0) (cond (cmp .gtr (rd .item x2 (ar .sub .i64 s8 1)).Key (rd .item x2 s8).Key) true (cond (cmp .eql (rd .item x2 (ar .sub .i64 s8 1)).Key (rd .item x2 s8).Key) (cmp .geq (rd .item x2 (ar .sub .i64 s8 1)).Val (rd .item x2 s8).Val) false)) false)
  (.l (.r false))
  (.l (.n (ar .add .i64 s8 1)))))))
  (.l (.x ()))
def impl_SetOk_c2_r := fun x2 x3 s8 => (impl_SetOk_c2_r_t x2 x3 s8).val
def impl_SetOk_c2_r_ob := fun x2 x3 s8 => (impl_SetOk_c2_r_t x2 x3 s8).ob
def impl_SetOk_c2_r_S := fun x2 x3 s8 => mkRd (impl_SetOk_c2_r x2 x3 s8) (impl_SetOk_c2_r_ob x2 x3 s8) [0,0,1,0,1] (fun q => [(0, .S .item x2), (5, .S .item x2), (6, .I x3), (7, .I q)]) s8 rv47 (fun _ => (0, [(0, .S .item x2)])) nE nE
def impl_SetOk_c2 := fun x2 x3 => lpV (fun s : Int => ocLp (impl_SetOk_c2_r x2 x3 s)) 0
def impl_SetOk_c2_ob := fun x2 x3 => LpT (fun s : Int => ocLp (impl_SetOk_c2_r x2 x3 s)) (fun s => impl_SetOk_c2_r_ob x2 x3 s) 0
def impl_SetOk_c2_S := fun x2 x3 => lpS (impl_SetOk_c2_r_S x2 x3 0) (impl_SetOk_c2 x2 x3) (impl_SetOk_c2_ob x2 x3)
def impl_SetOk_c1_t (x1 : LI) : Tr Bool Unit Empty Empty Empty :=
  .s (impl_SetOk_c2_S x1 (lenI .item x1)) nE (fun _ => .l (.n ())) nE nE
def impl_SetOk_c1 := fun x1 => (impl_SetOk_c1_t x1).val
def impl_SetOk_c1_ob := fun x1 => (impl_SetOk_c1_t x1).ob
def impl_SetOk_c1_S := fun x1 => SubP.mk (impl_SetOk_c1 x1) (impl_SetOk_c1_ob x1) [0,1] [(0, .S .item x1)] rv47 (fun _ => [(0, .S .item x1)]) nE nE nE
def impl_SetOk_b_t (a0 : LI) : Tr Bool Empty Empty Empty Empty :=
  .s (impl_SetOk_c1_S a0) (fun _ => .l (.r (cmp .leq (lenI .item a0) 400))) nE nE nE
def impl_SetOk_b := fun a0 => (impl_SetOk_b_t a0).val
def impl_SetOk_b_ob := fun a0 => (impl_SetOk_b_t a0).ob
def v_impl_SetOk (a0 : LI) : Bool := ocR (impl_SetOk_b a0)
def p_impl_SetOk (a0 : LI) : Prop := impl_SetOk_b_ob a0
abbrev rv125 : LI → RV := fun q => (some (RT.av (.one (.acc true) (.lst .item)) q), .dead)
def impl_once_c3_t (x18 x19 : LI) (_x20 x21 : Int) : Tr LI LI Empty Empty Empty :=
  .w [inb x21 (lenI .item x19)] (.c (cmp .gtr (rd .item x19 x21).Count 0)
  (.w [lim (lenI .item x18) (lenI .item [(Item.mk (rd .item x19 x21).Key (rd .item x19 x21).Val 1)])] (.l (.n (x18 ++ [(Item.mk (rd .item x19 x21).Key (rd .item x19 x21).Val 1)]))))
  (.l (.n x18)))
def impl_once_c3 := fun x18 x19 x20 x21 => (impl_once_c3_t x18 x19 x20 x21).val
def impl_once_c3_ob := fun x18 x19 x20 x21 => (impl_once_c3_t x18 x19 x20 x21).ob
def impl_once_c3_S := fun x18 x19 x20 x21 => SubP.mk (impl_once_c3 x18 x19 x20 x21) (impl_once_c3_ob x18 x19 x20 x21) [0,1,1,0,0,1,0,1,1] [(3, .A .item x18), (7, .S .item x19), (8, .I x20), (9, .I x21)] rv125 (fun q => [(3, .A .item q), (7, .S .item x19), (8, .I x20), (9, .I x21)]) nE nE nE
def impl_once_c2_r_t (x2 : LI) (x3 : Int) (s15 : LI) (s16 : Int) : Tr LI (LI × Int) LI Empty Empty :=
  .c (cmp .lss s16 x3)
  (.s (impl_once_c3_S s15 x2 x3 s16) (fun q24 => .l (.n (q24, (ar .add .i64 s16 1)))) nE nE nE)
  (.l (.x s15))
def impl_once_c2_r := fun x2 x3 s15 s16 => (impl_once_c2_r_t x2 x3 s15 s16).val
def impl_once_c2_r_ob := fun x2 x3 s15 s16 => (impl_once_c2_r_t x2 x3 s15 s16).ob
def impl_once_c2_r_S := fun x2 x3 s15 s16 => mkRd (impl_once_c2_r x2 x3 s15 s16) (impl_once_c2_r_ob x2 x3 s15 s16) [0,0,1,0,1,1] (fun q => [(3, .A .item q.1), (7, .S .item x2), (8, .I x3), (9, .I q.2)]) (s15, s16) rv125 (fun q => (0, [(3, .A .item q)])) nE nE
def impl_once_c2 := fun x2 x3 => lpV (fun s : LI × Int => ocLp (impl_once_c2_r x2 x3 s.1 s.2)) ([], 0)
def impl_once_c2_ob := fun x2 x3 => LpT (fun s : LI × Int => ocLp (impl_once_c2_r x2 x3 s.1 s.2)) (fun s => impl_once_c2_r_ob x2 x3 s.1 s.2) ([], 0)
def impl_once_c2_S := fun x2 x3 => lpS (impl_once_c2_r_S x2 x3 [] 0) (impl_once_c2 x2 x3) (impl_once_c2_ob x2 x3)
def impl_once_c1_t (x1 : LI) : Tr LI LI Empty Empty Empty :=
  .s (impl_once_c2_S x1 (lenI .item x1)) nE (fun q35 => .l (.n q35)) nE nE
def impl_once_c1 := fun x1 => (impl_once_c1_t x1).val
def impl_once_c1_ob := fun x1 => (impl_once_c1_t x1).ob
def impl_once_c1_S := fun x1 => SubP.mk (impl_once_c1 x1) (impl_once_c1_ob x1) [0,1,1] [(0, .S .item x1), (3, .A .item [])] rv125 (fun q => [(3, .A .item q)]) nE nE nE
def impl_once_b_t (a0 : LI) : Tr LI Empty Empty Empty Empty :=
  .s (impl_once_c1_S a0) (fun q38 => .l (.r q38)) nE nE nE
def impl_once_b := fun a0 => (impl_once_b_t a0).val
def impl_once_b_ob := fun a0 => (impl_once_b_t a0).ob
def v_impl_once (a0 : LI) : LI := ocR (impl_once_b a0)
def p_impl_once (a0 : LI) : Prop := impl_once_b_ob a0
abbrev rv85 : LI → RV := fun q => (some (RT.av (.one (.acc true) (.lst .item)) q), .dead)
def impl_loopStep_c2_r_t (_x4 _x5 x6 : LI) (x7 : Int) (s11 : LI) (s12 : Int) : Tr LI (LI × Int) LI Empty Empty :=
  .c (cmp .lss s12 x7)
  (.w [inb s12 (lenI .item x6)] (.w [lim (lenI .item s11) (lenI .item [(Item.mk (rd .item x6 s12).Key 0 (rd .item x6 s12).Count)])] (.l (.n ((s11 ++ [(Item.mk (rd .item x6 s12).Key 0 (rd .item x6 s12).Count)]), (ar .add .i64 s12 1))))))
  (.l (.x s11))
def impl_loopStep_c2_r := fun x4 x5 x6 x7 s11 s12 => (impl_loopStep_c2_r_t x4 x5 x6 x7 s11 s12).val
def impl_loopStep_c2_r_ob := fun x4 x5 x6 x7 s11 s12 => (impl_loopStep_c2_r_t x4 x5 x6 x7 s11 s12).ob
def impl_loopStep_c2_r_S := fun x4 x5 x6 x7 s11 s12 => mkRd (impl_loopStep_c2_r x4 x5 x6 x7 s11 s12) (impl_loopStep_c2_r_ob x4 x5 x6 x7 s11 s12) [0,0,1,0,1,1] (fun q => [(0, .S .item x4), (2, .S .item x5), (7, .A .item q.1), (15, .S .item x6), (16, .I x7), (17, .I q.2)]) (s11, s12) rv85 (fun q => (0, [(0, .S .item x4), (2, .S .item x5), (7, .A .item q)])) nE nE
def impl_loopStep_c2 := fun x4 x5 x6 x7 => lpV (fun s : LI × Int => ocLp (impl_loopStep_c2_r x4 x5 x6 x7 s.1 s.2)) ([], 0)
def impl_loopStep_c2_ob := fun x4 x5 x6 x7 => LpT (fun s : LI × Int => ocLp (impl_loopStep_c2_r x4 x5 x6 x7 s.1 s.2)) (fun s => impl_loopStep_c2_r_ob x4 x5 x6 x7 s.1 s.2) ([], 0)
def impl_loopStep_c2_S := fun x4 x5 x6 x7 => lpS (impl_loopStep_c2_r_S x4 x5 x6 x7 [] 0) (impl_loopStep_c2 x4 x5 x6 x7) (impl_loopStep_c2_ob x4 x5 x6 x7)
def impl_loopStep_c1_t (x1 x2 x3 : LI) : Tr LI LI Empty Empty Empty :=
  .s (impl_loopStep_c2_S x1 x3 x2 (lenI .item x2)) nE (fun q21 => .l (.n q21)) nE nE
def impl_loopStep_c1 := fun x1 x2 x3 => (impl_loopStep_c1_t x1 x2 x3).val
def impl_loopStep_c1_ob := fun x1 x2 x3 => (impl_loopStep_c1_t x1 x2 x3).ob
def impl_loopStep_c1_S := fun x1 x2 x3 => SubP.mk (impl_loopStep_c1 x1 x2 x3) (impl_loopStep_c1_ob x1 x2 x3) [0,1,1] [(0, .S .item x1), (1, .S .item x2), (2, .S .item x3), (7, .A .item [])] rv85 (fun q => [(0, .S .item x1), (2, .S .item x3), (7, .A .item q)]) nE nE nE
def impl_loopStep_c7_t (x125 x126 : LI) (x127 : Item) (_x128 : LI) (_x129 _x130 _x131 x132 : Int) : Tr LI LI Empty Empty Empty :=
  .w [inb x132 (lenI .item x125)] (.c (cmp .eql x127.Key (rd .item x125 x132).Key)
  (.w [(4 : Int) ≠ 0, lim (lenI .item x126) (lenI .item [(Item.mk (ar .rem .i64 x127.Val 4) 0 (ar .mul .i64 x127.Count (rd .item x125 x132).Count))])] (.l (.n (x126 ++ [(Item.mk (ar .rem .i64 x127.Val 4) 0 (ar .mul .i64 x127.Count (rd .item x125 x132).Count))]))))
  (.l (.n x126)))
def impl_loopStep_c7 := fun x125 x126 x127 x128 x129 x130 x131 x132 => (impl_loopStep_c7_t x125 x126 x127 x128 x129 x130 x131 x132).val
def impl_loopStep_c7_ob := fun x125 x126 x127 x128 x129 x130 x131 x132 => (impl_loopStep_c7_t x125 x126 x127 x128 x129 x130 x131 x132).ob
def impl_loopStep_c7_S := fun x125 x126 x127 x128 x129 x130 x131 x132 => SubP.mk (impl_loopStep_c7 x125 x126 x127 x128 x129 x130 x131 x132) (impl_loopStep_c7_ob x125 x126 x127 x128 x129 x130 x131 x132) [0,1,1,0,0,1,1,0,0,1,1,0,0,1,0,1,1,1] [(2, .S .item x125), (7, .A .item x126), (11, .box [(.fr, .i x127.Key), (.fr, .i x127.Val), (.fr, .i x127.Count)]), (30, .S .item x128), (31, .I x129), (32, .I x130), (36, .S .item x125), (37, .I x131), (38, .I x132)] rv85 (fun q => [(2, .S .item x125), (7, .A .item q), (11, .box [(.fr, .i x127.Key), (.fr, .i x127.Val), (.fr, .i x127.Count)]), (30, .S .item x128), (31, .I x129), (32, .I x130), (36, .S .item x125), (37, .I x131), (38, .I x132)]) nE nE nE
def impl_loopStep_c6_r_t (x99 _x100 : LI) (x101 : Item) (x102 : LI) (x103 x104 x105 : Int) (s122 : LI) (s123 : Int) : Tr LI (LI × Int) LI Empty Empty :=
  .c (cmp .lss s123 x105)
  (.s (impl_loopStep_c7_S x99 s122 x101 x102 x103 x104 x105 s123) (fun q135 => .l (.n (q135, (ar .add .i64 s123 1)))) nE nE nE)
  (.l (.x s122))
def impl_loopStep_c6_r := fun x99 x100 x101 x102 x103 x104 x105 s122 s123 => (impl_loopStep_c6_r_t x99 x100 x101 x102 x103 x104 x105 s122 s123).val
def impl_loopStep_c6_r_ob := fun x99 x100 x101 x102 x103 x104 x105 s122 s123 => (impl_loopStep_c6_r_t x99 x100 x101 x102 x103 x104 x105 s122 s123).ob
def impl_loopStep_c6_r_S := fun x99 x100 x101 x102 x103 x104 x105 s122 s123 => mkRd (impl_loopStep_c6_r x99 x100 x101 x102 x103 x104 x105 s122 s123) (impl_loopStep_c6_r_ob x99 x100 x101 x102 x103 x104 x105 s122 s123) [0,0,1,1,0,0,1,1,0,0,1,0,1,1,1] (fun q => [(2, .S .item x99), (7, .A .item q.1), (11, .box [(.fr, .i x101.Key), (.fr, .i x101.Val), (.fr, .i x101.Count)]), (30, .S .item x102), (31, .I x103), (32, .I x104), (36, .S .item x99), (37, .I x105), (38, .I q.2)]) (s122, s123) rv85 (fun q => (4, [(2, .S .item x99), (7, .A .item q), (30, .S .item x102), (31, .I x103), (32, .I x104)])) nE nE
def impl_loopStep_c6 := fun x99 x100 x101 x102 x103 x104 x105 => lpV (fun s : LI × Int => ocLp (impl_loopStep_c6_r x99 x100 x101 x102 x103 x104 x105 s.1 s.2)) (x100, 0)
def impl_loopStep_c6_ob := fun x99 x100 x101 x102 x103 x104 x105 => LpT (fun s : LI × Int => ocLp (impl_loopStep_c6_r x99 x100 x101 x102 x103 x104 x105 s.1 s.2)) (fun s => impl_loopStep_c6_r_ob x99 x100 x101 x102 x103 x104 x105 s.1 s.2) (x100, 0)
def impl_loopStep_c6_S := fun x99 x100 x101 x102 x103 x104 x105 => lpS (impl_loopStep_c6_r_S x99 x100 x101 x102 x103 x104 x105 x100 0) (impl_loopStep_c6 x99 x100 x101 x102 x103 x104 x105) (impl_loopStep_c6_ob x99 x100 x101 x102 x103 x104 x105)
def impl_loopStep_c5_t (x94 x95 x96 : LI) (x97 x98 : Int) : Tr LI LI Empty Empty Empty :=
  .w [inb x98 (lenI .item x96)] (.s (impl_loopStep_c6_S x94 x95 (rd .item x96 x98) x96 x97 x98 (lenI .item x94)) nE (fun q146 => .l (.n q146)) nE nE)
def impl_loopStep_c5 := fun x94 x95 x96 x97 x98 => (impl_loopStep_c5_t x94 x95 x96 x97 x98).val
def impl_loopStep_c5_ob := fun x94 x95 x96 x97 x98 => (impl_loopStep_c5_t x94 x95 x96 x97 x98).ob
def impl_loopStep_c5_S := fun x94 x95 x96 x97 x98 => SubP.mk (impl_loopStep_c5 x94 x95 x96 x97 x98) (impl_loopStep_c5_ob x94 x95 x96 x97 x98) [0,1,1,0,0,1,0,1,1,1] [(2, .S .item x94), (7, .A .item x95), (30, .S .item x96), (31, .I x97), (32, .I x98)] rv85 (fun q => [(2, .S .item x94), (7, .A .item q), (30, .S .item x96), (31, .I x97), (32, .I x98)]) nE nE nE
def impl_loopStep_c4_r_t (x29 _x30 x31 : LI) (x32 : Int) (s91 : LI) (s92 : Int) : Tr LI (LI × Int) LI Empty Empty :=
  .c (cmp .lss s92 x32)
  (.s (impl_loopStep_c5_S x29 s91 x31 x32 s92) (fun q149 => .l (.n (q149, (ar .add .i64 s92 1)))) nE nE nE)
  (.l (.x s91))
def impl_loopStep_c4_r := fun x29 x30 x31 x32 s91 s92 => (impl_loopStep_c4_r_t x29 x30 x31 x32 s91 s92).val
def impl_loopStep_c4_r_ob := fun x29 x30 x31 x32 s91 s92 => (impl_loopStep_c4_r_t x29 x30 x31 x32 s91 s92).ob
def impl_loopStep_c4_r_S := fun x29 x30 x31 x32 s91 s92 => mkRd (impl_loopStep_c4_r x29 x30 x31 x32 s91 s92) (impl_loopStep_c4_r_ob x29 x30 x31 x32 s91 s92) [0,0,1,0,1,1,1] (fun q => [(2, .S .item x29), (7, .A .item q.1), (30, .S .item x31), (31, .I x32), (32, .I q.2)]) (s91, s92) rv85 (fun q => (2, [(7, .A .item q)])) nE nE
def impl_loopStep_c4 := fun x29 x30 x31 x32 => lpV (fun s : LI × Int => ocLp (impl_loopStep_c4_r x29 x30 x31 x32 s.1 s.2)) (x30, 0)
def impl_loopStep_c4_ob := fun x29 x30 x31 x32 => LpT (fun s : LI × Int => ocLp (impl_loopStep_c4_r x29 x30 x31 x32 s.1 s.2)) (fun s => impl_loopStep_c4_r_ob x29 x30 x31 x32 s.1 s.2) (x30, 0)
def impl_loopStep_c4_S := fun x29 x30 x31 x32 => lpS (impl_loopStep_c4_r_S x29 x30 x31 x32 x30 0) (impl_loopStep_c4 x29 x30 x31 x32) (impl_loopStep_c4_ob x29 x30 x31 x32)
def impl_loopStep_c3_t (x26 x27 x28 : LI) : Tr LI LI Empty Empty Empty :=
  .s (impl_loopStep_c4_S x27 x28 x26 (lenI .item x26)) nE (fun q160 => .l (.n q160)) nE nE
def impl_loopStep_c3 := fun x26 x27 x28 => (impl_loopStep_c3_t x26 x27 x28).val
def impl_loopStep_c3_ob := fun x26 x27 x28 => (impl_loopStep_c3_t x26 x27 x28).ob
def impl_loopStep_c3_S := fun x26 x27 x28 => SubP.mk (impl_loopStep_c3 x26 x27 x28) (impl_loopStep_c3_ob x26 x27 x28) [0,1,1,1] [(0, .S .item x26), (2, .S .item x27), (7, .A .item x28)] rv85 (fun q => [(7, .A .item q)]) nE nE nE
def impl_loopStep_b_t (a0 a1 a2 : LI) : Tr LI Empty Empty Empty Empty :=
  .s (impl_loopStep_c1_S a0 a1 a2) (fun q24 => .s (impl_loopStep_c3_S a0 a2 q24) (fun q163 => .w [(p_impl_gathered q163), (p_impl_once (v_impl_gathered q163))] (.l (.r (v_impl_once (v_impl_gathered q163))))) nE nE nE) nE nE nE
def impl_loopStep_b := fun a0 a1 a2 => (impl_loopStep_b_t a0 a1 a2).val
def impl_loopStep_b_ob := fun a0 a1 a2 => (impl_loopStep_b_t a0 a1 a2).ob
def v_impl_loopStep (a0 : LI) (a1 : LI) (a2 : LI) : LI := ocR (impl_loopStep_b a0 a1 a2)
def p_impl_loopStep (a0 : LI) (a1 : LI) (a2 : LI) : Prop := impl_loopStep_b_ob a0 a1 a2
def impl_LoopStep_b_t (a0 a1 a2 : LI) : Tr LI Empty Empty Empty Empty :=
  .w [(p_impl_SetOk a0), (((!(!(v_impl_SetOk a0))) && true) = true → (p_impl_SetOk a1)), (((!(cond (!(v_impl_SetOk a0)) true (!(v_impl_SetOk a1)))) && true) = true → (p_impl_SetOk a2))] (.c (cond (cond (!(v_impl_SetOk a0)) true (!(v_impl_SetOk a1))) true (!(v_impl_SetOk a2)))
  (.l (.r []))
  (.w [(p_impl_loopStep a0 a1 a2)] (.l (.r (v_impl_loopStep a0 a1 a2)))))
def impl_LoopStep_b := fun a0 a1 a2 => (impl_LoopStep_b_t a0 a1 a2).val
def impl_LoopStep_b_ob := fun a0 a1 a2 => (impl_LoopStep_b_t a0 a1 a2).ob
def v_impl_LoopStep (a0 : LI) (a1 : LI) (a2 : LI) : LI := ocR (impl_LoopStep_b a0 a1 a2)
def p_impl_LoopStep (a0 : LI) (a1 : LI) (a2 : LI) : Prop := impl_LoopStep_b_ob a0 a1 a2
def sp_spec_l3Item : SP := [(93, s_spec_l6In)]
abbrev F96 : Fnn := ⟨[.tmp 2], .one .fr .bool, none, []⟩
abbrev rv96 : Bool → RV := fun q => (some (RT.av (.one .fr .bool) q), .dead)
abbrev Ok96 (fr : Fr) {A X Y Z : Type} (S : SubP Bool A X Y Z) : Prop := SubOk Try.prog tt ⟨Try.f96.ntmps, none, []⟩ fr (bodyOf Try.f96) F96 S
def spec_l3Item_b_t (a0 : Item) : Tr Bool Empty Empty Empty Empty :=
  .w [(p_spec_l6In a0.Key 0 3), (((v_spec_l6In a0.Key 0 3) && true) = true → (p_spec_l6In a0.Val 0 99))] (.l (.r (cond (cond (v_spec_l6In a0.Key 0 3) (v_spec_l6In a0.Val 0 99) false) (cmp .neq a0.Count 0) false)))
def spec_l3Item_b := fun a0 => (spec_l3Item_b_t a0).val
def spec_l3Item_b_ob := fun a0 => (spec_l3Item_b_t a0).ob
def spec_l3Item_b_S := fun a0 => SubP.mk (spec_l3Item_b a0) (spec_l3Item_b_ob a0) [] [(0, .agg true [.i a0.Key, .i a0.Val, .i a0.Count])] rv96 nE nE nE nE
theorem spec_l3Item_b_ok (G : Good Try.prog tt sp_spec_l3Item) {fr : Fr} : ∀ a0, Ok96 fr (spec_l3Item_b_S a0) :=
  fun a0 => run_ok G [] trivial [(0,[1]),(1,[2])] [] [] (spec_l3Item_b_t a0) rfl rfl (by kernel_rfl)
def v_spec_l3Item (a0 : Item) : Bool := ocR (spec_l3Item_b a0)
def p_spec_l3Item (a0 : Item) : Prop := spec_l3Item_b_ob a0
def s_spec_l3Item : Spec := ⟨[(.st .item)], .one .fr .bool, false, fun x => (v_spec_l3Item x.1, 0), fun x => p_spec_l3Item x.1⟩
theorem con_spec_l3Item (G : Good Try.prog tt sp_spec_l3Item) : Con Try.prog 96 s_spec_l3Item :=
  con_run (pts := [(.st .item)]) (rt := .one .fr .bool) (o := fun x => spec_l3Item_b x.1) (ob := fun x => spec_l3Item_b_ob x.1) G (fn := Try.f96) (c := bodyOf Try.f96) (by kernel_rfl) (by kernel_rfl) (by kernel_rfl) (rs := [.tmp 2]) (fz := F96.fz) (by kernel_rfl) (by kernel_rfl) (fun _ => rfl) rfl (fun x => spec_l3Item_b_S x.1) (fun _ => ⟨rfl, rfl, rfl, rfl, rfl⟩) (fun x _ => spec_l3Item_b_ok G x.1)
def sp_spec_l3Big : SP := []
abbrev F97 : Fnn := ⟨[.tmp 0], .one .fr (.int .i64), none, []⟩
abbrev rv97 : Int → RV := fun q => (some (RT.av (.one .fr (.int .i64)) q), .dead)
abbrev Ok97 (fr : Fr) {A X Y Z : Type} (S : SubP Int A X Y Z) : Prop := SubOk Try.prog tt ⟨Try.f97.ntmps, none, []⟩ fr (bodyOf Try.f97) F97 S
def spec_l3Big_b_t : Tr Int Empty Empty Empty Empty :=
  .l (.r 1099511627776)
def spec_l3Big_b := (spec_l3Big_b_t).val
def spec_l3Big_b_ob := (spec_l3Big_b_t).ob
def spec_l3Big_b_S := SubP.mk (spec_l3Big_b) (spec_l3Big_b_ob) [] [] rv97 nE nE nE nE
theorem spec_l3Big_b_ok (G : Good Try.prog tt sp_spec_l3Big) {fr : Fr} : Ok97 fr (spec_l3Big_b_S) :=
  run_ok G [] trivial [(0,[]),(1,[0])] [] [] (spec_l3Big_b_t) rfl rfl (by kernel_rfl)
def v_spec_l3Big  : Int := ocR (spec_l3Big_b)
def p_spec_l3Big  : Prop := spec_l3Big_b_ob
def s_spec_l3Big : Spec := ⟨[], .one .fr (.int .i64), false, fun _ => (v_spec_l3Big, 0), fun _ => p_spec_l3Big⟩
theorem con_spec_l3Big (G : Good Try.prog tt sp_spec_l3Big) : Con Try.prog 97 s_spec_l3Big :=
  con_run (pts := []) (rt := .one .fr (.int .i64)) (o := fun _ => spec_l3Big_b) (ob := fun _ => spec_l3Big_b_ob) G (fn := Try.f97) (c := bodyOf Try.f97) (by kernel_rfl) (by kernel_rfl) (by kernel_rfl) (rs := [.tmp 0]) (fz := F97.fz) (by kernel_rfl) (by kernel_rfl) (fun _ => rfl) rfl (fun _ => spec_l3Big_b_S) (fun _ => ⟨rfl, rfl, rfl, rfl, rfl⟩) (fun _ _ => spec_l3Big_b_ok G)
def sp_spec_SetOk : SP := [(96, s_spec_l3Item), (97, s_spec_l3Big), (93, s_spec_l6In)]
abbrev F46 : Fnn := ⟨[.tmp 2], .one .fr .bool, none, []⟩
abbrev rv46 : Bool → RV := fun q => (some (RT.av (.one .fr .bool) q), .dead)
abbrev Ok46 (fr : Fr) {A X Y Z : Type} (S : SubP Bool A X Y Z) : Prop := SubOk Try.prog tt ⟨Try.f46.ntmps, none, []⟩ fr (bodyOf Try.f46) F46 S
def spec_SetOk_c2_r_t (x3 : LI) (s7 : Int) : Tr Bool Int Unit Empty Empty :=
  .c (cmp .lss s7 (lenI .item x3))
  (.w [inb s7 (lenI .item x3), (p_spec_l3Item (rd .item x3 s7)), (((!(!(v_spec_l3Item (rd .item x3 s7)))) && true) = true → inb s7 (lenI .item x3)), (((!(!(v_spec_l3Item (rd .item x3 s7)))) && true) = true → p_spec_l3Big), (((!(!(v_spec_l3Item (rd .item x3 s7)))) && true) = true → p_spec_l3Big), (((!(!(v_spec_l3Item (rd .item x3 s7)))) && true) = true → (p_spec_l6In (rd .item x3 s7).Count (IntKind.wrap .i64 (0 - v_spec_l3Big)) v_spec_l3Big)), (((cmp .gtr s7 0) && ((!(cond (!(v_spec_l3Item (rd .item x3 s7))) true (!(v_spec_l6In (rd .item x3 s7).Count (IntKind.wrap .i64 (0 - v_spec_l3Big)) v_spec_l3Big)))) && true)) = true → inb (ar .sub .i64 s7 1) (lenI .item x3)), (((cmp .gtr s7 0) && ((!(cond (!(v_spec_l3Item (rd .item x3 s7))) true (!(v_spec_l6In (rd .item x3 s7).Count (IntKind.wrap .i64 (0 - v_spec_l3Big)) v_spec_l3Big)))) && true)) = true → inb s7 (lenI .item x3)), (((!(cmp .gtr (rd .item x3 (ar .sub .i64 s7 1)).Key (rd .item x3 s7).Key)) && ((cmp .gtr s7 0) && ((!(cond (!(v_spec_l3Item (rd .item x3 s7))) true (!(v_spec_l6In (rd .item x3 s7).Count (IntKind.wrap .i64 (0 - v_spec_l3Big)) v_spec_l3Big)))) && true))) = true → inb (ar .sub .i64 s7 1) (lenI .item x3)), (((!(cmp .gtr (rd .item x3 (ar .sub .i64 s7 1)).Key (rd .item x3 s7).Key)) && ((cmp .gtr s7 0) && ((!(cond (!(v_spec_l3Item (rd .item x3 s7))) true (!(v_spec_l6In (rd .item x3 s7).Count (IntKind.wrap .i64 (0 - v_spec_l3Big)) v_spec_l3Big)))) && true))) = true → inb s7 (lenI .item x3)), (((cmp .eql (rd .item x3 (ar .sub .i64 s7 1)).Key (rd .item x3 s7).Key) && ((!(cmp .gtr (rd .item x3 (ar .sub .i64 s7 1)).Key (rd .item x3 s7).Key)) && ((cmp .gtr s7 0) && ((!(cond (!(v_spec_l3Item (rd .item x3 s7))) true (!(v_spec_l6In (rd .item x3 s7).Count (IntKind.wrap .i64 (0 - v_spec_l3Big)) v_spec_l3Big)))) && true)))) = true → inb (ar .sub .i64 s7 1) (lenI .item x3)), (((cmp .eql (rd .item x3 (ar .sub .i64 s7 1)).Key (rd .item x3 s7).Key) && ((!(cmp .gtr (rd .item x3 (ar .sub .i64 s7 1)).Key (rd .item x3 s7).Key)) && ((cmp .gtr s7 0) && ((!(cond (!(v_spec_l3Item (rd .item x3 s7))) true (!(v_spec_l6In (rd .item x3 s7).Count (IntKind.wrap .i64 (0 - v_spec_l3Big)) v_spec_l3Big)))) && true)))) = true → inb s7 (lenI .item x3))] (.c (cond (cond (!(v_spec_l3Item (rd .item x3 s7))) true (!(v_spec_l6In (rd .item x3 s7).Count (IntKind.wrap .i64 (0 - v_spec_l3Big)) v_spec_l3Big))) true (cond (cmp .gtr s7 0) (cond (cmp .gtr (rd .item x3 (ar .sub .i64 s7 1)).Key (rd .item x3 s7).Key) true (cond (cmp .eql (rd .item x3 (ar .sub .i64 s7 1)).Key (rd .item x3 s7).Key) (cmp .geq (rd .item x3 (ar .sub .i64 s7 1)).Val (rd .item x3 s7).Val) false)) false))
  (.l (.r false))
  (.l (.n (ar .add .i64 s7 1)))))
  (.l (.x ()))
def spec_SetOk_c2_r := fun x3 s7 => (spec_SetOk_c2_r_t x3 s7).val
def spec_SetOk_c2_r_ob := fun x3 s7 => (spec_SetOk_c2_r_t x3 s7).ob
def spec_SetOk_c2_r_S := fun x3 s7 => mkRd (spec_SetOk_c2_r x3 s7) (spec_SetOk_c2_r_ob x3 s7) [0,0,1,0,1,1] (fun q => [(0, .S .item x3), (3, .I q)]) s7 rv46 (fun _ => (0, [])) nE nE
theorem spec_SetOk_c2_r_ok (G : Good Try.prog tt sp_spec_SetOk) {fr : Fr} : ∀ x3 s7, Ok46 fr (spec_SetOk_c2_r_S x3 s7) :=
  fun x3 s7 => run_ok G [] trivial [(4,[0,3,10]),(5,[0,3]),(6,[0,3,76]),(7,[2])] [] [] (spec_SetOk_c2_r_t x3 s7) rfl rfl (by kernel_rfl)
def spec_SetOk_c2 := fun x3 => lpV (fun s : Int => ocLp (spec_SetOk_c2_r x3 s)) 0
def spec_SetOk_c2_ob := fun x3 => LpT (fun s : Int => ocLp (spec_SetOk_c2_r x3 s)) (fun s => spec_SetOk_c2_r_ob x3 s) 0
def spec_SetOk_c2_S := fun x3 => lpS (spec_SetOk_c2_r_S x3 0) (spec_SetOk_c2 x3) (spec_SetOk_c2_ob x3)
theorem spec_SetOk_c2_ok (G : Good Try.prog tt sp_spec_SetOk) {fr : Fr} : ∀ x3, Ok46 fr (spec_SetOk_c2_S x3) :=
  fun x3 => loop_ok (fun s : Int => spec_SetOk_c2_r_S x3 s) 0 (fun _ => rfl) (fun _ => ⟨rfl, rfl, rfl, rfl, rfl⟩) (by kernel_rfl) fun _ => spec_SetOk_c2_r_ok G _ _
def spec_SetOk_c1_t (x2 : LI) : Tr Bool Unit Empty Empty Empty :=
  .s (spec_SetOk_c2_S x2) nE (fun _ => .l (.n ())) nE nE
def spec_SetOk_c1 := fun x2 => (spec_SetOk_c1_t x2).val
def spec_SetOk_c1_ob := fun x2 => (spec_SetOk_c1_t x2).ob
def spec_SetOk_c1_S := fun x2 => SubP.mk (spec_SetOk_c1 x2) (spec_SetOk_c1_ob x2) [0,1,1] [(0, .S .item x2)] rv46 (fun _ => []) nE nE nE
theorem spec_SetOk_c1_ok (G : Good Try.prog tt sp_spec_SetOk) {fr : Fr} : ∀ x2, Ok46 fr (spec_SetOk_c1_S x2) :=
  fun x2 => run_ok G [([0,1,0,1,1], fun e => ⟨spec_SetOk_c2_S (gL .item e 0 0)⟩)] ⟨fun _ => ⟨rfl, spec_SetOk_c2_ok G _⟩, trivial⟩ [(3,[0,3])] [] [] (spec_SetOk_c1_t x2) rfl rfl (by kernel_rfl)
def spec_SetOk_b_t (a0 : LI) : Tr Bool Empty Empty Empty Empty :=
  .c (cmp .gtr (lenI .item a0) 400)
  (.l (.r false))
  (.s (spec_SetOk_c1_S a0) (fun _ => .l (.r true)) nE nE nE)
def spec_SetOk_b := fun a0 => (spec_SetOk_b_t a0).val
def spec_SetOk_b_ob := fun a0 => (spec_SetOk_b_t a0).ob
def spec_SetOk_b_S := fun a0 => SubP.mk (spec_SetOk_b a0) (spec_SetOk_b_ob a0) [] [(0, .S .item a0)] rv46 nE nE nE nE
theorem spec_SetOk_b_ok (G : Good Try.prog tt sp_spec_SetOk) {fr : Fr} : ∀ a0, Ok46 fr (spec_SetOk_b_S a0) :=
  fun a0 => run_ok G [([0,1,1], fun e => ⟨spec_SetOk_c1_S (gL .item e 0 0)⟩)] ⟨fun _ => ⟨rfl, spec_SetOk_c1_ok G _⟩, trivial⟩ [(0,[0]),(1,[0,6]),(2,[2]),(8,[2])] [] [] (spec_SetOk_b_t a0) rfl rfl (by kernel_rfl)
def v_spec_SetOk (a0 : LI) : Bool := ocR (spec_SetOk_b a0)
def p_spec_SetOk (a0 : LI) : Prop := spec_SetOk_b_ob a0
def s_spec_SetOk : Spec := ⟨[(.lst .item)], .one .fr .bool, false, fun x => (v_spec_SetOk x.1, 0), fun x => p_spec_SetOk x.1⟩
theorem con_spec_SetOk (G : Good Try.prog tt sp_spec_SetOk) : Con Try.prog 46 s_spec_SetOk :=
  con_run (pts := [(.lst .item)]) (rt := .one .fr .bool) (o := fun x => spec_SetOk_b x.1) (ob := fun x => spec_SetOk_b_ob x.1) G (fn := Try.f46) (c := bodyOf Try.f46) (by kernel_rfl) (by kernel_rfl) (by kernel_rfl) (rs := [.tmp 2]) (fz := F46.fz) (by kernel_rfl) (by kernel_rfl) (fun _ => rfl) rfl (fun x => spec_SetOk_b_S x.1) (fun _ => ⟨rfl, rfl, rfl, rfl, rfl⟩) (fun x _ => spec_SetOk_b_ok G x.1)
def sp_spec_l22Keys : SP := []
abbrev F82 : Fnn := ⟨[.tmp 2], .one (.acc true) (.lst .item), none, []⟩
abbrev rv82 : LI → RV := fun q => (some (RT.av (.one (.acc true) (.lst .item)) q), .dead)
abbrev Ok82 (fr : Fr) {A X Y Z : Type} (S : SubP LI A X Y Z) : Prop := SubOk Try.prog tt ⟨Try.f82.ntmps, none, []⟩ fr (bodyOf Try.f82) F82 S
def spec_l22Keys_c2_r_t (x2 s6 : LI) (s7 : Int) : Tr LI (LI × Int) LI Empty Empty :=
  .c (cmp .lss s7 (lenI .item x2))
  (.w [inb s7 (lenI .item x2), inb s7 (lenI .item x2), lim (lenI .item s6) (lenI .item [(Item.mk (rd .item x2 s7).Key 0 (rd .item x2 s7).Count)])] (.l (.n ((s6 ++ [(Item.mk (rd .item x2 s7).Key 0 (rd .item x2 s7).Count)]), (ar .add .i64 s7 1)))))
  (.l (.x s6))
def spec_l22Keys_c2_r := fun x2 s6 s7 => (spec_l22Keys_c2_r_t x2 s6 s7).val
def spec_l22Keys_c2_r_ob := fun x2 s6 s7 => (spec_l22Keys_c2_r_t x2 s6 s7).ob
def spec_l22Keys_c2_r_S := fun x2 s6 s7 => mkRd (spec_l22Keys_c2_r x2 s6 s7) (spec_l22Keys_c2_r_ob x2 s6 s7) [0,0,1,0,1,1] (fun q => [(0, .S .item x2), (3, .A .item q.1), (4, .I q.2)]) (s6, s7) rv82 (fun q => (0, [(3, .A .item q)])) nE nE
theorem spec_l22Keys_c2_r_ok (G : Good Try.prog tt sp_spec_l22Keys) {fr : Fr} : ∀ x2 s6 s7, Ok82 fr (spec_l22Keys_c2_r_S x2 s6 s7) :=
  fun x2 s6 s7 => run_ok G [] trivial [(3,[0,3,4,9]),(4,[0,3,4]),(5,[0,3,4])] [] [] (spec_l22Keys_c2_r_t x2 s6 s7) rfl rfl (by kernel_rfl)
def spec_l22Keys_c2 := fun x2 => lpV (fun s : LI × Int => ocLp (spec_l22Keys_c2_r x2 s.1 s.2)) ([], 0)
def spec_l22Keys_c2_ob := fun x2 => LpT (fun s : LI × Int => ocLp (spec_l22Keys_c2_r x2 s.1 s.2)) (fun s => spec_l22Keys_c2_r_ob x2 s.1 s.2) ([], 0)
def spec_l22Keys_c2_S := fun x2 => lpS (spec_l22Keys_c2_r_S x2 [] 0) (spec_l22Keys_c2 x2) (spec_l22Keys_c2_ob x2)
theorem spec_l22Keys_c2_ok (G : Good Try.prog tt sp_spec_l22Keys) {fr : Fr} : ∀ x2, Ok82 fr (spec_l22Keys_c2_S x2) :=
  fun x2 => loop_ok (fun s : LI × Int => spec_l22Keys_c2_r_S x2 s.1 s.2) ([], 0) (fun _ => rfl) (fun _ => ⟨rfl, rfl, rfl, rfl, rfl⟩) (by kernel_rfl) fun _ => spec_l22Keys_c2_r_ok G _ _ _
def spec_l22Keys_c1_t (x1 : LI) : Tr LI LI Empty Empty Empty :=
  .s (spec_l22Keys_c2_S x1) nE (fun q16 => .l (.n q16)) nE nE
def spec_l22Keys_c1 := fun x1 => (spec_l22Keys_c1_t x1).val
def spec_l22Keys_c1_ob := fun x1 => (spec_l22Keys_c1_t x1).ob
def spec_l22Keys_c1_S := fun x1 => SubP.mk (spec_l22Keys_c1 x1) (spec_l22Keys_c1_ob x1) [0,1,1] [(0, .S .item x1), (3, .A .item [])] rv82 (fun q => [(3, .A .item q)]) nE nE nE
theorem spec_l22Keys_c1_ok (G : Good Try.prog tt sp_spec_l22Keys) {fr : Fr} : ∀ x1, Ok82 fr (spec_l22Keys_c1_S x1) :=
  fun x1 => run_ok G [([0,1,0,1,1], fun e => ⟨spec_l22Keys_c2_S (gL .item e 0 0)⟩)] ⟨fun _ => ⟨rfl, spec_l22Keys_c2_ok G _⟩, trivial⟩ [(2,[0,3,4])] [] [] (spec_l22Keys_c1_t x1) rfl rfl (by kernel_rfl)
def spec_l22Keys_b_t (a0 : LI) : Tr LI Empty Empty Empty Empty :=
  .s (spec_l22Keys_c1_S a0) (fun q19 => .l (.r q19)) nE nE nE
def spec_l22Keys_b := fun a0 => (spec_l22Keys_b_t a0).val
def spec_l22Keys_b_ob := fun a0 => (spec_l22Keys_b_t a0).ob
def spec_l22Keys_b_S := fun a0 => SubP.mk (spec_l22Keys_b a0) (spec_l22Keys_b_ob a0) [] [(0, .S .item a0)] rv82 nE nE nE nE
theorem spec_l22Keys_b_ok (G : Good Try.prog tt sp_spec_l22Keys) {fr : Fr} : ∀ a0, Ok82 fr (spec_l22Keys_b_S a0) :=
  fun a0 => run_ok G [([0,1,1], fun e => ⟨spec_l22Keys_c1_S (gL .item e 0 0)⟩)] ⟨fun _ => ⟨rfl, spec_l22Keys_c1_ok G _⟩, trivial⟩ [(0,[0]),(1,[0,3]),(6,[2])] [] [] (spec_l22Keys_b_t a0) rfl rfl (by kernel_rfl)
def v_spec_l22Keys (a0 : LI) : LI := ocR (spec_l22Keys_b a0)
def p_spec_l22Keys (a0 : LI) : Prop := spec_l22Keys_b_ob a0
def s_spec_l22Keys : Spec := ⟨[(.lst .item)], .one (.acc true) (.lst .item), false, fun x => (v_spec_l22Keys x.1, 0), fun x => p_spec_l22Keys x.1⟩
theorem con_spec_l22Keys (G : Good Try.prog tt sp_spec_l22Keys) : Con Try.prog 82 s_spec_l22Keys :=
  con_run (pts := [(.lst .item)]) (rt := .one (.acc true) (.lst .item)) (o := fun x => spec_l22Keys_b x.1) (ob := fun x => spec_l22Keys_b_ob x.1) G (fn := Try.f82) (c := bodyOf Try.f82) (by kernel_rfl) (by kernel_rfl) (by kernel_rfl) (rs := [.tmp 2]) (fz := F82.fz) (by kernel_rfl) (by kernel_rfl) (fun _ => rfl) rfl (fun x => spec_l22Keys_b_S x.1) (fun _ => ⟨rfl, rfl, rfl, rfl, rfl⟩) (fun x _ => spec_l22Keys_b_ok G x.1)
def sp_spec_l22Lead : SP := []
abbrev F83 : Fnn := ⟨[.tmp 4], .one (.acc true) (.lst .item), none, []⟩
abbrev rv83 : LI → RV := fun q => (some (RT.av (.one (.acc true) (.lst .item)) q), .dead)
abbrev Ok83 (fr : Fr) {A X Y Z : Type} (S : SubP LI A X Y Z) : Prop := SubOk Try.prog tt ⟨Try.f83.ntmps, none, []⟩ fr (bodyOf Try.f83) F83 S
def spec_l22Lead_c5_t (x77 x78 x79 : LI) (x80 x81 : Int) : Tr LI LI Empty Empty Empty :=
  .w [inb x80 (lenI .item x77), inb x81 (lenI .item x78)] (.c (cmp .eql (rd .item x77 x80).Key (rd .item x78 x81).Key)
  (.w [inb x80 (lenI .item x77), (4 : Int) ≠ 0, inb x80 (lenI .item x77), inb x81 (lenI .item x78), lim (lenI .item x79) (lenI .item [(Item.mk (ar .rem .i64 (rd .item x77 x80).Val 4) 0 (ar .mul .i64 (rd .item x77 x80).Count (rd .item x78 x81).Count))])] (.l (.n (x79 ++ [(Item.mk (ar .rem .i64 (rd .item x77 x80).Val 4) 0 (ar .mul .i64 (rd .item x77 x80).Count (rd .item x78 x81).Count))]))))
  (.l (.n x79)))
def spec_l22Lead_c5 := fun x77 x78 x79 x80 x81 => (spec_l22Lead_c5_t x77 x78 x79 x80 x81).val
def spec_l22Lead_c5_ob := fun x77 x78 x79 x80 x81 => (spec_l22Lead_c5_t x77 x78 x79 x80 x81).ob
def spec_l22Lead_c5_S := fun x77 x78 x79 x80 x81 => SubP.mk (spec_l22Lead_c5 x77 x78 x79 x80 x81) (spec_l22Lead_c5_ob x77 x78 x79 x80 x81) [0,1,0,0,1,0,0,1,0,0,1,0,1,1] [(0, .S .item x77), (1, .S .item x78), (5, .A .item x79), (6, .I x80), (7, .I x81)] rv83 (fun q => [(0, .S .item x77), (1, .S .item x78), (5, .A .item q), (6, .I x80), (7, .I x81)]) nE nE nE
theorem spec_l22Lead_c5_ok (G : Good Try.prog tt sp_spec_l22Lead) {fr : Fr} : ∀ x77 x78 x79 x80 x81, Ok83 fr (spec_l22Lead_c5_S x77 x78 x79 x80 x81) :=
  fun x77 x78 x79 x80 x81 => run_ok G [] trivial [(8,[0,1,5,6,7,31]),(9,[0,1,5,6,7])] [] [] (spec_l22Lead_c5_t x77 x78 x79 x80 x81) rfl rfl (by kernel_rfl)
def spec_l22Lead_c4_r_t (x57 x58 _x59 : LI) (x60 : Int) (s74 : LI) (s75 : Int) : Tr LI (LI × Int) LI Empty Empty :=
  .c (cmp .lss s75 (lenI .item x58))
  (.s (spec_l22Lead_c5_S x57 x58 s74 x60 s75) (fun q84 => .l (.n (q84, (ar .add .i64 s75 1)))) nE nE nE)
  (.l (.x s74))
def spec_l22Lead_c4_r := fun x57 x58 x59 x60 s74 s75 => (spec_l22Lead_c4_r_t x57 x58 x59 x60 s74 s75).val
def spec_l22Lead_c4_r_ob := fun x57 x58 x59 x60 s74 s75 => (spec_l22Lead_c4_r_t x57 x58 x59 x60 s74 s75).ob
def spec_l22Lead_c4_r_S := fun x57 x58 x59 x60 s74 s75 => mkRd (spec_l22Lead_c4_r x57 x58 x59 x60 s74 s75) (spec_l22Lead_c4_r_ob x57 x58 x59 x60 s74 s75) [0,0,1,0,0,1,0,0,1,0,1,1] (fun q => [(0, .S .item x57), (1, .S .item x58), (5, .A .item q.1), (6, .I x60), (7, .I q.2)]) (s74, s75) rv83 (fun q => (2, [(0, .S .item x57), (1, .S .item x58), (5, .A .item q), (6, .I x60)])) nE nE
theorem spec_l22Lead_c4_r_ok (G : Good Try.prog tt sp_spec_l22Lead) {fr : Fr} : ∀ x57 x58 x59 x60 s74 s75, Ok83 fr (spec_l22Lead_c4_r_S x57 x58 x59 x60 s74 s75) :=
  fun x57 x58 x59 x60 s74 s75 => run_ok G [([0,1,0,0,1,0,0,1,0,0,1,0,1,1], fun e => ⟨spec_l22Lead_c5_S (gL .item e 0 0) (gL .item e 1 0) (gL .item e 5 0) (gI e 6 0) (gI e 7 0)⟩)] ⟨fun _ => ⟨rfl, spec_l22Lead_c5_ok G _ _ _ _ _⟩, trivial⟩ [(6,[0,1,5,6,7,18]),(7,[0,1,5,6,7])] [] [] (spec_l22Lead_c4_r_t x57 x58 x59 x60 s74 s75) rfl rfl (by kernel_rfl)
def spec_l22Lead_c4 := fun x57 x58 x59 x60 => lpV (fun s : LI × Int => ocLp (spec_l22Lead_c4_r x57 x58 x59 x60 s.1 s.2)) (x59, 0)
def spec_l22Lead_c4_ob := fun x57 x58 x59 x60 => LpT (fun s : LI × Int => ocLp (spec_l22Lead_c4_r x57 x58 x59 x60 s.1 s.2)) (fun s => spec_l22Lead_c4_r_ob x57 x58 x59 x60 s.1 s.2) (x59, 0)
def spec_l22Lead_c4_S := fun x57 x58 x59 x60 => lpS (spec_l22Lead_c4_r_S x57 x58 x59 x60 x59 0) (spec_l22Lead_c4 x57 x58 x59 x60) (spec_l22Lead_c4_ob x57 x58 x59 x60)
theorem spec_l22Lead_c4_ok (G : Good Try.prog tt sp_spec_l22Lead) {fr : Fr} : ∀ x57 x58 x59 x60, Ok83 fr (spec_l22Lead_c4_S x57 x58 x59 x60) :=
  fun x57 x58 x59 x60 => loop_ok (fun s : LI × Int => spec_l22Lead_c4_r_S x57 x58 x59 x60 s.1 s.2) (x59, 0) (fun _ => rfl) (fun _ => ⟨rfl, rfl, rfl, rfl, rfl⟩) (by kernel_rfl) fun _ => spec_l22Lead_c4_r_ok G _ _ _ _ _ _
def spec_l22Lead_c3_t (x53 x54 x55 : LI) (x56 : Int) : Tr LI LI Empty Empty Empty :=
  .s (spec_l22Lead_c4_S x53 x54 x55 x56) nE (fun q95 => .l (.n q95)) nE nE
def spec_l22Lead_c3 := fun x53 x54 x55 x56 => (spec_l22Lead_c3_t x53 x54 x55 x56).val
def spec_l22Lead_c3_ob := fun x53 x54 x55 x56 => (spec_l22Lead_c3_t x53 x54 x55 x56).ob
def spec_l22Lead_c3_S := fun x53 x54 x55 x56 => SubP.mk (spec_l22Lead_c3 x53 x54 x55 x56) (spec_l22Lead_c3_ob x53 x54 x55 x56) [0,1,0,0,1,0,1,1] [(0, .S .item x53), (1, .S .item x54), (5, .A .item x55), (6, .I x56)] rv83 (fun q => [(0, .S .item x53), (1, .S .item x54), (5, .A .item q), (6, .I x56)]) nE nE nE
theorem spec_l22Lead_c3_ok (G : Good Try.prog tt sp_spec_l22Lead) {fr : Fr} : ∀ x53 x54 x55 x56, Ok83 fr (spec_l22Lead_c3_S x53 x54 x55 x56) :=
  fun x53 x54 x55 x56 => run_ok G [([0,1,0,0,1,0,0,1,0,1,1], fun e => ⟨spec_l22Lead_c4_S (gL .item e 0 0) (gL .item e 1 0) (gL .item e 5 0) (gI e 6 0)⟩)] ⟨fun _ => ⟨rfl, spec_l22Lead_c4_ok G _ _ _ _⟩, trivial⟩ [(5,[0,1,5,6,7])] [] [] (spec_l22Lead_c3_t x53 x54 x55 x56) rfl rfl (by kernel_rfl)
def spec_l22Lead_c2_r_t (x3 x4 s50 : LI) (s51 : Int) : Tr LI (LI × Int) LI Empty Empty :=
  .c (cmp .lss s51 (lenI .item x3))
  (.s (spec_l22Lead_c3_S x3 x4 s50 s51) (fun q98 => .l (.n (q98, (ar .add .i64 s51 1)))) nE nE nE)
  (.l (.x s50))
def spec_l22Lead_c2_r := fun x3 x4 s50 s51 => (spec_l22Lead_c2_r_t x3 x4 s50 s51).val
def spec_l22Lead_c2_r_ob := fun x3 x4 s50 s51 => (spec_l22Lead_c2_r_t x3 x4 s50 s51).ob
def spec_l22Lead_c2_r_S := fun x3 x4 s50 s51 => mkRd (spec_l22Lead_c2_r x3 x4 s50 s51) (spec_l22Lead_c2_r_ob x3 x4 s50 s51) [0,0,1,0,1,1] (fun q => [(0, .S .item x3), (1, .S .item x4), (5, .A .item q.1), (6, .I q.2)]) (s50, s51) rv83 (fun q => (0, [(5, .A .item q)])) nE nE
theorem spec_l22Lead_c2_r_ok (G : Good Try.prog tt sp_spec_l22Lead) {fr : Fr} : ∀ x3 x4 s50 s51, Ok83 fr (spec_l22Lead_c2_r_S x3 x4 s50 s51) :=
  fun x3 x4 s50 s51 => run_ok G [([0,1,0,0,1,0,1,1], fun e => ⟨spec_l22Lead_c3_S (gL .item e 0 0) (gL .item e 1 0) (gL .item e 5 0) (gI e 6 0)⟩)] ⟨fun _ => ⟨rfl, spec_l22Lead_c3_ok G _ _ _ _⟩, trivial⟩ [(3,[0,1,5,6,12]),(4,[0,1,5,6])] [] [] (spec_l22Lead_c2_r_t x3 x4 s50 s51) rfl rfl (by kernel_rfl)
def spec_l22Lead_c2 := fun x3 x4 => lpV (fun s : LI × Int => ocLp (spec_l22Lead_c2_r x3 x4 s.1 s.2)) ([], 0)
def spec_l22Lead_c2_ob := fun x3 x4 => LpT (fun s : LI × Int => ocLp (spec_l22Lead_c2_r x3 x4 s.1 s.2)) (fun s => spec_l22Lead_c2_r_ob x3 x4 s.1 s.2) ([], 0)
def spec_l22Lead_c2_S := fun x3 x4 => lpS (spec_l22Lead_c2_r_S x3 x4 [] 0) (spec_l22Lead_c2 x3 x4) (spec_l22Lead_c2_ob x3 x4)
theorem spec_l22Lead_c2_ok (G : Good Try.prog tt sp_spec_l22Lead) {fr : Fr} : ∀ x3 x4, Ok83 fr (spec_l22Lead_c2_S x3 x4) :=
  fun x3 x4 => loop_ok (fun s : LI × Int => spec_l22Lead_c2_r_S x3 x4 s.1 s.2) ([], 0) (fun _ => rfl) (fun _ => ⟨rfl, rfl, rfl, rfl, rfl⟩) (by kernel_rfl) fun _ => spec_l22Lead_c2_r_ok G _ _ _ _
def spec_l22Lead_c1_t (x1 x2 : LI) : Tr LI LI Empty Empty Empty :=
  .s (spec_l22Lead_c2_S x1 x2) nE (fun q109 => .l (.n q109)) nE nE
def spec_l22Lead_c1 := fun x1 x2 => (spec_l22Lead_c1_t x1 x2).val
def spec_l22Lead_c1_ob := fun x1 x2 => (spec_l22Lead_c1_t x1 x2).ob
def spec_l22Lead_c1_S := fun x1 x2 => SubP.mk (spec_l22Lead_c1 x1 x2) (spec_l22Lead_c1_ob x1 x2) [0,1,1] [(0, .S .item x1), (1, .S .item x2), (5, .A .item [])] rv83 (fun q => [(5, .A .item q)]) nE nE nE
theorem spec_l22Lead_c1_ok (G : Good Try.prog tt sp_spec_l22Lead) {fr : Fr} : ∀ x1 x2, Ok83 fr (spec_l22Lead_c1_S x1 x2) :=
  fun x1 x2 => run_ok G [([0,1,0,1,1], fun e => ⟨spec_l22Lead_c2_S (gL .item e 0 0) (gL .item e 1 0)⟩)] ⟨fun _ => ⟨rfl, spec_l22Lead_c2_ok G _ _⟩, trivial⟩ [(2,[0,1,5,6])] [] [] (spec_l22Lead_c1_t x1 x2) rfl rfl (by kernel_rfl)
def spec_l22Lead_b_t (a0 a1 : LI) : Tr LI Empty Empty Empty Empty :=
  .s (spec_l22Lead_c1_S a0 a1) (fun q112 => .l (.r q112)) nE nE nE
def spec_l22Lead_b := fun a0 a1 => (spec_l22Lead_b_t a0 a1).val
def spec_l22Lead_b_ob := fun a0 a1 => (spec_l22Lead_b_t a0 a1).ob
def spec_l22Lead_b_S := fun a0 a1 => SubP.mk (spec_l22Lead_b a0 a1) (spec_l22Lead_b_ob a0 a1) [] [(0, .S .item a0), (1, .S .item a1)] rv83 nE nE nE nE
theorem spec_l22Lead_b_ok (G : Good Try.prog tt sp_spec_l22Lead) {fr : Fr} : ∀ a0 a1, Ok83 fr (spec_l22Lead_b_S a0 a1) :=
  fun a0 a1 => run_ok G [([0,1,1], fun e => ⟨spec_l22Lead_c1_S (gL .item e 0 0) (gL .item e 1 0)⟩)] ⟨fun _ => ⟨rfl, spec_l22Lead_c1_ok G _ _⟩, trivial⟩ [(0,[0,1]),(1,[0,1,5]),(10,[4])] [] [] (spec_l22Lead_b_t a0 a1) rfl rfl (by kernel_rfl)
def v_spec_l22Lead (a0 : LI) (a1 : LI) : LI := ocR (spec_l22Lead_b a0 a1)
def p_spec_l22Lead (a0 : LI) (a1 : LI) : Prop := spec_l22Lead_b_ob a0 a1
def s_spec_l22Lead : Spec := ⟨[(.lst .item), (.lst .item)], .one (.acc true) (.lst .item), false, fun x => (v_spec_l22Lead x.1 x.2.1, 0), fun x => p_spec_l22Lead x.1 x.2.1⟩
theorem con_spec_l22Lead (G : Good Try.prog tt sp_spec_l22Lead) : Con Try.prog 83 s_spec_l22Lead :=
  con_run (pts := [(.lst .item), (.lst .item)]) (rt := .one (.acc true) (.lst .item)) (o := fun x => spec_l22Lead_b x.1 x.2.1) (ob := fun x => spec_l22Lead_b_ob x.1 x.2.1) G (fn := Try.f83) (c := bodyOf Try.f83) (by kernel_rfl) (by kernel_rfl) (by kernel_rfl) (rs := [.tmp 4]) (fz := F83.fz) (by kernel_rfl) (by kernel_rfl) (fun _ => rfl) rfl (fun x => spec_l22Lead_b_S x.1 x.2.1) (fun _ => ⟨rfl, rfl, rfl, rfl, rfl⟩) (fun x _ => spec_l22Lead_b_ok G x.1 x.2.1)
def sp_spec_l3Count : SP := []
abbrev F156 : Fnn := ⟨[.tmp 2], .one .fr (.int .i64), none, []⟩
abbrev rv156 : Int → RV := fun q => (some (RT.av (.one .fr (.int .i64)) q), .dead)
abbrev Ok156 (fr : Fr) {A X Y Z : Type} (S : SubP Int A X Y Z) : Prop := SubOk Try.prog tt ⟨Try.f156.ntmps, none, []⟩ fr (bodyOf Try.f156) F156 S
def spec_l3Count_b_t (a0 : Int) : Tr Int Empty Empty Empty Empty :=
  .w [(100 : Int) ≠ 0, (100 : Int) ≠ 0] (.l (.r (ar .rem .i64 (ar .add .i64 (ar .rem .i64 a0 100) 100) 100)))
def spec_l3Count_b := fun a0 => (spec_l3Count_b_t a0).val
def spec_l3Count_b_ob := fun a0 => (spec_l3Count_b_t a0).ob
def spec_l3Count_b_S := fun a0 => SubP.mk (spec_l3Count_b a0) (spec_l3Count_b_ob a0) [] [(0, .I a0)] rv156 nE nE nE nE
theorem spec_l3Count_b_ok (G : Good Try.prog tt sp_spec_l3Count) {fr : Fr} : ∀ a0, Ok156 fr (spec_l3Count_b_S a0) :=
  fun a0 => run_ok G [] trivial [(0,[0]),(1,[2])] [] [] (spec_l3Count_b_t a0) rfl rfl (by kernel_rfl)
def v_spec_l3Count (a0 : Int) : Int := ocR (spec_l3Count_b a0)
def p_spec_l3Count (a0 : Int) : Prop := spec_l3Count_b_ob a0
def s_spec_l3Count : Spec := ⟨[(.int .i64)], .one .fr (.int .i64), false, fun x => (v_spec_l3Count x.1, 0), fun x => p_spec_l3Count x.1⟩
theorem con_spec_l3Count (G : Good Try.prog tt sp_spec_l3Count) : Con Try.prog 156 s_spec_l3Count :=
  con_run (pts := [(.int .i64)]) (rt := .one .fr (.int .i64)) (o := fun x => spec_l3Count_b x.1) (ob := fun x => spec_l3Count_b_ob x.1) G (fn := Try.f156) (c := bodyOf Try.f156) (by kernel_rfl) (by kernel_rfl) (by kernel_rfl) (rs := [.tmp 2]) (fz := F156.fz) (by kernel_rfl) (by kernel_rfl) (fun _ => rfl) rfl (fun x => spec_l3Count_b_S x.1) (fun _ => ⟨rfl, rfl, rfl, rfl, rfl⟩) (fun x _ => spec_l3Count_b_ok G x.1)
def sp_spec_l3Key : SP := [(156, s_spec_l3Count)]
abbrev F142 : Fnn := ⟨[.tmp 6], .one (.acc true) (.lst .item), none, []⟩
abbrev rv142 : LI → RV := fun q => (some (RT.av (.one (.acc true) (.lst .item)) q), .dead)
abbrev Ok142 (fr : Fr) {A X Y Z : Type} (S : SubP LI A X Y Z) : Prop := SubOk Try.prog tt ⟨Try.f142.ntmps, none, []⟩ fr (bodyOf Try.f142) F142 S
def spec_l3Key_c3_t (x26 : LI) (x27 x28 : Int) (x29 : LI) (x30 x31 : Int) : Tr LI (LI × Int) Empty Empty Empty :=
  .w [inb x31 (lenI .item x26)] (.c (cmp .neq (rd .item x26 x31).Key x27)
  (.l (.n (x29, x30)))
  (.w [inb x31 (lenI .item x26)] (.w [inb x31 (lenI .item x26)] (.c (cond (cmp .gtr (rd .item x26 x31).Count 0) (cond (cmp .eql x28 2) true (cond (cmp .eql x28 3) (cmp .eql (lenI .item x29) 0) false)) false)
  (.w [inb x31 (lenI .item x26), lim (lenI .item x29) (lenI .item [(Item.mk x27 (rd .item x26 x31).Val 1)])] (.l (.n ((x29 ++ [(Item.mk x27 (rd .item x26 x31).Val 1)]), (ar .add .i64 x30 (rd .item x26 x31).Count)))))
  (.l (.n (x29, (ar .add .i64 x30 (rd .item x26 x31).Count))))))))
def spec_l3Key_c3 := fun x26 x27 x28 x29 x30 x31 => (spec_l3Key_c3_t x26 x27 x28 x29 x30 x31).val
def spec_l3Key_c3_ob := fun x26 x27 x28 x29 x30 x31 => (spec_l3Key_c3_t x26 x27 x28 x29 x30 x31).ob
def spec_l3Key_c3_S := fun x26 x27 x28 x29 x30 x31 => SubP.mk (spec_l3Key_c3 x26 x27 x28 x29 x30 x31) (spec_l3Key_c3_ob x26 x27 x28 x29 x30 x31) [0,1,0,0,1,0,1,1,1] [(0, .S .item x26), (1, .I x27), (2, .I x28), (7, .A .item x29), (8, .I x30), (9, .I x31)] rv142 (fun q => [(0, .S .item x26), (1, .I x27), (2, .I x28), (7, .A .item q.1), (8, .I q.2), (9, .I x31)]) nE nE nE
theorem spec_l3Key_c3_ok (G : Good Try.prog tt sp_spec_l3Key) {fr : Fr} : ∀ x26 x27 x28 x29 x30 x31, Ok142 fr (spec_l3Key_c3_S x26 x27 x28 x29 x30 x31) :=
  fun x26 x27 x28 x29 x30 x31 => run_ok G [] trivial [(6,[0,1,2,7,8,9,23]),(7,[0,1,2,7,8,9]),(8,[0,1,2,7,8,9,49]),(9,[0,1,2,7,8,9])] [] [] (spec_l3Key_c3_t x26 x27 x28 x29 x30 x31) rfl rfl (by kernel_rfl)
def spec_l3Key_c2_r_t (x4 : LI) (x5 x6 : Int) (s22 : LI) (s23 s24 : Int) : Tr LI (LI × Int × Int) (LI × Int) Empty Empty :=
  .c (cmp .lss s24 (lenI .item x4))
  (.s (spec_l3Key_c3_S x4 x5 x6 s22 s23 s24) (fun q36 => .l (.n (q36.1, q36.2, (ar .add .i64 s24 1)))) nE nE nE)
  (.l (.x (s22, s23)))
def spec_l3Key_c2_r := fun x4 x5 x6 s22 s23 s24 => (spec_l3Key_c2_r_t x4 x5 x6 s22 s23 s24).val
def spec_l3Key_c2_r_ob := fun x4 x5 x6 s22 s23 s24 => (spec_l3Key_c2_r_t x4 x5 x6 s22 s23 s24).ob
def spec_l3Key_c2_r_S := fun x4 x5 x6 s22 s23 s24 => mkRd (spec_l3Key_c2_r x4 x5 x6 s22 s23 s24) (spec_l3Key_c2_r_ob x4 x5 x6 s22 s23 s24) [0,0,1,0,1,1,1] (fun q => [(0, .S .item x4), (1, .I x5), (2, .I x6), (7, .A .item q.1), (8, .I q.2.1), (9, .I q.2.2)]) (s22, s23, s24) rv142 (fun q => (0, [(1, .I x5), (2, .I x6), (7, .A .item q.1), (8, .I q.2)])) nE nE
theorem spec_l3Key_c2_r_ok (G : Good Try.prog tt sp_spec_l3Key) {fr : Fr} : ∀ x4 x5 x6 s22 s23 s24, Ok142 fr (spec_l3Key_c2_r_S x4 x5 x6 s22 s23 s24) :=
  fun x4 x5 x6 s22 s23 s24 => run_ok G [([0,1,0,0,1,0,1,1,1], fun e => ⟨spec_l3Key_c3_S (gL .item e 0 0) (gI e 1 0) (gI e 2 0) (gL .item e 7 0) (gI e 8 0) (gI e 9 0)⟩)] ⟨fun _ => ⟨rfl, spec_l3Key_c3_ok G _ _ _ _ _ _⟩, trivial⟩ [(4,[0,1,2,7,8,9,14]),(5,[0,1,2,7,8,9])] [] [] (spec_l3Key_c2_r_t x4 x5 x6 s22 s23 s24) rfl rfl (by kernel_rfl)
def spec_l3Key_c2 := fun x4 x5 x6 => lpV (fun s : LI × Int × Int => ocLp (spec_l3Key_c2_r x4 x5 x6 s.1 s.2.1 s.2.2)) ([], 0, 0)
def spec_l3Key_c2_ob := fun x4 x5 x6 => LpT (fun s : LI × Int × Int => ocLp (spec_l3Key_c2_r x4 x5 x6 s.1 s.2.1 s.2.2)) (fun s => spec_l3Key_c2_r_ob x4 x5 x6 s.1 s.2.1 s.2.2) ([], 0, 0)
def spec_l3Key_c2_S := fun x4 x5 x6 => lpS (spec_l3Key_c2_r_S x4 x5 x6 [] 0 0) (spec_l3Key_c2 x4 x5 x6) (spec_l3Key_c2_ob x4 x5 x6)
theorem spec_l3Key_c2_ok (G : Good Try.prog tt sp_spec_l3Key) {fr : Fr} : ∀ x4 x5 x6, Ok142 fr (spec_l3Key_c2_S x4 x5 x6) :=
  fun x4 x5 x6 => loop_ok (fun s : LI × Int × Int => spec_l3Key_c2_r_S x4 x5 x6 s.1 s.2.1 s.2.2) ([], 0, 0) (fun _ => rfl) (fun _ => ⟨rfl, rfl, rfl, rfl, rfl⟩) (by kernel_rfl) fun _ => spec_l3Key_c2_r_ok G _ _ _ _ _ _
def spec_l3Key_c1_t (x1 : LI) (x2 x3 : Int) : Tr LI (LI × Int) Empty Empty Empty :=
  .s (spec_l3Key_c2_S x1 x2 x3) nE (fun q50 => .l (.n (q50.1, q50.2))) nE nE
def spec_l3Key_c1 := fun x1 x2 x3 => (spec_l3Key_c1_t x1 x2 x3).val
def spec_l3Key_c1_ob := fun x1 x2 x3 => (spec_l3Key_c1_t x1 x2 x3).ob
def spec_l3Key_c1_S := fun x1 x2 x3 => SubP.mk (spec_l3Key_c1 x1 x2 x3) (spec_l3Key_c1_ob x1 x2 x3) [0,1,1,1] [(0, .S .item x1), (1, .I x2), (2, .I x3), (7, .A .item []), (8, .I 0)] rv142 (fun q => [(1, .I x2), (2, .I x3), (7, .A .item q.1), (8, .I q.2)]) nE nE nE
theorem spec_l3Key_c1_ok (G : Good Try.prog tt sp_spec_l3Key) {fr : Fr} : ∀ x1 x2 x3, Ok142 fr (spec_l3Key_c1_S x1 x2 x3) :=
  fun x1 x2 x3 => run_ok G [([0,1,0,1,1,1], fun e => ⟨spec_l3Key_c2_S (gL .item e 0 0) (gI e 1 0) (gI e 2 0)⟩)] ⟨fun _ => ⟨rfl, spec_l3Key_c2_ok G _ _ _⟩, trivial⟩ [(3,[0,1,2,7,8,9])] [] [] (spec_l3Key_c1_t x1 x2 x3) rfl rfl (by kernel_rfl)
def spec_l3Key_c4_t (x56 x57 : Int) (x58 : LI) (x59 : Int) : Tr LI LI Empty Empty Empty :=
  .c (cond (cmp .eql x57 1) (cmp .neq x59 0) false)
  (.w [(p_spec_l3Count x59), lim (lenI .item x58) (lenI .item [(Item.mk x56 (v_spec_l3Count x59) 1)])] (.l (.n (x58 ++ [(Item.mk x56 (v_spec_l3Count x59) 1)]))))
  (.l (.n x58))
def spec_l3Key_c4 := fun x56 x57 x58 x59 => (spec_l3Key_c4_t x56 x57 x58 x59).val
def spec_l3Key_c4_ob := fun x56 x57 x58 x59 => (spec_l3Key_c4_t x56 x57 x58 x59).ob
def spec_l3Key_c4_S := fun x56 x57 x58 x59 => SubP.mk (spec_l3Key_c4 x56 x57 x58 x59) (spec_l3Key_c4_ob x56 x57 x58 x59) [0,1,1,1,1] [(1, .I x56), (2, .I x57), (7, .A .item x58), (8, .I x59)] rv142 (fun q => [(7, .A .item q)]) nE nE nE
theorem spec_l3Key_c4_ok (G : Good Try.prog tt sp_spec_l3Key) {fr : Fr} : ∀ x56 x57 x58 x59, Ok142 fr (spec_l3Key_c4_S x56 x57 x58 x59) :=
  fun x56 x57 x58 x59 => run_ok G [] trivial [(10,[1,7,8,65]),(11,[7])] [] [] (spec_l3Key_c4_t x56 x57 x58 x59) rfl rfl (by kernel_rfl)
def spec_l3Key_b_t (a0 : LI) (a1 a2 : Int) : Tr LI Empty Empty Empty Empty :=
  .s (spec_l3Key_c1_S a0 a1 a2) (fun q54 => .s (spec_l3Key_c4_S a1 a2 q54.1 q54.2) (fun q62 => .l (.r q62)) nE nE nE) nE nE nE
def spec_l3Key_b := fun a0 a1 a2 => (spec_l3Key_b_t a0 a1 a2).val
def spec_l3Key_b_ob := fun a0 a1 a2 => (spec_l3Key_b_t a0 a1 a2).ob
def spec_l3Key_b_S := fun a0 a1 a2 => SubP.mk (spec_l3Key_b a0 a1 a2) (spec_l3Key_b_ob a0 a1 a2) [] [(0, .S .item a0), (1, .I a1), (2, .I a2)] rv142 nE nE nE nE
theorem spec_l3Key_b_ok (G : Good Try.prog tt sp_spec_l3Key) {fr : Fr} : ∀ a0 a1 a2, Ok142 fr (spec_l3Key_b_S a0 a1 a2) :=
  fun a0 a1 a2 => run_ok G [([0,1,1,1], fun e => ⟨spec_l3Key_c1_S (gL .item e 0 0) (gI e 1 0) (gI e 2 0)⟩), ([0,1,1,1,1], fun e => ⟨spec_l3Key_c4_S (gI e 1 0) (gI e 2 0) (gL .item e 7 0) (gI e 8 0)⟩)] ⟨fun _ => ⟨rfl, spec_l3Key_c1_ok G _ _ _⟩, fun _ => ⟨rfl, spec_l3Key_c4_ok G _ _ _ _⟩, trivial⟩ [(0,[0,1,2]),(1,[0,1,2,7]),(2,[0,1,2,7,8]),(12,[6])] [] [] (spec_l3Key_b_t a0 a1 a2) rfl rfl (by kernel_rfl)
def v_spec_l3Key (a0 : LI) (a1 : Int) (a2 : Int) : LI := ocR (spec_l3Key_b a0 a1 a2)
def p_spec_l3Key (a0 : LI) (a1 : Int) (a2 : Int) : Prop := spec_l3Key_b_ob a0 a1 a2
def s_spec_l3Key : Spec := ⟨[(.lst .item), (.int .i64), (.int .i64)], .one (.acc true) (.lst .item), false, fun x => (v_spec_l3Key x.1 x.2.1 x.2.2.1, 0), fun x => p_spec_l3Key x.1 x.2.1 x.2.2.1⟩
theorem con_spec_l3Key (G : Good Try.prog tt sp_spec_l3Key) : Con Try.prog 142 s_spec_l3Key :=
  con_run (pts := [(.lst .item), (.int .i64), (.int .i64)]) (rt := .one (.acc true) (.lst .item)) (o := fun x => spec_l3Key_b x.1 x.2.1 x.2.2.1) (ob := fun x => spec_l3Key_b_ob x.1 x.2.1 x.2.2.1) G (fn := Try.f142) (c := bodyOf Try.f142) (by kernel_rfl) (by kernel_rfl) (by kernel_rfl) (rs := [.tmp 6]) (fz := F142.fz) (by kernel_rfl) (by kernel_rfl) (fun _ => rfl) rfl (fun x => spec_l3Key_b_S x.1 x.2.1 x.2.2.1) (fun _ => ⟨rfl, rfl, rfl, rfl, rfl⟩) (fun x _ => spec_l3Key_b_ok G x.1 x.2.1 x.2.2.1)
def sp_spec_l3Sum : SP := [(46, s_spec_SetOk), (142, s_spec_l3Key)]
abbrev F124 : Fnn := ⟨[.tmp 4], .one (.acc true) (.lst .item), none, []⟩
abbrev rv124 : LI → RV := fun q => (some (RT.av (.one (.acc true) (.lst .item)) q), .dead)
abbrev Ok124 (fr : Fr) {A X Y Z : Type} (S : SubP LI A X Y Z) : Prop := SubOk Try.prog tt ⟨Try.f124.ntmps, none, []⟩ fr (bodyOf Try.f124) F124 S
def spec_l3Sum_c2_r_t (x3 : LI) (x4 : Int) (s8 : LI) (s9 : Int) : Tr LI (LI × Int) LI Empty Empty :=
  .w [(((cmp .lss s9 4) && true) = true → (p_spec_SetOk x3))] (.c (cond (cmp .lss s9 4) (v_spec_SetOk x3) false)
  (.w [(p_spec_l3Key x3 s9 x4), lim (lenI .item s8) (lenI .item (v_spec_l3Key x3 s9 x4))] (.l (.n ((s8 ++ (v_spec_l3Key x3 s9 x4)), (ar .add .i64 s9 1)))))
  (.l (.x s8)))
def spec_l3Sum_c2_r := fun x3 x4 s8 s9 => (spec_l3Sum_c2_r_t x3 x4 s8 s9).val
def spec_l3Sum_c2_r_ob := fun x3 x4 s8 s9 => (spec_l3Sum_c2_r_t x3 x4 s8 s9).ob
def spec_l3Sum_c2_r_S := fun x3 x4 s8 s9 => mkRd (spec_l3Sum_c2_r x3 x4 s8 s9) (spec_l3Sum_c2_r_ob x3 x4 s8 s9) [0,0,1,0,1,1] (fun q => [(0, .S .item x3), (1, .I x4), (5, .A .item q.1), (6, .I q.2)]) (s8, s9) rv124 (fun q => (0, [(5, .A .item q)])) nE nE
theorem spec_l3Sum_c2_r_ok (G : Good Try.prog tt sp_spec_l3Sum) {fr : Fr} : ∀ x3 x4 s8 s9, Ok124 fr (spec_l3Sum_c2_r_S x3 x4 s8 s9) :=
  fun x3 x4 s8 s9 => run_ok G [] trivial [(3,[0,1,5,6,13]),(4,[0,1,5,6]),(5,[0,1,5,6])] [] [] (spec_l3Sum_c2_r_t x3 x4 s8 s9) rfl rfl (by kernel_rfl)
def spec_l3Sum_c2 := fun x3 x4 => lpV (fun s : LI × Int => ocLp (spec_l3Sum_c2_r x3 x4 s.1 s.2)) ([], 0)
def spec_l3Sum_c2_ob := fun x3 x4 => LpT (fun s : LI × Int => ocLp (spec_l3Sum_c2_r x3 x4 s.1 s.2)) (fun s => spec_l3Sum_c2_r_ob x3 x4 s.1 s.2) ([], 0)
def spec_l3Sum_c2_S := fun x3 x4 => lpS (spec_l3Sum_c2_r_S x3 x4 [] 0) (spec_l3Sum_c2 x3 x4) (spec_l3Sum_c2_ob x3 x4)
theorem spec_l3Sum_c2_ok (G : Good Try.prog tt sp_spec_l3Sum) {fr : Fr} : ∀ x3 x4, Ok124 fr (spec_l3Sum_c2_S x3 x4) :=
  fun x3 x4 => loop_ok (fun s : LI × Int => spec_l3Sum_c2_r_S x3 x4 s.1 s.2) ([], 0) (fun _ => rfl) (fun _ => ⟨rfl, rfl, rfl, rfl, rfl⟩) (by kernel_rfl) fun _ => spec_l3Sum_c2_r_ok G _ _ _ _
def spec_l3Sum_c1_t (x1 : LI) (x2 : Int) : Tr LI LI Empty Empty Empty :=
  .s (spec_l3Sum_c2_S x1 x2) nE (fun q18 => .l (.n q18)) nE nE
def spec_l3Sum_c1 := fun x1 x2 => (spec_l3Sum_c1_t x1 x2).val
def spec_l3Sum_c1_ob := fun x1 x2 => (spec_l3Sum_c1_t x1 x2).ob
def spec_l3Sum_c1_S := fun x1 x2 => SubP.mk (spec_l3Sum_c1 x1 x2) (spec_l3Sum_c1_ob x1 x2) [0,1,1] [(0, .S .item x1), (1, .I x2), (5, .A .item [])] rv124 (fun q => [(5, .A .item q)]) nE nE nE
theorem spec_l3Sum_c1_ok (G : Good Try.prog tt sp_spec_l3Sum) {fr : Fr} : ∀ x1 x2, Ok124 fr (spec_l3Sum_c1_S x1 x2) :=
  fun x1 x2 => run_ok G [([0,1,0,1,1], fun e => ⟨spec_l3Sum_c2_S (gL .item e 0 0) (gI e 1 0)⟩)] ⟨fun _ => ⟨rfl, spec_l3Sum_c2_ok G _ _⟩, trivial⟩ [(2,[0,1,5,6])] [] [] (spec_l3Sum_c1_t x1 x2) rfl rfl (by kernel_rfl)
def spec_l3Sum_b_t (a0 : LI) (a1 : Int) : Tr LI Empty Empty Empty Empty :=
  .s (spec_l3Sum_c1_S a0 a1) (fun q21 => .l (.r q21)) nE nE nE
def spec_l3Sum_b := fun a0 a1 => (spec_l3Sum_b_t a0 a1).val
def spec_l3Sum_b_ob := fun a0 a1 => (spec_l3Sum_b_t a0 a1).ob
def spec_l3Sum_b_S := fun a0 a1 => SubP.mk (spec_l3Sum_b a0 a1) (spec_l3Sum_b_ob a0 a1) [] [(0, .S .item a0), (1, .I a1)] rv124 nE nE nE nE
theorem spec_l3Sum_b_ok (G : Good Try.prog tt sp_spec_l3Sum) {fr : Fr} : ∀ a0 a1, Ok124 fr (spec_l3Sum_b_S a0 a1) :=
  fun a0 a1 => run_ok G [([0,1,1], fun e => ⟨spec_l3Sum_c1_S (gL .item e 0 0) (gI e 1 0)⟩)] ⟨fun _ => ⟨rfl, spec_l3Sum_c1_ok G _ _⟩, trivial⟩ [(0,[0,1]),(1,[0,1,5]),(6,[4])] [] [] (spec_l3Sum_b_t a0 a1) rfl rfl (by kernel_rfl)
def v_spec_l3Sum (a0 : LI) (a1 : Int) : LI := ocR (spec_l3Sum_b a0 a1)
def p_spec_l3Sum (a0 : LI) (a1 : Int) : Prop := spec_l3Sum_b_ob a0 a1
def s_spec_l3Sum : Spec := ⟨[(.lst .item), (.int .i64)], .one (.acc true) (.lst .item), false, fun x => (v_spec_l3Sum x.1 x.2.1, 0), fun x => p_spec_l3Sum x.1 x.2.1⟩
theorem con_spec_l3Sum (G : Good Try.prog tt sp_spec_l3Sum) : Con Try.prog 124 s_spec_l3Sum :=
  con_run (pts := [(.lst .item), (.int .i64)]) (rt := .one (.acc true) (.lst .item)) (o := fun x => spec_l3Sum_b x.1 x.2.1) (ob := fun x => spec_l3Sum_b_ob x.1 x.2.1) G (fn := Try.f124) (c := bodyOf Try.f124) (by kernel_rfl) (by kernel_rfl) (by kernel_rfl) (rs := [.tmp 4]) (fz := F124.fz) (by kernel_rfl) (by kernel_rfl) (fun _ => rfl) rfl (fun x => spec_l3Sum_b_S x.1 x.2.1) (fun _ => ⟨rfl, rfl, rfl, rfl, rfl⟩) (fun x _ => spec_l3Sum_b_ok G x.1 x.2.1)
def sp_spec_SetOnce : SP := [(124, s_spec_l3Sum)]
abbrev F80 : Fnn := ⟨[.tmp 2], .one (.acc true) (.lst .item), none, []⟩
abbrev rv80 : LI → RV := fun q => (some (RT.av (.one (.acc true) (.lst .item)) q), .dead)
abbrev Ok80 (fr : Fr) {A X Y Z : Type} (S : SubP LI A X Y Z) : Prop := SubOk Try.prog tt ⟨Try.f80.ntmps, none, []⟩ fr (bodyOf Try.f80) F80 S
def spec_SetOnce_b_t (a0 : LI) : Tr LI Empty Empty Empty Empty :=
  .w [(p_spec_l3Sum a0 2)] (.l (.r (v_spec_l3Sum a0 2)))
def spec_SetOnce_b := fun a0 => (spec_SetOnce_b_t a0).val
def spec_SetOnce_b_ob := fun a0 => (spec_SetOnce_b_t a0).ob
def spec_SetOnce_b_S := fun a0 => SubP.mk (spec_SetOnce_b a0) (spec_SetOnce_b_ob a0) [] [(0, .S .item a0)] rv80 nE nE nE nE
theorem spec_SetOnce_b_ok (G : Good Try.prog tt sp_spec_SetOnce) {fr : Fr} : ∀ a0, Ok80 fr (spec_SetOnce_b_S a0) :=
  fun a0 => run_ok G [] trivial [(0,[0]),(1,[2])] [] [] (spec_SetOnce_b_t a0) rfl rfl (by kernel_rfl)
def v_spec_SetOnce (a0 : LI) : LI := ocR (spec_SetOnce_b a0)
def p_spec_SetOnce (a0 : LI) : Prop := spec_SetOnce_b_ob a0
def s_spec_SetOnce : Spec := ⟨[(.lst .item)], .one (.acc true) (.lst .item), false, fun x => (v_spec_SetOnce x.1, 0), fun x => p_spec_SetOnce x.1⟩
theorem con_spec_SetOnce (G : Good Try.prog tt sp_spec_SetOnce) : Con Try.prog 80 s_spec_SetOnce :=
  con_run (pts := [(.lst .item)]) (rt := .one (.acc true) (.lst .item)) (o := fun x => spec_SetOnce_b x.1) (ob := fun x => spec_SetOnce_b_ob x.1) G (fn := Try.f80) (c := bodyOf Try.f80) (by kernel_rfl) (by kernel_rfl) (by kernel_rfl) (rs := [.tmp 2]) (fz := F80.fz) (by kernel_rfl) (by kernel_rfl) (fun _ => rfl) rfl (fun x => spec_SetOnce_b_S x.1) (fun _ => ⟨rfl, rfl, rfl, rfl, rfl⟩) (fun x _ => spec_SetOnce_b_ok G x.1)
def sp_spec_LoopStep : SP := [(46, s_spec_SetOk), (82, s_spec_l22Keys), (83, s_spec_l22Lead), (81, s_spec_l2Items), (80, s_spec_SetOnce)]
abbrev F29 : Fnn := ⟨[.tmp 6], .one (.acc true) (.lst .item), none, []⟩
abbrev rv29 : LI → RV := fun q => (some (RT.av (.one (.acc true) (.lst .item)) q), .dead)
abbrev Ok29 (fr : Fr) {A X Y Z : Type} (S : SubP LI A X Y Z) : Prop := SubOk Try.prog tt ⟨Try.f29.ntmps, none, []⟩ fr (bodyOf Try.f29) F29 S
def spec_LoopStep_b_t (a0 a1 a2 : LI) : Tr LI Empty Empty Empty Empty :=
  .w [(p_spec_SetOk a0), (((!(!(v_spec_SetOk a0))) && true) = true → (p_spec_SetOk a1)), (((!(cond (!(v_spec_SetOk a0)) true (!(v_spec_SetOk a1)))) && true) = true → (p_spec_SetOk a2))] (.c (cond (cond (!(v_spec_SetOk a0)) true (!(v_spec_SetOk a1))) true (!(v_spec_SetOk a2)))
  (.l (.r []))
  (.w [(p_spec_l22Keys a1), (p_spec_l22Lead a0 a2), lim (lenI .item (v_spec_l22Keys a1)) (lenI .item (v_spec_l22Lead a0 a2)), (p_spec_l2Items ((v_spec_l22Keys a1) ++ (v_spec_l22Lead a0 a2))), (p_spec_SetOnce (v_spec_l2Items ((v_spec_l22Keys a1) ++ (v_spec_l22Lead a0 a2))))] (.l (.r (v_spec_SetOnce (v_spec_l2Items ((v_spec_l22Keys a1) ++ (v_spec_l22Lead a0 a2))))))))
def spec_LoopStep_b := fun a0 a1 a2 => (spec_LoopStep_b_t a0 a1 a2).val
def spec_LoopStep_b_ob := fun a0 a1 a2 => (spec_LoopStep_b_t a0 a1 a2).ob
def spec_LoopStep_b_S := fun a0 a1 a2 => SubP.mk (spec_LoopStep_b a0 a1 a2) (spec_LoopStep_b_ob a0 a1 a2) [] [(0, .S .item a0), (1, .S .item a1), (2, .S .item a2)] rv29 nE nE nE nE
theorem spec_LoopStep_b_ok (G : Good Try.prog tt sp_spec_LoopStep) {fr : Fr} : ∀ a0 a1 a2, Ok29 fr (spec_LoopStep_b_S a0 a1 a2) :=
  fun a0 a1 a2 => run_ok G [] trivial [(0,[0,1,2]),(1,[0,1,2,19]),(2,[6]),(3,[6])] [] [] (spec_LoopStep_b_t a0 a1 a2) rfl rfl (by kernel_rfl)
def v_spec_LoopStep (a0 : LI) (a1 : LI) (a2 : LI) : LI := ocR (spec_LoopStep_b a0 a1 a2)
def p_spec_LoopStep (a0 : LI) (a1 : LI) (a2 : LI) : Prop := spec_LoopStep_b_ob a0 a1 a2
def s_spec_LoopStep : Spec := ⟨[(.lst .item), (.lst .item), (.lst .item)], .one (.acc true) (.lst .item), false, fun x => (v_spec_LoopStep x.1 x.2.1 x.2.2.1, 0), fun x => p_spec_LoopStep x.1 x.2.1 x.2.2.1⟩
theorem con_spec_LoopStep (G : Good Try.prog tt sp_spec_LoopStep) : Con Try.prog 29 s_spec_LoopStep :=
  con_run (pts := [(.lst .item), (.lst .item), (.lst .item)]) (rt := .one (.acc true) (.lst .item)) (o := fun x => spec_LoopStep_b x.1 x.2.1 x.2.2.1) (ob := fun x => spec_LoopStep_b_ob x.1 x.2.1 x.2.2.1) G (fn := Try.f29) (c := bodyOf Try.f29) (by kernel_rfl) (by kernel_rfl) (by kernel_rfl) (rs := [.tmp 6]) (fz := F29.fz) (by kernel_rfl) (by kernel_rfl) (fun _ => rfl) rfl (fun x => spec_LoopStep_b_S x.1 x.2.1 x.2.2.1) (fun _ => ⟨rfl, rfl, rfl, rfl, rfl⟩) (fun x _ => spec_LoopStep_b_ok G x.1 x.2.1 x.2.2.1)
def sp_laws_lwItems : SP := []
abbrev F45 : Fnn := ⟨[.tmp 4], .one .fr .bool, none, []⟩
abbrev rv45 : Bool → RV := fun q => (some (RT.av (.one .fr .bool) q), .dead)
abbrev Ok45 (fr : Fr) {A X Y Z : Type} (S : SubP Bool A X Y Z) : Prop := SubOk Try.prog tt ⟨Try.f45.ntmps, none, []⟩ fr (bodyOf Try.f45) F45 S
def laws_lwItems_c2_r_t (x4 x5 : LI) (s9 : Int) : Tr Bool Int Unit Empty Empty :=
  .c (cmp .lss s9 (lenI .item x4))
  (.w [inb s9 (lenI .item x4), inb s9 (lenI .item x5)] (.c (!(cmp .eql (rd .item x4 s9).Key (rd .item x5 s9).Key && (cmp .eql (rd .item x4 s9).Val (rd .item x5 s9).Val && (cmp .eql (rd .item x4 s9).Count (rd .item x5 s9).Count && true))))
  (.l (.r false))
  (.l (.n (ar .add .i64 s9 1)))))
  (.l (.x ()))
def laws_lwItems_c2_r := fun x4 x5 s9 => (laws_lwItems_c2_r_t x4 x5 s9).val
def laws_lwItems_c2_r_ob := fun x4 x5 s9 => (laws_lwItems_c2_r_t x4 x5 s9).ob
def laws_lwItems_c2_r_S := fun x4 x5 s9 => mkRd (laws_lwItems_c2_r x4 x5 s9) (laws_lwItems_c2_r_ob x4 x5 s9) [0,0,1,0,1,1] (fun q => [(0, .S .item x4), (1, .S .item x5), (5, .I q)]) s9 rv45 (fun _ => (0, [])) nE nE
theorem laws_lwItems_c2_r_ok (G : Good Try.prog tt sp_laws_lwItems) {fr : Fr} : ∀ x4 x5 s9, Ok45 fr (laws_lwItems_c2_r_S x4 x5 s9) :=
  fun x4 x5 s9 => run_ok G [] trivial [(4,[0,1,5,14]),(5,[0,1,5]),(6,[0,1,5,25]),(7,[4])] [] [] (laws_lwItems_c2_r_t x4 x5 s9) rfl rfl (by kernel_rfl)
def laws_lwItems_c2 := fun x4 x5 => lpV (fun s : Int => ocLp (laws_lwItems_c2_r x4 x5 s)) 0
def laws_lwItems_c2_ob := fun x4 x5 => LpT (fun s : Int => ocLp (laws_lwItems_c2_r x4 x5 s)) (fun s => laws_lwItems_c2_r_ob x4 x5 s) 0
def laws_lwItems_c2_S := fun x4 x5 => lpS (laws_lwItems_c2_r_S x4 x5 0) (laws_lwItems_c2 x4 x5) (laws_lwItems_c2_ob x4 x5)
theorem laws_lwItems_c2_ok (G : Good Try.prog tt sp_laws_lwItems) {fr : Fr} : ∀ x4 x5, Ok45 fr (laws_lwItems_c2_S x4 x5) :=
  fun x4 x5 => loop_ok (fun s : Int => laws_lwItems_c2_r_S x4 x5 s) 0 (fun _ => rfl) (fun _ => ⟨rfl, rfl, rfl, rfl, rfl⟩) (by kernel_rfl) fun _ => laws_lwItems_c2_r_ok G _ _ _
def laws_lwItems_c1_t (x2 x3 : LI) : Tr Bool Unit Empty Empty Empty :=
  .s (laws_lwItems_c2_S x2 x3) nE (fun _ => .l (.n ())) nE nE
def laws_lwItems_c1 := fun x2 x3 => (laws_lwItems_c1_t x2 x3).val
def laws_lwItems_c1_ob := fun x2 x3 => (laws_lwItems_c1_t x2 x3).ob
def laws_lwItems_c1_S := fun x2 x3 => SubP.mk (laws_lwItems_c1 x2 x3) (laws_lwItems_c1_ob x2 x3) [0,1,1] [(0, .S .item x2), (1, .S .item x3)] rv45 (fun _ => []) nE nE nE
theorem laws_lwItems_c1_ok (G : Good Try.prog tt sp_laws_lwItems) {fr : Fr} : ∀ x2 x3, Ok45 fr (laws_lwItems_c1_S x2 x3) :=
  fun x2 x3 => run_ok G [([0,1,0,1,1], fun e => ⟨laws_lwItems_c2_S (gL .item e 0 0) (gL .item e 1 0)⟩)] ⟨fun _ => ⟨rfl, laws_lwItems_c2_ok G _ _⟩, trivial⟩ [(3,[0,1,5])] [] [] (laws_lwItems_c1_t x2 x3) rfl rfl (by kernel_rfl)
def laws_lwItems_b_t (a0 a1 : LI) : Tr Bool Empty Empty Empty Empty :=
  .c (cmp .neq (lenI .item a0) (lenI .item a1))
  (.l (.r false))
  (.s (laws_lwItems_c1_S a0 a1) (fun _ => .l (.r true)) nE nE nE)
def laws_lwItems_b := fun a0 a1 => (laws_lwItems_b_t a0 a1).val
def laws_lwItems_b_ob := fun a0 a1 => (laws_lwItems_b_t a0 a1).ob
def laws_lwItems_b_S := fun a0 a1 => SubP.mk (laws_lwItems_b a0 a1) (laws_lwItems_b_ob a0 a1) [] [(0, .S .item a0), (1, .S .item a1)] rv45 nE nE nE nE
theorem laws_lwItems_b_ok (G : Good Try.prog tt sp_laws_lwItems) {fr : Fr} : ∀ a0 a1, Ok45 fr (laws_lwItems_b_S a0 a1) :=
  fun a0 a1 => run_ok G [([0,1,1], fun e => ⟨laws_lwItems_c1_S (gL .item e 0 0) (gL .item e 1 0)⟩)] ⟨fun _ => ⟨rfl, laws_lwItems_c1_ok G _ _⟩, trivial⟩ [(0,[0,1]),(1,[0,1,10]),(2,[4]),(8,[4])] [] [] (laws_lwItems_b_t a0 a1) rfl rfl (by kernel_rfl)
def v_laws_lwItems (a0 : LI) (a1 : LI) : Bool := ocR (laws_lwItems_b a0 a1)
def p_laws_lwItems (a0 : LI) (a1 : LI) : Prop := laws_lwItems_b_ob a0 a1
def s_laws_lwItems : Spec := ⟨[(.lst .item), (.lst .item)], .one .fr .bool, false, fun x => (v_laws_lwItems x.1 x.2.1, 0), fun x => p_laws_lwItems x.1 x.2.1⟩
theorem con_laws_lwItems (G : Good Try.prog tt sp_laws_lwItems) : Con Try.prog 45 s_laws_lwItems :=
  con_run (pts := [(.lst .item), (.lst .item)]) (rt := .one .fr .bool) (o := fun x => laws_lwItems_b x.1 x.2.1) (ob := fun x => laws_lwItems_b_ob x.1 x.2.1) G (fn := Try.f45) (c := bodyOf Try.f45) (by kernel_rfl) (by kernel_rfl) (by kernel_rfl) (rs := [.tmp 4]) (fz := F45.fz) (by kernel_rfl) (by kernel_rfl) (fun _ => rfl) rfl (fun x => laws_lwItems_b_S x.1 x.2.1) (fun _ => ⟨rfl, rfl, rfl, rfl, rfl⟩) (fun x _ => laws_lwItems_b_ok G x.1 x.2.1)
def sp_spec_LoopSet : SP := [(46, s_spec_SetOk), (93, s_spec_l6In), (29, s_spec_LoopStep)]
abbrev F42 : Fnn := ⟨[.tmp 6], .one (.acc true) (.lst .item), none, []⟩
abbrev rv42 : LI → RV := fun q => (some (RT.av (.one (.acc true) (.lst .item)) q), .dead)
abbrev Ok42 (fr : Fr) {A X Y Z : Type} (S : SubP LI A X Y Z) : Prop := SubOk Try.prog tt ⟨Try.f42.ntmps, none, []⟩ fr (bodyOf Try.f42) F42 S
def spec_LoopSet_c2_r_t (x5 x6 : LI) (x7 : Int) (s11 : LI) (s12 : Int) : Tr LI (LI × Int) LI Empty Empty :=
  .c (cmp .lss s12 x7)
  (.w [(p_spec_LoopStep x5 x6 s11)] (.l (.n ((v_spec_LoopStep x5 x6 s11), (ar .add .i64 s12 1)))))
  (.l (.x s11))
def spec_LoopSet_c2_r := fun x5 x6 x7 s11 s12 => (spec_LoopSet_c2_r_t x5 x6 x7 s11 s12).val
def spec_LoopSet_c2_r_ob := fun x5 x6 x7 s11 s12 => (spec_LoopSet_c2_r_t x5 x6 x7 s11 s12).ob
def spec_LoopSet_c2_r_S := fun x5 x6 x7 s11 s12 => mkRd (spec_LoopSet_c2_r x5 x6 x7 s11 s12) (spec_LoopSet_c2_r_ob x5 x6 x7 s11 s12) [0,0,1,0,1,1,1] (fun q => [(0, .S .item x5), (1, .S .item x6), (2, .I x7), (7, .A .item q.1), (8, .I q.2)]) (s11, s12) rv42 (fun q => (0, [(7, .A .item q)])) nE nE
theorem spec_LoopSet_c2_r_ok (G : Good Try.prog tt sp_spec_LoopSet) {fr : Fr} : ∀ x5 x6 x7 s11 s12, Ok42 fr (spec_LoopSet_c2_r_S x5 x6 x7 s11 s12) :=
  fun x5 x6 x7 s11 s12 => run_ok G [] trivial [(5,[0,1,2,7,8,26]),(6,[0,1,2,7,8]),(7,[0,1,2,7,8])] [] [] (spec_LoopSet_c2_r_t x5 x6 x7 s11 s12) rfl rfl (by kernel_rfl)
def spec_LoopSet_c2 := fun x5 x6 x7 => lpV (fun s : LI × Int => ocLp (spec_LoopSet_c2_r x5 x6 x7 s.1 s.2)) ([], 0)
def spec_LoopSet_c2_ob := fun x5 x6 x7 => LpT (fun s : LI × Int => ocLp (spec_LoopSet_c2_r x5 x6 x7 s.1 s.2)) (fun s => spec_LoopSet_c2_r_ob x5 x6 x7 s.1 s.2) ([], 0)
def spec_LoopSet_c2_S := fun x5 x6 x7 => lpS (spec_LoopSet_c2_r_S x5 x6 x7 [] 0) (spec_LoopSet_c2 x5 x6 x7) (spec_LoopSet_c2_ob x5 x6 x7)
theorem spec_LoopSet_c2_ok (G : Good Try.prog tt sp_spec_LoopSet) {fr : Fr} : ∀ x5 x6 x7, Ok42 fr (spec_LoopSet_c2_S x5 x6 x7) :=
  fun x5 x6 x7 => loop_ok (fun s : LI × Int => spec_LoopSet_c2_r_S x5 x6 x7 s.1 s.2) ([], 0) (fun _ => rfl) (fun _ => ⟨rfl, rfl, rfl, rfl, rfl⟩) (by kernel_rfl) fun _ => spec_LoopSet_c2_r_ok G _ _ _ _ _
def spec_LoopSet_c1_t (x2 x3 : LI) (x4 : Int) : Tr LI LI Empty Empty Empty :=
  .s (spec_LoopSet_c2_S x2 x3 x4) nE (fun q21 => .l (.n q21)) nE nE
def spec_LoopSet_c1 := fun x2 x3 x4 => (spec_LoopSet_c1_t x2 x3 x4).val
def spec_LoopSet_c1_ob := fun x2 x3 x4 => (spec_LoopSet_c1_t x2 x3 x4).ob
def spec_LoopSet_c1_S := fun x2 x3 x4 => SubP.mk (spec_LoopSet_c1 x2 x3 x4) (spec_LoopSet_c1_ob x2 x3 x4) [0,1,1,1] [(0, .S .item x2), (1, .S .item x3), (2, .I x4), (7, .A .item [])] rv42 (fun q => [(7, .A .item q)]) nE nE nE
theorem spec_LoopSet_c1_ok (G : Good Try.prog tt sp_spec_LoopSet) {fr : Fr} : ∀ x2 x3 x4, Ok42 fr (spec_LoopSet_c1_S x2 x3 x4) :=
  fun x2 x3 x4 => run_ok G [([0,1,0,1,1,1], fun e => ⟨spec_LoopSet_c2_S (gL .item e 0 0) (gL .item e 1 0) (gI e 2 0)⟩)] ⟨fun _ => ⟨rfl, spec_LoopSet_c2_ok G _ _ _⟩, trivial⟩ [(4,[0,1,2,7,8])] [] [] (spec_LoopSet_c1_t x2 x3 x4) rfl rfl (by kernel_rfl)
def spec_LoopSet_b_t (a0 a1 : LI) (a2 : Int) : Tr LI Empty Empty Empty Empty :=
  .w [(p_spec_SetOk a0), (((!(!(v_spec_SetOk a0))) && true) = true → (p_spec_SetOk a1)), (((!(cond (!(v_spec_SetOk a0)) true (!(v_spec_SetOk a1)))) && true) = true → (p_spec_l6In a2 0 6))] (.c (cond (cond (!(v_spec_SetOk a0)) true (!(v_spec_SetOk a1))) true (!(v_spec_l6In a2 0 6)))
  (.l (.r []))
  (.s (spec_LoopSet_c1_S a0 a1 a2) (fun q24 => .l (.r q24)) nE nE nE))
def spec_LoopSet_b := fun a0 a1 a2 => (spec_LoopSet_b_t a0 a1 a2).val
def spec_LoopSet_b_ob := fun a0 a1 a2 => (spec_LoopSet_b_t a0 a1 a2).ob
def spec_LoopSet_b_S := fun a0 a1 a2 => SubP.mk (spec_LoopSet_b a0 a1 a2) (spec_LoopSet_b_ob a0 a1 a2) [] [(0, .S .item a0), (1, .S .item a1), (2, .I a2)] rv42 nE nE nE nE
theorem spec_LoopSet_b_ok (G : Good Try.prog tt sp_spec_LoopSet) {fr : Fr} : ∀ a0 a1 a2, Ok42 fr (spec_LoopSet_b_S a0 a1 a2) :=
  fun a0 a1 a2 => run_ok G [([0,1,1,1], fun e => ⟨spec_LoopSet_c1_S (gL .item e 0 0) (gL .item e 1 0) (gI e 2 0)⟩)] ⟨fun _ => ⟨rfl, spec_LoopSet_c1_ok G _ _ _⟩, trivial⟩ [(0,[0,1,2]),(1,[0,1,2,7]),(2,[0,1,2,7,22]),(3,[6]),(8,[6])] [] [] (spec_LoopSet_b_t a0 a1 a2) rfl rfl (by kernel_rfl)
def v_spec_LoopSet (a0 : LI) (a1 : LI) (a2 : Int) : LI := ocR (spec_LoopSet_b a0 a1 a2)
def p_spec_LoopSet (a0 : LI) (a1 : LI) (a2 : Int) : Prop := spec_LoopSet_b_ob a0 a1 a2
def s_spec_LoopSet : Spec := ⟨[(.lst .item), (.lst .item), (.int .i64)], .one (.acc true) (.lst .item), false, fun x => (v_spec_LoopSet x.1 x.2.1 x.2.2.1, 0), fun x => p_spec_LoopSet x.1 x.2.1 x.2.2.1⟩
theorem con_spec_LoopSet (G : Good Try.prog tt sp_spec_LoopSet) : Con Try.prog 42 s_spec_LoopSet :=
  con_run (pts := [(.lst .item), (.lst .item), (.int .i64)]) (rt := .one (.acc true) (.lst .item)) (o := fun x => spec_LoopSet_b x.1 x.2.1 x.2.2.1) (ob := fun x => spec_LoopSet_b_ob x.1 x.2.1 x.2.2.1) G (fn := Try.f42) (c := bodyOf Try.f42) (by kernel_rfl) (by kernel_rfl) (by kernel_rfl) (rs := [.tmp 6]) (fz := F42.fz) (by kernel_rfl) (by kernel_rfl) (fun _ => rfl) rfl (fun x => spec_LoopSet_b_S x.1 x.2.1 x.2.2.1) (fun _ => ⟨rfl, rfl, rfl, rfl, rfl⟩) (fun x _ => spec_LoopSet_b_ok G x.1 x.2.1 x.2.2.1)
def sp_spec_BatchOk : SP := [(56, s_spec_RowsOk), (131, s_spec_l2Comp)]
abbrev F101 : Fnn := ⟨[.tmp 2], .one .fr .bool, none, []⟩
abbrev rv101 : Bool → RV := fun q => (some (RT.av (.one .fr .bool) q), .dead)
abbrev Ok101 (fr : Fr) {A X Y Z : Type} (S : SubP Bool A X Y Z) : Prop := SubOk Try.prog tt ⟨Try.f101.ntmps, none, []⟩ fr (bodyOf Try.f101) F101 S
def spec_BatchOk_c2_r_t (x3 : LR) (s7 : Int) : Tr Bool Int Unit Empty Empty :=
  .c (cmp .lss s7 (lenI .row x3))
  (.w [inb s7 (lenI .row x3), (((cmp .gtr s7 0) && ((!(cmp .eql (rd .row x3 s7).Diff 0)) && true)) = true → inb (ar .sub .i64 s7 1) (lenI .row x3)), (((cmp .gtr s7 0) && ((!(cmp .eql (rd .row x3 s7).Diff 0)) && true)) = true → inb s7 (lenI .row x3)), (((cmp .gtr s7 0) && ((!(cmp .eql (rd .row x3 s7).Diff 0)) && true)) = true → (p_spec_l2Comp (rd .row x3 (ar .sub .i64 s7 1)) (rd .row x3 s7)))] (.c (cond (cmp .eql (rd .row x3 s7).Diff 0) true (cond (cmp .gtr s7 0) (cmp .geq (v_spec_l2Comp (rd .row x3 (ar .sub .i64 s7 1)) (rd .row x3 s7)) 0) false))
  (.l (.r false))
  (.l (.n (ar .add .i64 s7 1)))))
  (.l (.x ()))
def spec_BatchOk_c2_r := fun x3 s7 => (spec_BatchOk_c2_r_t x3 s7).val
def spec_BatchOk_c2_r_ob := fun x3 s7 => (spec_BatchOk_c2_r_t x3 s7).ob
def spec_BatchOk_c2_r_S := fun x3 s7 => mkRd (spec_BatchOk_c2_r x3 s7) (spec_BatchOk_c2_r_ob x3 s7) [0,0,1,0,1,1] (fun q => [(0, .S .row x3), (3, .I q)]) s7 rv101 (fun _ => (0, [])) nE nE
theorem spec_BatchOk_c2_r_ok (G : Good Try.prog tt sp_spec_BatchOk) {fr : Fr} : ∀ x3 s7, Ok101 fr (spec_BatchOk_c2_r_S x3 s7) :=
  fun x3 s7 => run_ok G [] trivial [(4,[0,3,10]),(5,[0,3]),(6,[0,3,35]),(7,[2])] [] [] (spec_BatchOk_c2_r_t x3 s7) rfl rfl (by kernel_rfl)
def spec_BatchOk_c2 := fun x3 => lpV (fun s : Int => ocLp (spec_BatchOk_c2_r x3 s)) 0
def spec_BatchOk_c2_ob := fun x3 => LpT (fun s : Int => ocLp (spec_BatchOk_c2_r x3 s)) (fun s => spec_BatchOk_c2_r_ob x3 s) 0
def spec_BatchOk_c2_S := fun x3 => lpS (spec_BatchOk_c2_r_S x3 0) (spec_BatchOk_c2 x3) (spec_BatchOk_c2_ob x3)
theorem spec_BatchOk_c2_ok (G : Good Try.prog tt sp_spec_BatchOk) {fr : Fr} : ∀ x3, Ok101 fr (spec_BatchOk_c2_S x3) :=
  fun x3 => loop_ok (fun s : Int => spec_BatchOk_c2_r_S x3 s) 0 (fun _ => rfl) (fun _ => ⟨rfl, rfl, rfl, rfl, rfl⟩) (by kernel_rfl) fun _ => spec_BatchOk_c2_r_ok G _ _
def spec_BatchOk_c1_t (x2 : LR) : Tr Bool Unit Empty Empty Empty :=
  .s (spec_BatchOk_c2_S x2) nE (fun _ => .l (.n ())) nE nE
def spec_BatchOk_c1 := fun x2 => (spec_BatchOk_c1_t x2).val
def spec_BatchOk_c1_ob := fun x2 => (spec_BatchOk_c1_t x2).ob
def spec_BatchOk_c1_S := fun x2 => SubP.mk (spec_BatchOk_c1 x2) (spec_BatchOk_c1_ob x2) [0,1,1] [(0, .S .row x2)] rv101 (fun _ => []) nE nE nE
theorem spec_BatchOk_c1_ok (G : Good Try.prog tt sp_spec_BatchOk) {fr : Fr} : ∀ x2, Ok101 fr (spec_BatchOk_c1_S x2) :=
  fun x2 => run_ok G [([0,1,0,1,1], fun e => ⟨spec_BatchOk_c2_S (gL .row e 0 0)⟩)] ⟨fun _ => ⟨rfl, spec_BatchOk_c2_ok G _⟩, trivial⟩ [(3,[0,3])] [] [] (spec_BatchOk_c1_t x2) rfl rfl (by kernel_rfl)
def spec_BatchOk_b_t (a0 : LR) : Tr Bool Empty Empty Empty Empty :=
  .w [(p_spec_RowsOk a0)] (.c (!(v_spec_RowsOk a0))
  (.l (.r false))
  (.s (spec_BatchOk_c1_S a0) (fun _ => .l (.r true)) nE nE nE))
def spec_BatchOk_b := fun a0 => (spec_BatchOk_b_t a0).val
def spec_BatchOk_b_ob := fun a0 => (spec_BatchOk_b_t a0).ob
def spec_BatchOk_b_S := fun a0 => SubP.mk (spec_BatchOk_b a0) (spec_BatchOk_b_ob a0) [] [(0, .S .row a0)] rv101 nE nE nE nE
theorem spec_BatchOk_b_ok (G : Good Try.prog tt sp_spec_BatchOk) {fr : Fr} : ∀ a0, Ok101 fr (spec_BatchOk_b_S a0) :=
  fun a0 => run_ok G [([0,1,1], fun e => ⟨spec_BatchOk_c1_S (gL .row e 0 0)⟩)] ⟨fun _ => ⟨rfl, spec_BatchOk_c1_ok G _⟩, trivial⟩ [(0,[0]),(1,[0,6]),(2,[2]),(8,[2])] [] [] (spec_BatchOk_b_t a0) rfl rfl (by kernel_rfl)
def v_spec_BatchOk (a0 : LR) : Bool := ocR (spec_BatchOk_b a0)
def p_spec_BatchOk (a0 : LR) : Prop := spec_BatchOk_b_ob a0
def s_spec_BatchOk : Spec := ⟨[(.lst .row)], .one .fr .bool, false, fun x => (v_spec_BatchOk x.1, 0), fun x => p_spec_BatchOk x.1⟩
theorem con_spec_BatchOk (G : Good Try.prog tt sp_spec_BatchOk) : Con Try.prog 101 s_spec_BatchOk :=
  con_run (pts := [(.lst .row)]) (rt := .one .fr .bool) (o := fun x => spec_BatchOk_b x.1) (ob := fun x => spec_BatchOk_b_ob x.1) G (fn := Try.f101) (c := bodyOf Try.f101) (by kernel_rfl) (by kernel_rfl) (by kernel_rfl) (rs := [.tmp 2]) (fz := F101.fz) (by kernel_rfl) (by kernel_rfl) (fun _ => rfl) rfl (fun x => spec_BatchOk_b_S x.1) (fun _ => ⟨rfl, rfl, rfl, rfl, rfl⟩) (fun x _ => spec_BatchOk_b_ok G x.1)
def sp_spec_l2Fit : SP := [(101, s_spec_BatchOk)]
abbrev F87 : Fnn := ⟨[.tmp 2], .one .sh (.lst .row), none, []⟩
abbrev rv87 : LR → RV := fun q => (some (RT.av (.one .sh (.lst .row)) q), .dead)
abbrev Ok87 (fr : Fr) {A X Y Z : Type} (S : SubP LR A X Y Z) : Prop := SubOk Try.prog tt ⟨Try.f87.ntmps, none, []⟩ fr (bodyOf Try.f87) F87 S
def spec_l2Fit_b_t (a0 : LR) : Tr LR Empty Empty Empty Empty :=
  .w [(p_spec_BatchOk a0)] (.c (!(v_spec_BatchOk a0))
  (.l (.r []))
  (.l (.r a0)))
def spec_l2Fit_b := fun a0 => (spec_l2Fit_b_t a0).val
def spec_l2Fit_b_ob := fun a0 => (spec_l2Fit_b_t a0).ob
def spec_l2Fit_b_S := fun a0 => SubP.mk (spec_l2Fit_b a0) (spec_l2Fit_b_ob a0) [] [(0, .S .row a0)] rv87 nE nE nE nE
theorem spec_l2Fit_b_ok (G : Good Try.prog tt sp_spec_l2Fit) {fr : Fr} : ∀ a0, Ok87 fr (spec_l2Fit_b_S a0) :=
  fun a0 => run_ok G [] trivial [(0,[0]),(1,[0,5]),(2,[2]),(3,[2])] [] [] (spec_l2Fit_b_t a0) rfl rfl (by kernel_rfl)
def v_spec_l2Fit (a0 : LR) : LR := ocR (spec_l2Fit_b a0)
def p_spec_l2Fit (a0 : LR) : Prop := spec_l2Fit_b_ob a0
def s_spec_l2Fit : Spec := ⟨[(.lst .row)], .one .sh (.lst .row), false, fun x => (v_spec_l2Fit x.1, 0), fun x => p_spec_l2Fit x.1⟩
theorem con_spec_l2Fit (G : Good Try.prog tt sp_spec_l2Fit) : Con Try.prog 87 s_spec_l2Fit :=
  con_run (pts := [(.lst .row)]) (rt := .one .sh (.lst .row)) (o := fun x => spec_l2Fit_b x.1) (ob := fun x => spec_l2Fit_b_ob x.1) G (fn := Try.f87) (c := bodyOf Try.f87) (by kernel_rfl) (by kernel_rfl) (by kernel_rfl) (rs := [.tmp 2]) (fz := F87.fz) (by kernel_rfl) (by kernel_rfl) (fun _ => rfl) rfl (fun x => spec_l2Fit_b_S x.1) (fun _ => ⟨rfl, rfl, rfl, rfl, rfl⟩) (fun x _ => spec_l2Fit_b_ok G x.1)
def sp_spec_BatchOf : SP := [(56, s_spec_RowsOk), (88, s_spec_l2Sum), (87, s_spec_l2Fit)]
abbrev F130 : Fnn := ⟨[.tmp 2], .one .sh (.lst .row), none, []⟩
abbrev rv130 : LR → RV := fun q => (some (RT.av (.one .sh (.lst .row)) q), .dead)
abbrev Ok130 (fr : Fr) {A X Y Z : Type} (S : SubP LR A X Y Z) : Prop := SubOk Try.prog tt ⟨Try.f130.ntmps, none, []⟩ fr (bodyOf Try.f130) F130 S
def spec_BatchOf_b_t (a0 : LR) : Tr LR Empty Empty Empty Empty :=
  .w [(p_spec_RowsOk a0)] (.c (!(v_spec_RowsOk a0))
  (.l (.r []))
  (.w [(p_spec_l2Sum a0), (p_spec_l2Fit (v_spec_l2Sum a0))] (.l (.r (v_spec_l2Fit (v_spec_l2Sum a0))))))
def spec_BatchOf_b := fun a0 => (spec_BatchOf_b_t a0).val
def spec_BatchOf_b_ob := fun a0 => (spec_BatchOf_b_t a0).ob
def spec_BatchOf_b_S := fun a0 => SubP.mk (spec_BatchOf_b a0) (spec_BatchOf_b_ob a0) [] [(0, .S .row a0)] rv130 nE nE nE nE
theorem spec_BatchOf_b_ok (G : Good Try.prog tt sp_spec_BatchOf) {fr : Fr} : ∀ a0, Ok130 fr (spec_BatchOf_b_S a0) :=
  fun a0 => run_ok G [] trivial [(0,[0]),(1,[0,5]),(2,[2]),(3,[2])] [] [] (spec_BatchOf_b_t a0) rfl rfl (by kernel_rfl)
def v_spec_BatchOf (a0 : LR) : LR := ocR (spec_BatchOf_b a0)
def p_spec_BatchOf (a0 : LR) : Prop := spec_BatchOf_b_ob a0
def s_spec_BatchOf : Spec := ⟨[(.lst .row)], .one .sh (.lst .row), false, fun x => (v_spec_BatchOf x.1, 0), fun x => p_spec_BatchOf x.1⟩
theorem con_spec_BatchOf (G : Good Try.prog tt sp_spec_BatchOf) : Con Try.prog 130 s_spec_BatchOf :=
  con_run (pts := [(.lst .row)]) (rt := .one .sh (.lst .row)) (o := fun x => spec_BatchOf_b x.1) (ob := fun x => spec_BatchOf_b_ob x.1) G (fn := Try.f130) (c := bodyOf Try.f130) (by kernel_rfl) (by kernel_rfl) (by kernel_rfl) (rs := [.tmp 2]) (fz := F130.fz) (by kernel_rfl) (by kernel_rfl) (fun _ => rfl) rfl (fun x => spec_BatchOf_b_S x.1) (fun _ => ⟨rfl, rfl, rfl, rfl, rfl⟩) (fun x _ => spec_BatchOf_b_ok G x.1)
def sp_spec_l71Early : SP := [(129, s_spec_l71Rows), (130, s_spec_BatchOf)]
abbrev F100 : Fnn := ⟨[.tmp 4], .one .sh (.lst .row), some 0, []⟩
abbrev rv100 (b : LB) : LR × Int → RV := fun q => (some (RT.av (.one .sh (.lst .row)) q.1), .box [(.sh, .lst .byte b), (.fr, .i q.2)])
abbrev Ok100 (fr : Fr) {A X Y Z : Type} (S : SubP (LR × Int) A X Y Z) : Prop := SubOk Try.prog tt ⟨Try.f100.ntmps, some 0, []⟩ fr (bodyOf Try.f100) F100 S
def spec_l71Early_c2_r_t (_x4 : LB) (_x5 : Int) (_x6 s10 : LR) (s11 : Int) : Tr (LR × Int) (LR × Int) LR Empty Empty :=
  .c (cmp .lss s11 (lenI .row s10))
  (.w [inb s11 (lenI .row s10), inb s11 (lenI .row s10)] (.l (.n ((List.set s10 (Int.toNat s11) (Row.mk (rd .row s10 s11).Key (rd .row s10 s11).Val (Time.mk (rd .row s10 s11).At.A 0) (rd .row s10 s11).Diff)), (ar .add .i64 s11 1)))))
  (.l (.x s10))
def spec_l71Early_c2_r := fun x4 x5 x6 s10 s11 => (spec_l71Early_c2_r_t x4 x5 x6 s10 s11).val
def spec_l71Early_c2_r_ob := fun x4 x5 x6 s10 s11 => (spec_l71Early_c2_r_t x4 x5 x6 s10 s11).ob
def spec_l71Early_c2_r_S := fun x4 x5 x6 s10 s11 => mkRd (spec_l71Early_c2_r x4 x5 x6 s10 s11) (spec_l71Early_c2_r_ob x4 x5 x6 s10 s11) [0,0,1,0,1,1] (fun q => [(0, .box [(.sh, .lst .byte x4), (.fr, .i x5)]), (5, .A .row q.1), (6, .I q.2)]) (s10, s11) (rv100 x4) (fun q => (0, [(0, .box [(.sh, .lst .byte x4), (.fr, .i x5)]), (5, .A .row q)])) nE nE
theorem spec_l71Early_c2_r_ok (G : Good Try.prog tt sp_spec_l71Early) {fr : Fr} : ∀ x4 x5 x6 s10 s11, Ok100 fr (spec_l71Early_c2_r_S x4 x5 x6 s10 s11) :=
  fun x4 x5 x6 s10 s11 => run_ok G [] trivial [(3,[0,5,6,13]),(4,[0,5,6]),(5,[0,5,6])] [(5,5)] [(5,false,5)] (spec_l71Early_c2_r_t x4 x5 x6 s10 s11) rfl rfl (by kernel_rfl)
def spec_l71Early_c2 := fun x4 x5 x6 => lpV (fun s : LR × Int => ocLp (spec_l71Early_c2_r x4 x5 x6 s.1 s.2)) (x6, 0)
def spec_l71Early_c2_ob := fun x4 x5 x6 => LpT (fun s : LR × Int => ocLp (spec_l71Early_c2_r x4 x5 x6 s.1 s.2)) (fun s => spec_l71Early_c2_r_ob x4 x5 x6 s.1 s.2) (x6, 0)
def spec_l71Early_c2_S := fun x4 x5 x6 => lpS (spec_l71Early_c2_r_S x4 x5 x6 x6 0) (spec_l71Early_c2 x4 x5 x6) (spec_l71Early_c2_ob x4 x5 x6)
theorem spec_l71Early_c2_ok (G : Good Try.prog tt sp_spec_l71Early) {fr : Fr} : ∀ x4 x5 x6, Ok100 fr (spec_l71Early_c2_S x4 x5 x6) :=
  fun x4 x5 x6 => loop_ok (fun s : LR × Int => spec_l71Early_c2_r_S x4 x5 x6 s.1 s.2) (x6, 0) (fun _ => rfl) (fun _ => ⟨rfl, rfl, rfl, rfl, rfl⟩) (by kernel_rfl) fun _ => spec_l71Early_c2_r_ok G _ _ _ _ _
def spec_l71Early_c1_t (x1 : LB) (x2 : Int) (x3 : LR) : Tr (LR × Int) LR Empty Empty Empty :=
  .s (spec_l71Early_c2_S x1 x2 x3) nE (fun q20 => .l (.n q20)) nE nE
def spec_l71Early_c1 := fun x1 x2 x3 => (spec_l71Early_c1_t x1 x2 x3).val
def spec_l71Early_c1_ob := fun x1 x2 x3 => (spec_l71Early_c1_t x1 x2 x3).ob
def spec_l71Early_c1_S := fun x1 x2 x3 => SubP.mk (spec_l71Early_c1 x1 x2 x3) (spec_l71Early_c1_ob x1 x2 x3) [0,1,1] [(0, .box [(.sh, .lst .byte x1), (.fr, .i x2)]), (5, .A .row x3)] (rv100 x1) (fun q => [(0, .box [(.sh, .lst .byte x1), (.fr, .i x2)]), (5, .A .row q)]) nE nE nE
theorem spec_l71Early_c1_ok (G : Good Try.prog tt sp_spec_l71Early) {fr : Fr} : ∀ x1 x2 x3, Ok100 fr (spec_l71Early_c1_S x1 x2 x3) :=
  fun x1 x2 x3 => run_ok G [([0,1,0,1,1], fun e => ⟨spec_l71Early_c2_S (gL .byte e 0 0) (gI e 0 1) (gL .row e 5 0)⟩)] ⟨fun _ => ⟨rfl, spec_l71Early_c2_ok G _ _ _⟩, trivial⟩ [(2,[0,5,6])] [] [] (spec_l71Early_c1_t x1 x2 x3) rfl rfl (by kernel_rfl)
def spec_l71Early_b_t (a0 : (LB × Int)) (a1 : Int) : Tr (LR × Int) Empty Empty Empty Empty :=
  .w [(p_spec_l71Rows (a0.1, a0.2) a1)] (.s (spec_l71Early_c1_S a0.1 (v_spec_l71Rows (a0.1, a0.2) a1).2 (v_spec_l71Rows (a0.1, a0.2) a1).1) (fun q23 => .w [(p_spec_BatchOf q23)] (.l (.r ((v_spec_BatchOf q23), (v_spec_l71Rows (a0.1, a0.2) a1).2)))) nE nE nE)
def spec_l71Early_b := fun a0 a1 => (spec_l71Early_b_t a0 a1).val
def spec_l71Early_b_ob := fun a0 a1 => (spec_l71Early_b_t a0 a1).ob
def spec_l71Early_b_S := fun a0 a1 => SubP.mk (spec_l71Early_b a0 a1) (spec_l71Early_b_ob a0 a1) [] [(0, .box [(.sh, .lst .byte a0.1), (.fr, .i a0.2)]), (1, .I a1)] (rv100 a0.1) nE nE nE nE
theorem spec_l71Early_b_ok (G : Good Try.prog tt sp_spec_l71Early) {fr : Fr} : ∀ a0 a1, Ok100 fr (spec_l71Early_b_S a0 a1) :=
  fun a0 a1 => run_ok G [([0,1,1], fun e => ⟨spec_l71Early_c1_S (gL .byte e 0 0) (gI e 0 1) (gL .row e 5 0)⟩)] ⟨fun _ => ⟨rfl, spec_l71Early_c1_ok G _ _ _⟩, trivial⟩ [(0,[0,1]),(1,[0,5]),(6,[0,4])] [] [] (spec_l71Early_b_t a0 a1) rfl rfl (by kernel_rfl)
def v_spec_l71Early (a0 : (LB × Int)) (a1 : Int) : LR × Int := ocR (spec_l71Early_b a0 a1)
def p_spec_l71Early (a0 : (LB × Int)) (a1 : Int) : Prop := spec_l71Early_b_ob a0 a1
def s_spec_l71Early : Spec := ⟨[.rdr, (.int .i64)], .one .sh (.lst .row), true, fun x => v_spec_l71Early x.1 x.2.1, fun x => p_spec_l71Early x.1 x.2.1⟩
theorem con_spec_l71Early (G : Good Try.prog tt sp_spec_l71Early) : Con Try.prog 100 s_spec_l71Early :=
  con_rdr (pts := [.rdr, (.int .i64)]) (rt := .one .sh (.lst .row)) (o := fun x => spec_l71Early_b x.1 x.2.1) (ob := fun x => spec_l71Early_b_ob x.1 x.2.1) G (fn := Try.f100) (c := bodyOf Try.f100) (by kernel_rfl) (by kernel_rfl) (by kernel_rfl) (rs := [.tmp 4]) (fz := F100.fz) (by kernel_rfl) (by kernel_rfl) (fun h => Bool.noConfusion h) rfl (fun x => x.1.1) (fun _ => rfl) (fun x => spec_l71Early_b_S x.1 x.2.1) (fun _ => ⟨rfl, rfl, rfl, rfl, rfl⟩) (fun x _ => spec_l71Early_b_ok G x.1 x.2.1)
def sp_spec_l22Ahead : SP := []
abbrev F102 : Fnn := ⟨[.tmp 2], .one .fr .bool, none, []⟩
abbrev rv102 : Bool → RV := fun q => (some (RT.av (.one .fr .bool) q), .dead)
abbrev Ok102 (fr : Fr) {A X Y Z : Type} (S : SubP Bool A X Y Z) : Prop := SubOk Try.prog tt ⟨Try.f102.ntmps, none, []⟩ fr (bodyOf Try.f102) F102 S
def spec_l22Ahead_c2_r_t (x2 : LR) (s6 : Int) : Tr Bool Int Unit Empty Empty :=
  .c (cmp .lss s6 (lenI .row x2))
  (.w [inb s6 (lenI .row x2)] (.c (cmp .neq (rd .row x2 s6).At.B 0)
  (.l (.r false))
  (.l (.n (ar .add .i64 s6 1)))))
  (.l (.x ()))
def spec_l22Ahead_c2_r := fun x2 s6 => (spec_l22Ahead_c2_r_t x2 s6).val
def spec_l22Ahead_c2_r_ob := fun x2 s6 => (spec_l22Ahead_c2_r_t x2 s6).ob
def spec_l22Ahead_c2_r_S := fun x2 s6 => mkRd (spec_l22Ahead_c2_r x2 s6) (spec_l22Ahead_c2_r_ob x2 s6) [0,0,1,0,1] (fun q => [(0, .S .row x2), (3, .I q)]) s6 rv102 (fun _ => (0, [])) nE nE
theorem spec_l22Ahead_c2_r_ok (G : Good Try.prog tt sp_spec_l22Ahead) {fr : Fr} : ∀ x2 s6, Ok102 fr (spec_l22Ahead_c2_r_S x2 s6) :=
  fun x2 s6 => run_ok G [] trivial [(2,[0,3,7]),(3,[0,3]),(4,[0,3,16]),(5,[2])] [] [] (spec_l22Ahead_c2_r_t x2 s6) rfl rfl (by kernel_rfl)
def spec_l22Ahead_c2 := fun x2 => lpV (fun s : Int => ocLp (spec_l22Ahead_c2_r x2 s)) 0
def spec_l22Ahead_c2_ob := fun x2 => LpT (fun s : Int => ocLp (spec_l22Ahead_c2_r x2 s)) (fun s => spec_l22Ahead_c2_r_ob x2 s) 0
def spec_l22Ahead_c2_S := fun x2 => lpS (spec_l22Ahead_c2_r_S x2 0) (spec_l22Ahead_c2 x2) (spec_l22Ahead_c2_ob x2)
theorem spec_l22Ahead_c2_ok (G : Good Try.prog tt sp_spec_l22Ahead) {fr : Fr} : ∀ x2, Ok102 fr (spec_l22Ahead_c2_S x2) :=
  fun x2 => loop_ok (fun s : Int => spec_l22Ahead_c2_r_S x2 s) 0 (fun _ => rfl) (fun _ => ⟨rfl, rfl, rfl, rfl, rfl⟩) (by kernel_rfl) fun _ => spec_l22Ahead_c2_r_ok G _ _
def spec_l22Ahead_c1_t (x1 : LR) : Tr Bool Unit Empty Empty Empty :=
  .s (spec_l22Ahead_c2_S x1) nE (fun _ => .l (.n ())) nE nE
def spec_l22Ahead_c1 := fun x1 => (spec_l22Ahead_c1_t x1).val
def spec_l22Ahead_c1_ob := fun x1 => (spec_l22Ahead_c1_t x1).ob
def spec_l22Ahead_c1_S := fun x1 => SubP.mk (spec_l22Ahead_c1 x1) (spec_l22Ahead_c1_ob x1) [0,1] [(0, .S .row x1)] rv102 (fun _ => []) nE nE nE
theorem spec_l22Ahead_c1_ok (G : Good Try.prog tt sp_spec_l22Ahead) {fr : Fr} : ∀ x1, Ok102 fr (spec_l22Ahead_c1_S x1) :=
  fun x1 => run_ok G [([0,1,0,1], fun e => ⟨spec_l22Ahead_c2_S (gL .row e 0 0)⟩)] ⟨fun _ => ⟨rfl, spec_l22Ahead_c2_ok G _⟩, trivial⟩ [(1,[0,3])] [] [] (spec_l22Ahead_c1_t x1) rfl rfl (by kernel_rfl)
def spec_l22Ahead_b_t (a0 : LR) : Tr Bool Empty Empty Empty Empty :=
  .s (spec_l22Ahead_c1_S a0) (fun _ => .l (.r true)) nE nE nE
def spec_l22Ahead_b := fun a0 => (spec_l22Ahead_b_t a0).val
def spec_l22Ahead_b_ob := fun a0 => (spec_l22Ahead_b_t a0).ob
def spec_l22Ahead_b_S := fun a0 => SubP.mk (spec_l22Ahead_b a0) (spec_l22Ahead_b_ob a0) [] [(0, .S .row a0)] rv102 nE nE nE nE
theorem spec_l22Ahead_b_ok (G : Good Try.prog tt sp_spec_l22Ahead) {fr : Fr} : ∀ a0, Ok102 fr (spec_l22Ahead_b_S a0) :=
  fun a0 => run_ok G [([0,1], fun e => ⟨spec_l22Ahead_c1_S (gL .row e 0 0)⟩)] ⟨fun _ => ⟨rfl, spec_l22Ahead_c1_ok G _⟩, trivial⟩ [(0,[0]),(6,[2])] [] [] (spec_l22Ahead_b_t a0) rfl rfl (by kernel_rfl)
def v_spec_l22Ahead (a0 : LR) : Bool := ocR (spec_l22Ahead_b a0)
def p_spec_l22Ahead (a0 : LR) : Prop := spec_l22Ahead_b_ob a0
def s_spec_l22Ahead : Spec := ⟨[(.lst .row)], .one .fr .bool, false, fun x => (v_spec_l22Ahead x.1, 0), fun x => p_spec_l22Ahead x.1⟩
theorem con_spec_l22Ahead (G : Good Try.prog tt sp_spec_l22Ahead) : Con Try.prog 102 s_spec_l22Ahead :=
  con_run (pts := [(.lst .row)]) (rt := .one .fr .bool) (o := fun x => spec_l22Ahead_b x.1) (ob := fun x => spec_l22Ahead_b_ob x.1) G (fn := Try.f102) (c := bodyOf Try.f102) (by kernel_rfl) (by kernel_rfl) (by kernel_rfl) (rs := [.tmp 2]) (fz := F102.fz) (by kernel_rfl) (by kernel_rfl) (fun _ => rfl) rfl (fun x => spec_l22Ahead_b_S x.1) (fun _ => ⟨rfl, rfl, rfl, rfl, rfl⟩) (fun x _ => spec_l22Ahead_b_ok G x.1)
def sp_spec_LoopFlow : SP := [(101, s_spec_BatchOk), (102, s_spec_l22Ahead), (93, s_spec_l6In), (103, s_spec_BatchAt), (42, s_spec_LoopSet), (104, s_spec_TimeLess), (81, s_spec_l2Items), (88, s_spec_l2Sum)]
abbrev F52 : Fnn := ⟨[.tmp 6, .tmp 7], .tup [(false, (.lst .row)), (true, .bool)], none, []⟩
abbrev rv52 : LR × Bool × Unit → RV := fun q => (some (RT.av (.tup [(false, (.lst .row)), (true, .bool)]) q), .dead)
abbrev Ok52 (fr : Fr) {A X Y Z : Type} (S : SubP (LR × Bool × Unit) A X Y Z) : Prop := SubOk Try.prog tt ⟨Try.f52.ntmps, none, []⟩ fr (bodyOf Try.f52) F52 S
def spec_LoopFlow_c8_t (_x347 _x348 : LR) (_x349 : Int) (x350 : LR) (x351 x352 : Int) (x353 : LI) (x354 : Int) : Tr (LR × Bool × Unit) LI Empty Empty Empty :=
  .w [inb x354 (lenI .row x350), (p_spec_TimeLess (rd .row x350 x354).At (Time.mk x352 x351))] (.c (v_spec_TimeLess (rd .row x350 x354).At (Time.mk x352 x351))
  (.w [inb x354 (lenI .row x350), inb x354 (lenI .row x350), inb x354 (lenI .row x350), lim (lenI .item x353) (lenI .item [(Item.mk (rd .row x350 x354).Key (rd .row x350 x354).Val (IntKind.wrap .i64 (0 - (rd .row x350 x354).Diff)))])] (.l (.n (x353 ++ [(Item.mk (rd .row x350 x354).Key (rd .row x350 x354).Val (IntKind.wrap .i64 (0 - (rd .row x350 x354).Diff)))]))))
  (.l (.n x353)))
def spec_LoopFlow_c8 := fun x347 x348 x349 x350 x351 x352 x353 x354 => (spec_LoopFlow_c8_t x347 x348 x349 x350 x351 x352 x353 x354).val
def spec_LoopFlow_c8_ob := fun x347 x348 x349 x350 x351 x352 x353 x354 => (spec_LoopFlow_c8_t x347 x348 x349 x350 x351 x352 x353 x354).ob
def spec_LoopFlow_c8_S := fun x347 x348 x349 x350 x351 x352 x353 x354 => SubP.mk (spec_LoopFlow_c8 x347 x348 x349 x350 x351 x352 x353 x354) (spec_LoopFlow_c8_ob x347 x348 x349 x350 x351 x352 x353 x354) [0,1,0,0,1,0,1,1,1,0,0,1,0,0,1,0,0,1,0,0,1,0,1,1,1] [(0, .S .row x347), (1, .S .row x348), (2, .I x349), (8, .A .row x350), (9, .I x351), (10, .I x352), (12, .A .item x353), (13, .box [(.fr, .i x352), (.fr, .i x351)]), (14, .I x354)] rv52 (fun q => [(0, .S .row x347), (1, .S .row x348), (2, .I x349), (8, .A .row x350), (9, .I x351), (10, .I x352), (12, .A .item q), (13, .box [(.fr, .i x352), (.fr, .i x351)]), (14, .I x354)]) nE nE nE
theorem spec_LoopFlow_c8_ok (G : Good Try.prog tt sp_spec_LoopFlow) {fr : Fr} : ∀ x347 x348 x349 x350 x351 x352 x353 x354, Ok52 fr (spec_LoopFlow_c8_S x347 x348 x349 x350 x351 x352 x353 x354) :=
  fun x347 x348 x349 x350 x351 x352 x353 x354 => run_ok G [] trivial [(16,[0,1,2,8,9,10,12,13,14,75]),(17,[0,1,2,8,9,10,12,13,14])] [] [] (spec_LoopFlow_c8_t x347 x348 x349 x350 x351 x352 x353 x354) rfl rfl (by kernel_rfl)
def spec_LoopFlow_c7_r_t (x321 x322 : LR) (x323 : Int) (x324 : LR) (x325 x326 : Int) (_x327 s344 : LI) (s345 : Int) : Tr (LR × Bool × Unit) (LI × Int) LI Empty Empty :=
  .c (cmp .lss s345 (lenI .row x324))
  (.s (spec_LoopFlow_c8_S x321 x322 x323 x324 x325 x326 s344 s345) (fun q357 => .l (.n (q357, (ar .add .i64 s345 1)))) nE nE nE)
  (.l (.x s344))
def spec_LoopFlow_c7_r := fun x321 x322 x323 x324 x325 x326 x327 s344 s345 => (spec_LoopFlow_c7_r_t x321 x322 x323 x324 x325 x326 x327 s344 s345).val
def spec_LoopFlow_c7_r_ob := fun x321 x322 x323 x324 x325 x326 x327 s344 s345 => (spec_LoopFlow_c7_r_t x321 x322 x323 x324 x325 x326 x327 s344 s345).ob
def spec_LoopFlow_c7_r_S := fun x321 x322 x323 x324 x325 x326 x327 s344 s345 => mkRd (spec_LoopFlow_c7_r x321 x322 x323 x324 x325 x326 x327 s344 s345) (spec_LoopFlow_c7_r_ob x321 x322 x323 x324 x325 x326 x327 s344 s345) [0,0,1,0,1,1,1,0,0,1,0,0,1,0,0,1,0,0,1,0,1,1,1] (fun q => [(0, .S .row x321), (1, .S .row x322), (2, .I x323), (8, .A .row x324), (9, .I x325), (10, .I x326), (12, .A .item q.1), (13, .box [(.fr, .i x326), (.fr, .i x325)]), (14, .I q.2)]) (s344, s345) rv52 (fun q => (4, [(0, .S .row x321), (1, .S .row x322), (2, .I x323), (8, .A .row x324), (9, .I x325), (10, .I x326), (12, .A .item q), (13, .box [(.fr, .i x326), (.fr, .i x325)])])) nE nE
theorem spec_LoopFlow_c7_r_ok (G : Good Try.prog tt sp_spec_LoopFlow) {fr : Fr} : ∀ x321 x322 x323 x324 x325 x326 x327 s344 s345, Ok52 fr (spec_LoopFlow_c7_r_S x321 x322 x323 x324 x325 x326 x327 s344 s345) :=
  fun x321 x322 x323 x324 x325 x326 x327 s344 s345 => run_ok G [([0,1,0,0,1,0,1,1,1,0,0,1,0,0,1,0,0,1,0,0,1,0,1,1,1], fun e => ⟨spec_LoopFlow_c8_S (gL .row e 0 0) (gL .row e 1 0) (gI e 2 0) (gL .row e 8 0) (gI e 9 0) (gI e 10 0) (gL .item e 12 0) (gI e 14 0)⟩)] ⟨fun _ => ⟨rfl, spec_LoopFlow_c8_ok G _ _ _ _ _ _ _ _⟩, trivial⟩ [(14,[0,1,2,8,9,10,12,13,14,66]),(15,[0,1,2,8,9,10,12,13,14])] [] [] (spec_LoopFlow_c7_r_t x321 x322 x323 x324 x325 x326 x327 s344 s345) rfl rfl (by kernel_rfl)
def spec_LoopFlow_c7 := fun x321 x322 x323 x324 x325 x326 x327 => lpV (fun s : LI × Int => ocLp (spec_LoopFlow_c7_r x321 x322 x323 x324 x325 x326 x327 s.1 s.2)) (x327, 0)
def spec_LoopFlow_c7_ob := fun x321 x322 x323 x324 x325 x326 x327 => LpT (fun s : LI × Int => ocLp (spec_LoopFlow_c7_r x321 x322 x323 x324 x325 x326 x327 s.1 s.2)) (fun s => spec_LoopFlow_c7_r_ob x321 x322 x323 x324 x325 x326 x327 s.1 s.2) (x327, 0)
def spec_LoopFlow_c7_S := fun x321 x322 x323 x324 x325 x326 x327 => lpS (spec_LoopFlow_c7_r_S x321 x322 x323 x324 x325 x326 x327 x327 0) (spec_LoopFlow_c7 x321 x322 x323 x324 x325 x326 x327) (spec_LoopFlow_c7_ob x321 x322 x323 x324 x325 x326 x327)
theorem spec_LoopFlow_c7_ok (G : Good Try.prog tt sp_spec_LoopFlow) {fr : Fr} : ∀ x321 x322 x323 x324 x325 x326 x327, Ok52 fr (spec_LoopFlow_c7_S x321 x322 x323 x324 x325 x326 x327) :=
  fun x321 x322 x323 x324 x325 x326 x327 => loop_ok (fun s : LI × Int => spec_LoopFlow_c7_r_S x321 x322 x323 x324 x325 x326 x327 s.1 s.2) (x327, 0) (fun _ => rfl) (fun _ => ⟨rfl, rfl, rfl, rfl, rfl⟩) (by kernel_rfl) fun _ => spec_LoopFlow_c7_r_ok G _ _ _ _ _ _ _ _ _
def spec_LoopFlow_c6_t (x314 x315 : LR) (x316 : Int) (x317 : LR) (x318 x319 : Int) (x320 : LI) : Tr (LR × Bool × Unit) LI Empty Empty Empty :=
  .s (spec_LoopFlow_c7_S x314 x315 x316 x317 x318 x319 x320) nE (fun q368 => .l (.n q368)) nE nE
def spec_LoopFlow_c6 := fun x314 x315 x316 x317 x318 x319 x320 => (spec_LoopFlow_c6_t x314 x315 x316 x317 x318 x319 x320).val
def spec_LoopFlow_c6_ob := fun x314 x315 x316 x317 x318 x319 x320 => (spec_LoopFlow_c6_t x314 x315 x316 x317 x318 x319 x320).ob
def spec_LoopFlow_c6_S := fun x314 x315 x316 x317 x318 x319 x320 => SubP.mk (spec_LoopFlow_c6 x314 x315 x316 x317 x318 x319 x320) (spec_LoopFlow_c6_ob x314 x315 x316 x317 x318 x319 x320) [0,1,1,1,0,0,1,0,0,1,0,0,1,0,0,1,0,1,1,1] [(0, .S .row x314), (1, .S .row x315), (2, .I x316), (8, .A .row x317), (9, .I x318), (10, .I x319), (12, .A .item x320), (13, .box [(.fr, .i x319), (.fr, .i x318)])] rv52 (fun q => [(0, .S .row x314), (1, .S .row x315), (2, .I x316), (8, .A .row x317), (9, .I x318), (10, .I x319), (12, .A .item q), (13, .box [(.fr, .i x319), (.fr, .i x318)])]) nE nE nE
theorem spec_LoopFlow_c6_ok (G : Good Try.prog tt sp_spec_LoopFlow) {fr : Fr} : ∀ x314 x315 x316 x317 x318 x319 x320, Ok52 fr (spec_LoopFlow_c6_S x314 x315 x316 x317 x318 x319 x320) :=
  fun x314 x315 x316 x317 x318 x319 x320 => run_ok G [([0,1,0,1,1,1,0,0,1,0,0,1,0,0,1,0,0,1,0,1,1,1], fun e => ⟨spec_LoopFlow_c7_S (gL .row e 0 0) (gL .row e 1 0) (gI e 2 0) (gL .row e 8 0) (gI e 9 0) (gI e 10 0) (gL .item e 12 0)⟩)] ⟨fun _ => ⟨rfl, spec_LoopFlow_c7_ok G _ _ _ _ _ _ _⟩, trivial⟩ [(13,[0,1,2,8,9,10,12,13,14])] [] [] (spec_LoopFlow_c6_t x314 x315 x316 x317 x318 x319 x320) rfl rfl (by kernel_rfl)
def spec_LoopFlow_c9_r_t (_x373 _x374 : LR) (_x375 : Int) (_x376 : LR) (x377 x378 : Int) (x379 : LI) (s383 : LR) (s384 : Int) : Tr (LR × Bool × Unit) (LR × Int) LR Empty Empty :=
  .c (cmp .lss s384 (lenI .item x379))
  (.w [inb s384 (lenI .item x379), inb s384 (lenI .item x379), inb s384 (lenI .item x379), lim (lenI .row s383) (lenI .row [(Row.mk (rd .item x379 s384).Key (rd .item x379 s384).Val (Time.mk x378 x377) (rd .item x379 s384).Count)])] (.l (.n ((s383 ++ [(Row.mk (rd .item x379 s384).Key (rd .item x379 s384).Val (Time.mk x378 x377) (rd .item x379 s384).Count)]), (ar .add .i64 s384 1)))))
  (.l (.x s383))
def spec_LoopFlow_c9_r := fun x373 x374 x375 x376 x377 x378 x379 s383 s384 => (spec_LoopFlow_c9_r_t x373 x374 x375 x376 x377 x378 x379 s383 s384).val
def spec_LoopFlow_c9_r_ob := fun x373 x374 x375 x376 x377 x378 x379 s383 s384 => (spec_LoopFlow_c9_r_t x373 x374 x375 x376 x377 x378 x379 s383 s384).ob
def spec_LoopFlow_c9_r_S := fun x373 x374 x375 x376 x377 x378 x379 s383 s384 => mkRd (spec_LoopFlow_c9_r x373 x374 x375 x376 x377 x378 x379 s383 s384) (spec_LoopFlow_c9_r_ob x373 x374 x375 x376 x377 x378 x379 s383 s384) [0,0,1,1,1,1,1,1,0,0,1,0,0,1,0,0,1,0,0,1,0,1,1,1] (fun q => [(0, .S .row x373), (1, .S .row x374), (2, .I x375), (8, .A .row q.1), (9, .I x377), (10, .I x378), (12, .A .item x379), (13, .box [(.fr, .i x378), (.fr, .i x377)]), (15, .I q.2)]) (s383, s384) rv52 (fun q => (6, [(0, .S .row x373), (1, .S .row x374), (2, .I x375), (8, .A .row q), (9, .I x377), (10, .I x378)])) nE nE
theorem spec_LoopFlow_c9_r_ok (G : Good Try.prog tt sp_spec_LoopFlow) {fr : Fr} : ∀ x373 x374 x375 x376 x377 x378 x379 s383 s384, Ok52 fr (spec_LoopFlow_c9_r_S x373 x374 x375 x376 x377 x378 x379 s383 s384) :=
  fun x373 x374 x375 x376 x377 x378 x379 s383 s384 => run_ok G [] trivial [(20,[0,1,2,8,9,10,12,13,15,101]),(21,[0,1,2,8,9,10,12,13,15]),(22,[0,1,2,8,9,10,12,13,15])] [] [] (spec_LoopFlow_c9_r_t x373 x374 x375 x376 x377 x378 x379 s383 s384) rfl rfl (by kernel_rfl)
def spec_LoopFlow_c9 := fun x373 x374 x375 x376 x377 x378 x379 => lpV (fun s : LR × Int => ocLp (spec_LoopFlow_c9_r x373 x374 x375 x376 x377 x378 x379 s.1 s.2)) (x376, 0)
def spec_LoopFlow_c9_ob := fun x373 x374 x375 x376 x377 x378 x379 => LpT (fun s : LR × Int => ocLp (spec_LoopFlow_c9_r x373 x374 x375 x376 x377 x378 x379 s.1 s.2)) (fun s => spec_LoopFlow_c9_r_ob x373 x374 x375 x376 x377 x378 x379 s.1 s.2) (x376, 0)
def spec_LoopFlow_c9_S := fun x373 x374 x375 x376 x377 x378 x379 => lpS (spec_LoopFlow_c9_r_S x373 x374 x375 x376 x377 x378 x379 x376 0) (spec_LoopFlow_c9 x373 x374 x375 x376 x377 x378 x379) (spec_LoopFlow_c9_ob x373 x374 x375 x376 x377 x378 x379)
theorem spec_LoopFlow_c9_ok (G : Good Try.prog tt sp_spec_LoopFlow) {fr : Fr} : ∀ x373 x374 x375 x376 x377 x378 x379, Ok52 fr (spec_LoopFlow_c9_S x373 x374 x375 x376 x377 x378 x379) :=
  fun x373 x374 x375 x376 x377 x378 x379 => loop_ok (fun s : LR × Int => spec_LoopFlow_c9_r_S x373 x374 x375 x376 x377 x378 x379 s.1 s.2) (x376, 0) (fun _ => rfl) (fun _ => ⟨rfl, rfl, rfl, rfl, rfl⟩) (by kernel_rfl) fun _ => spec_LoopFlow_c9_r_ok G _ _ _ _ _ _ _ _ _
def spec_LoopFlow_c5_t (x308 x309 : LR) (x310 : Int) (x311 : LR) (x312 x313 : Int) : Tr (LR × Bool × Unit) LR Empty Empty Empty :=
  .w [(p_spec_BatchAt x308 (Time.mk x313 0)), (p_spec_BatchAt x309 (Time.mk x313 0)), (p_spec_LoopSet (v_spec_BatchAt x308 (Time.mk x313 0)) (v_spec_BatchAt x309 (Time.mk x313 0)) x312)] (.s (spec_LoopFlow_c6_S x308 x309 x310 x311 x312 x313 (v_spec_LoopSet (v_spec_BatchAt x308 (Time.mk x313 0)) (v_spec_BatchAt x309 (Time.mk x313 0)) x312)) (fun q371 => .w [(p_spec_l2Items q371)] (.s (spec_LoopFlow_c9_S x308 x309 x310 x311 x312 x313 (v_spec_l2Items q371)) nE (fun q393 => .l (.n q393)) nE nE)) nE nE nE)
def spec_LoopFlow_c5 := fun x308 x309 x310 x311 x312 x313 => (spec_LoopFlow_c5_t x308 x309 x310 x311 x312 x313).val
def spec_LoopFlow_c5_ob := fun x308 x309 x310 x311 x312 x313 => (spec_LoopFlow_c5_t x308 x309 x310 x311 x312 x313).ob
def spec_LoopFlow_c5_S := fun x308 x309 x310 x311 x312 x313 => SubP.mk (spec_LoopFlow_c5 x308 x309 x310 x311 x312 x313) (spec_LoopFlow_c5_ob x308 x309 x310 x311 x312 x313) [0,1,0,0,1,0,0,1,0,0,1,0,1,1,1] [(0, .S .row x308), (1, .S .row x309), (2, .I x310), (8, .A .row x311), (9, .I x312), (10, .I x313)] rv52 (fun q => [(0, .S .row x308), (1, .S .row x309), (2, .I x310), (8, .A .row q), (9, .I x312), (10, .I x313)]) nE nE nE
theorem spec_LoopFlow_c5_ok (G : Good Try.prog tt sp_spec_LoopFlow) {fr : Fr} : ∀ x308 x309 x310 x311 x312 x313, Ok52 fr (spec_LoopFlow_c5_S x308 x309 x310 x311 x312 x313) :=
  fun x308 x309 x310 x311 x312 x313 => run_ok G [([0,1,1,1,0,0,1,0,0,1,0,0,1,0,0,1,0,1,1,1], fun e => ⟨spec_LoopFlow_c6_S (gL .row e 0 0) (gL .row e 1 0) (gI e 2 0) (gL .row e 8 0) (gI e 9 0) (gI e 10 0) (gL .item e 12 0)⟩), ([0,1,1,1,1,1,1,0,0,1,0,0,1,0,0,1,0,0,1,0,1,1,1], fun e => ⟨spec_LoopFlow_c9_S (gL .row e 0 0) (gL .row e 1 0) (gI e 2 0) (gL .row e 8 0) (gI e 9 0) (gI e 10 0) (gL .item e 12 0)⟩)] ⟨fun _ => ⟨rfl, spec_LoopFlow_c6_ok G _ _ _ _ _ _ _⟩, fun _ => ⟨rfl, spec_LoopFlow_c9_ok G _ _ _ _ _ _ _⟩, trivial⟩ [(10,[0,1,2,8,9,10,11]),(11,[0,1,2,8,9,10,12]),(12,[0,1,2,8,9,10,12,13]),(18,[0,1,2,8,9,10,12,13]),(19,[0,1,2,8,9,10,12,13,15])] [] [] (spec_LoopFlow_c5_t x308 x309 x310 x311 x312 x313) rfl rfl (by kernel_rfl)
def spec_LoopFlow_c4_r_t (x209 x210 : LR) (x211 : Int) (_x212 : LR) (x213 : Int) (s305 : LR) (s306 : Int) : Tr (LR × Bool × Unit) (LR × Int) LR Empty Empty :=
  .c (cmp .leq s306 7)
  (.s (spec_LoopFlow_c5_S x209 x210 x211 s305 x213 s306) (fun q398 => .l (.n (q398, (ar .add .i64 s306 1)))) nE nE nE)
  (.l (.x s305))
def spec_LoopFlow_c4_r := fun x209 x210 x211 x212 x213 s305 s306 => (spec_LoopFlow_c4_r_t x209 x210 x211 x212 x213 s305 s306).val
def spec_LoopFlow_c4_r_ob := fun x209 x210 x211 x212 x213 s305 s306 => (spec_LoopFlow_c4_r_t x209 x210 x211 x212 x213 s305 s306).ob
def spec_LoopFlow_c4_r_S := fun x209 x210 x211 x212 x213 s305 s306 => mkRd (spec_LoopFlow_c4_r x209 x210 x211 x212 x213 s305 s306) (spec_LoopFlow_c4_r_ob x209 x210 x211 x212 x213 s305 s306) [0,0,1,0,0,1,0,0,1,0,1,1,1] (fun q => [(0, .S .row x209), (1, .S .row x210), (2, .I x211), (8, .A .row q.1), (9, .I x213), (10, .I q.2)]) (s305, s306) rv52 (fun q => (2, [(0, .S .row x209), (1, .S .row x210), (2, .I x211), (8, .A .row q), (9, .I x213)])) nE nE
theorem spec_LoopFlow_c4_r_ok (G : Good Try.prog tt sp_spec_LoopFlow) {fr : Fr} : ∀ x209 x210 x211 x212 x213 s305 s306, Ok52 fr (spec_LoopFlow_c4_r_S x209 x210 x211 x212 x213 s305 s306) :=
  fun x209 x210 x211 x212 x213 s305 s306 => run_ok G [([0,1,0,0,1,0,0,1,0,0,1,0,1,1,1], fun e => ⟨spec_LoopFlow_c5_S (gL .row e 0 0) (gL .row e 1 0) (gI e 2 0) (gL .row e 8 0) (gI e 9 0) (gI e 10 0)⟩)] ⟨fun _ => ⟨rfl, spec_LoopFlow_c5_ok G _ _ _ _ _ _⟩, trivial⟩ [(8,[0,1,2,8,9,10,47]),(9,[0,1,2,8,9,10])] [] [] (spec_LoopFlow_c4_r_t x209 x210 x211 x212 x213 s305 s306) rfl rfl (by kernel_rfl)
def spec_LoopFlow_c4 := fun x209 x210 x211 x212 x213 => lpV (fun s : LR × Int => ocLp (spec_LoopFlow_c4_r x209 x210 x211 x212 x213 s.1 s.2)) (x212, 0)
def spec_LoopFlow_c4_ob := fun x209 x210 x211 x212 x213 => LpT (fun s : LR × Int => ocLp (spec_LoopFlow_c4_r x209 x210 x211 x212 x213 s.1 s.2)) (fun s => spec_LoopFlow_c4_r_ob x209 x210 x211 x212 x213 s.1 s.2) (x212, 0)
def spec_LoopFlow_c4_S := fun x209 x210 x211 x212 x213 => lpS (spec_LoopFlow_c4_r_S x209 x210 x211 x212 x213 x212 0) (spec_LoopFlow_c4 x209 x210 x211 x212 x213) (spec_LoopFlow_c4_ob x209 x210 x211 x212 x213)
theorem spec_LoopFlow_c4_ok (G : Good Try.prog tt sp_spec_LoopFlow) {fr : Fr} : ∀ x209 x210 x211 x212 x213, Ok52 fr (spec_LoopFlow_c4_S x209 x210 x211 x212 x213) :=
  fun x209 x210 x211 x212 x213 => loop_ok (fun s : LR × Int => spec_LoopFlow_c4_r_S x209 x210 x211 x212 x213 s.1 s.2) (x212, 0) (fun _ => rfl) (fun _ => ⟨rfl, rfl, rfl, rfl, rfl⟩) (by kernel_rfl) fun _ => spec_LoopFlow_c4_r_ok G _ _ _ _ _ _ _
def spec_LoopFlow_c3_t (x204 x205 : LR) (x206 : Int) (x207 : LR) (x208 : Int) : Tr (LR × Bool × Unit) LR Empty Empty Empty :=
  .s (spec_LoopFlow_c4_S x204 x205 x206 x207 x208) nE (fun q409 => .l (.n q409)) nE nE
def spec_LoopFlow_c3 := fun x204 x205 x206 x207 x208 => (spec_LoopFlow_c3_t x204 x205 x206 x207 x208).val
def spec_LoopFlow_c3_ob := fun x204 x205 x206 x207 x208 => (spec_LoopFlow_c3_t x204 x205 x206 x207 x208).ob
def spec_LoopFlow_c3_S := fun x204 x205 x206 x207 x208 => SubP.mk (spec_LoopFlow_c3 x204 x205 x206 x207 x208) (spec_LoopFlow_c3_ob x204 x205 x206 x207 x208) [0,1,0,0,1,0,1,1,1] [(0, .S .row x204), (1, .S .row x205), (2, .I x206), (8, .A .row x207), (9, .I x208)] rv52 (fun q => [(0, .S .row x204), (1, .S .row x205), (2, .I x206), (8, .A .row q), (9, .I x208)]) nE nE nE
theorem spec_LoopFlow_c3_ok (G : Good Try.prog tt sp_spec_LoopFlow) {fr : Fr} : ∀ x204 x205 x206 x207 x208, Ok52 fr (spec_LoopFlow_c3_S x204 x205 x206 x207 x208) :=
  fun x204 x205 x206 x207 x208 => run_ok G [([0,1,0,0,1,0,0,1,0,1,1,1], fun e => ⟨spec_LoopFlow_c4_S (gL .row e 0 0) (gL .row e 1 0) (gI e 2 0) (gL .row e 8 0) (gI e 9 0)⟩)] ⟨fun _ => ⟨rfl, spec_LoopFlow_c4_ok G _ _ _ _ _⟩, trivial⟩ [(7,[0,1,2,8,9,10])] [] [] (spec_LoopFlow_c3_t x204 x205 x206 x207 x208) rfl rfl (by kernel_rfl)
def spec_LoopFlow_c2_r_t (x5 x6 : LR) (x7 : Int) (s201 : LR) (s202 : Int) : Tr (LR × Bool × Unit) (LR × Int) LR Empty Empty :=
  .c (cmp .leq s202 x7)
  (.s (spec_LoopFlow_c3_S x5 x6 x7 s201 s202) (fun q412 => .l (.n (q412, (ar .add .i64 s202 1)))) nE nE nE)
  (.l (.x s201))
def spec_LoopFlow_c2_r := fun x5 x6 x7 s201 s202 => (spec_LoopFlow_c2_r_t x5 x6 x7 s201 s202).val
def spec_LoopFlow_c2_r_ob := fun x5 x6 x7 s201 s202 => (spec_LoopFlow_c2_r_t x5 x6 x7 s201 s202).ob
def spec_LoopFlow_c2_r_S := fun x5 x6 x7 s201 s202 => mkRd (spec_LoopFlow_c2_r x5 x6 x7 s201 s202) (spec_LoopFlow_c2_r_ob x5 x6 x7 s201 s202) [0,0,1,0,1,1,1] (fun q => [(0, .S .row x5), (1, .S .row x6), (2, .I x7), (8, .A .row q.1), (9, .I q.2)]) (s201, s202) rv52 (fun q => (0, [(8, .A .row q)])) nE nE
theorem spec_LoopFlow_c2_r_ok (G : Good Try.prog tt sp_spec_LoopFlow) {fr : Fr} : ∀ x5 x6 x7 s201 s202, Ok52 fr (spec_LoopFlow_c2_r_S x5 x6 x7 s201 s202) :=
  fun x5 x6 x7 s201 s202 => run_ok G [([0,1,0,0,1,0,1,1,1], fun e => ⟨spec_LoopFlow_c3_S (gL .row e 0 0) (gL .row e 1 0) (gI e 2 0) (gL .row e 8 0) (gI e 9 0)⟩)] ⟨fun _ => ⟨rfl, spec_LoopFlow_c3_ok G _ _ _ _ _⟩, trivial⟩ [(5,[0,1,2,8,9,43]),(6,[0,1,2,8,9])] [] [] (spec_LoopFlow_c2_r_t x5 x6 x7 s201 s202) rfl rfl (by kernel_rfl)
def spec_LoopFlow_c2 := fun x5 x6 x7 => lpV (fun s : LR × Int => ocLp (spec_LoopFlow_c2_r x5 x6 x7 s.1 s.2)) ([], 1)
def spec_LoopFlow_c2_ob := fun x5 x6 x7 => LpT (fun s : LR × Int => ocLp (spec_LoopFlow_c2_r x5 x6 x7 s.1 s.2)) (fun s => spec_LoopFlow_c2_r_ob x5 x6 x7 s.1 s.2) ([], 1)
def spec_LoopFlow_c2_S := fun x5 x6 x7 => lpS (spec_LoopFlow_c2_r_S x5 x6 x7 [] 1) (spec_LoopFlow_c2 x5 x6 x7) (spec_LoopFlow_c2_ob x5 x6 x7)
theorem spec_LoopFlow_c2_ok (G : Good Try.prog tt sp_spec_LoopFlow) {fr : Fr} : ∀ x5 x6 x7, Ok52 fr (spec_LoopFlow_c2_S x5 x6 x7) :=
  fun x5 x6 x7 => loop_ok (fun s : LR × Int => spec_LoopFlow_c2_r_S x5 x6 x7 s.1 s.2) ([], 1) (fun _ => rfl) (fun _ => ⟨rfl, rfl, rfl, rfl, rfl⟩) (by kernel_rfl) fun _ => spec_LoopFlow_c2_r_ok G _ _ _ _ _
def spec_LoopFlow_c1_t (x2 x3 : LR) (x4 : Int) : Tr (LR × Bool × Unit) LR Empty Empty Empty :=
  .s (spec_LoopFlow_c2_S x2 x3 x4) nE (fun q423 => .l (.n q423)) nE nE
def spec_LoopFlow_c1 := fun x2 x3 x4 => (spec_LoopFlow_c1_t x2 x3 x4).val
def spec_LoopFlow_c1_ob := fun x2 x3 x4 => (spec_LoopFlow_c1_t x2 x3 x4).ob
def spec_LoopFlow_c1_S := fun x2 x3 x4 => SubP.mk (spec_LoopFlow_c1 x2 x3 x4) (spec_LoopFlow_c1_ob x2 x3 x4) [0,1,1,1] [(0, .S .row x2), (1, .S .row x3), (2, .I x4), (8, .A .row [])] rv52 (fun q => [(8, .A .row q)]) nE nE nE
theorem spec_LoopFlow_c1_ok (G : Good Try.prog tt sp_spec_LoopFlow) {fr : Fr} : ∀ x2 x3 x4, Ok52 fr (spec_LoopFlow_c1_S x2 x3 x4) :=
  fun x2 x3 x4 => run_ok G [([0,1,0,1,1,1], fun e => ⟨spec_LoopFlow_c2_S (gL .row e 0 0) (gL .row e 1 0) (gI e 2 0)⟩)] ⟨fun _ => ⟨rfl, spec_LoopFlow_c2_ok G _ _ _⟩, trivial⟩ [(4,[0,1,2,8,9])] [] [] (spec_LoopFlow_c1_t x2 x3 x4) rfl rfl (by kernel_rfl)
def spec_LoopFlow_b_t (a0 a1 : LR) (a2 : Int) : Tr (LR × Bool × Unit) Empty Empty Empty Empty :=
  .w [(p_spec_BatchOk a0), (((!(!(v_spec_BatchOk a0))) && true) = true → (p_spec_BatchOk a1)), (((!(cond (!(v_spec_BatchOk a0)) true (!(v_spec_BatchOk a1)))) && true) = true → (p_spec_l22Ahead a0)), (((!(cond (cond (!(v_spec_BatchOk a0)) true (!(v_spec_BatchOk a1))) true (!(v_spec_l22Ahead a0)))) && true) = true → (p_spec_l22Ahead a1)), (((!(cond (cond (cond (!(v_spec_BatchOk a0)) true (!(v_spec_BatchOk a1))) true (!(v_spec_l22Ahead a0))) true (!(v_spec_l22Ahead a1)))) && true) = true → (p_spec_l6In a2 1 6))] (.c (cond (cond (cond (cond (!(v_spec_BatchOk a0)) true (!(v_spec_BatchOk a1))) true (!(v_spec_l22Ahead a0))) true (!(v_spec_l22Ahead a1))) true (!(v_spec_l6In a2 1 6)))
  (.l (.r ([], (false, ()))))
  (.s (spec_LoopFlow_c1_S a0 a1 a2) (fun q426 => .w [(p_spec_l2Sum q426)] (.l (.r ((v_spec_l2Sum q426), (true, ()))))) nE nE nE))
def spec_LoopFlow_b := fun a0 a1 a2 => (spec_LoopFlow_b_t a0 a1 a2).val
def spec_LoopFlow_b_ob := fun a0 a1 a2 => (spec_LoopFlow_b_t a0 a1 a2).ob
def spec_LoopFlow_b_S := fun a0 a1 a2 => SubP.mk (spec_LoopFlow_b a0 a1 a2) (spec_LoopFlow_b_ob a0 a1 a2) [] [(0, .S .row a0), (1, .S .row a1), (2, .I a2)] rv52 nE nE nE nE
theorem spec_LoopFlow_b_ok (G : Good Try.prog tt sp_spec_LoopFlow) {fr : Fr} : ∀ a0 a1 a2, Ok52 fr (spec_LoopFlow_b_S a0 a1 a2) :=
  fun a0 a1 a2 => run_ok G [([0,1,1,1], fun e => ⟨spec_LoopFlow_c1_S (gL .row e 0 0) (gL .row e 1 0) (gI e 2 0)⟩)] ⟨fun _ => ⟨rfl, spec_LoopFlow_c1_ok G _ _ _⟩, trivial⟩ [(0,[0,1,2]),(1,[0,1,2,8]),(2,[0,1,2,8,39]),(3,[6,7]),(23,[6,7])] [] [] (spec_LoopFlow_b_t a0 a1 a2) rfl rfl (by kernel_rfl)
def v_spec_LoopFlow (a0 : LR) (a1 : LR) (a2 : Int) : LR × Bool × Unit := ocR (spec_LoopFlow_b a0 a1 a2)
def p_spec_LoopFlow (a0 : LR) (a1 : LR) (a2 : Int) : Prop := spec_LoopFlow_b_ob a0 a1 a2
def s_spec_LoopFlow : Spec := ⟨[(.lst .row), (.lst .row), (.int .i64)], .tup [(false, (.lst .row)), (true, .bool)], false, fun x => (v_spec_LoopFlow x.1 x.2.1 x.2.2.1, 0), fun x => p_spec_LoopFlow x.1 x.2.1 x.2.2.1⟩
theorem con_spec_LoopFlow (G : Good Try.prog tt sp_spec_LoopFlow) : Con Try.prog 52 s_spec_LoopFlow :=
  con_run (pts := [(.lst .row), (.lst .row), (.int .i64)]) (rt := .tup [(false, (.lst .row)), (true, .bool)]) (o := fun x => spec_LoopFlow_b x.1 x.2.1 x.2.2.1) (ob := fun x => spec_LoopFlow_b_ob x.1 x.2.1 x.2.2.1) G (fn := Try.f52) (c := bodyOf Try.f52) (by kernel_rfl) (by kernel_rfl) (by kernel_rfl) (rs := [.tmp 6, .tmp 7]) (fz := F52.fz) (by kernel_rfl) (by kernel_rfl) (fun _ => rfl) rfl (fun x => spec_LoopFlow_b_S x.1 x.2.1 x.2.2.1) (fun _ => ⟨rfl, rfl, rfl, rfl, rfl⟩) (fun x _ => spec_LoopFlow_b_ok G x.1 x.2.1 x.2.2.1)
def sp_impl_ahead : SP := []
abbrev F137 : Fnn := ⟨[.tmp 4], .one .fr .bool, none, []⟩
abbrev rv137 : Bool → RV := fun q => (some (RT.av (.one .fr .bool) q), .dead)
abbrev Ok137 (fr : Fr) {A X Y Z : Type} (S : SubP Bool A X Y Z) : Prop := SubOk Try.prog tt ⟨Try.f137.ntmps, none, []⟩ fr (bodyOf Try.f137) F137 S
def impl_ahead_b_t (a0 a1 : Time) : Tr Bool Empty Empty Empty Empty :=
  .l (.r (cond (cmp .lss a0.A a1.A) true (cond (cmp .eql a0.A a1.A) (cmp .lss a0.B a1.B) false)))
def impl_ahead_b := fun a0 a1 => (impl_ahead_b_t a0 a1).val
def impl_ahead_b_ob := fun a0 a1 => (impl_ahead_b_t a0 a1).ob
def impl_ahead_b_S := fun a0 a1 => SubP.mk (impl_ahead_b a0 a1) (impl_ahead_b_ob a0 a1) [] [(0, .agg true [.i a0.A, .i a0.B]), (1, .agg true [.i a1.A, .i a1.B])] rv137 nE nE nE nE
theorem impl_ahead_b_ok (G : Good Try.prog tt sp_impl_ahead) {fr : Fr} : ∀ a0 a1, Ok137 fr (impl_ahead_b_S a0 a1) :=
  fun a0 a1 => run_ok G [] trivial [(0,[2,3]),(1,[4])] [] [] (impl_ahead_b_t a0 a1) rfl rfl (by kernel_rfl)
def v_impl_ahead (a0 : Time) (a1 : Time) : Bool := ocR (impl_ahead_b a0 a1)
def p_impl_ahead (a0 : Time) (a1 : Time) : Prop := impl_ahead_b_ob a0 a1
def s_impl_ahead : Spec := ⟨[(.st .time), (.st .time)], .one .fr .bool, false, fun x => (v_impl_ahead x.1 x.2.1, 0), fun x => p_impl_ahead x.1 x.2.1⟩
theorem con_impl_ahead (G : Good Try.prog tt sp_impl_ahead) : Con Try.prog 137 s_impl_ahead :=
  con_run (pts := [(.st .time), (.st .time)]) (rt := .one .fr .bool) (o := fun x => impl_ahead_b x.1 x.2.1) (ob := fun x => impl_ahead_b_ob x.1 x.2.1) G (fn := Try.f137) (c := bodyOf Try.f137) (by kernel_rfl) (by kernel_rfl) (by kernel_rfl) (rs := [.tmp 4]) (fz := F137.fz) (by kernel_rfl) (by kernel_rfl) (fun _ => rfl) rfl (fun x => impl_ahead_b_S x.1 x.2.1) (fun _ => ⟨rfl, rfl, rfl, rfl, rfl⟩) (fun x _ => impl_ahead_b_ok G x.1 x.2.1)
def sp_impl_rowAhead : SP := [(137, s_impl_ahead)]
abbrev F111 : Fnn := ⟨[.tmp 4], .one .fr .bool, none, []⟩
abbrev rv111 : Bool → RV := fun q => (some (RT.av (.one .fr .bool) q), .dead)
abbrev Ok111 (fr : Fr) {A X Y Z : Type} (S : SubP Bool A X Y Z) : Prop := SubOk Try.prog tt ⟨Try.f111.ntmps, none, []⟩ fr (bodyOf Try.f111) F111 S
def impl_rowAhead_b_t (a0 a1 : Row) : Tr Bool Empty Empty Empty Empty :=
  .c (cmp .neq a0.Key a1.Key)
  (.l (.r (cmp .lss a0.Key a1.Key)))
  (.c (cmp .neq a0.Val a1.Val)
  (.l (.r (cmp .lss a0.Val a1.Val)))
  (.w [(p_impl_ahead a0.At a1.At)] (.l (.r (v_impl_ahead a0.At a1.At)))))
def impl_rowAhead_b := fun a0 a1 => (impl_rowAhead_b_t a0 a1).val
def impl_rowAhead_b_ob := fun a0 a1 => (impl_rowAhead_b_t a0 a1).ob
def impl_rowAhead_b_S := fun a0 a1 => SubP.mk (impl_rowAhead_b a0 a1) (impl_rowAhead_b_ob a0 a1) [] [(0, .agg true [.i a0.Key, .i a0.Val, .i a0.At.A, .i a0.At.B, .i a0.Diff]), (1, .agg true [.i a1.Key, .i a1.Val, .i a1.At.A, .i a1.At.B, .i a1.Diff])] rv111 nE nE nE nE
theorem impl_rowAhead_b_ok (G : Good Try.prog tt sp_impl_rowAhead) {fr : Fr} : ∀ a0 a1, Ok111 fr (impl_rowAhead_b_S a0 a1) :=
  fun a0 a1 => run_ok G [] trivial [(0,[2,3]),(1,[2,3,5]),(2,[4]),(3,[2,3,16]),(4,[4]),(5,[4])] [] [] (impl_rowAhead_b_t a0 a1) rfl rfl (by kernel_rfl)
def v_impl_rowAhead (a0 : Row) (a1 : Row) : Bool := ocR (impl_rowAhead_b a0 a1)
def p_impl_rowAhead (a0 : Row) (a1 : Row) : Prop := impl_rowAhead_b_ob a0 a1
def s_impl_rowAhead : Spec := ⟨[(.st .row), (.st .row)], .one .fr .bool, false, fun x => (v_impl_rowAhead x.1 x.2.1, 0), fun x => p_impl_rowAhead x.1 x.2.1⟩
theorem con_impl_rowAhead (G : Good Try.prog tt sp_impl_rowAhead) : Con Try.prog 111 s_impl_rowAhead :=
  con_run (pts := [(.st .row), (.st .row)]) (rt := .one .fr .bool) (o := fun x => impl_rowAhead_b x.1 x.2.1) (ob := fun x => impl_rowAhead_b_ob x.1 x.2.1) G (fn := Try.f111) (c := bodyOf Try.f111) (by kernel_rfl) (by kernel_rfl) (by kernel_rfl) (rs := [.tmp 4]) (fz := F111.fz) (by kernel_rfl) (by kernel_rfl) (fun _ => rfl) rfl (fun x => impl_rowAhead_b_S x.1 x.2.1) (fun _ => ⟨rfl, rfl, rfl, rfl, rfl⟩) (fun x _ => impl_rowAhead_b_ok G x.1 x.2.1)
def sp_impl_TimeOk : SP := []
abbrev F110 : Fnn := ⟨[.tmp 2], .one .fr .bool, none, []⟩
abbrev rv110 : Bool → RV := fun q => (some (RT.av (.one .fr .bool) q), .dead)
abbrev Ok110 (fr : Fr) {A X Y Z : Type} (S : SubP Bool A X Y Z) : Prop := SubOk Try.prog tt ⟨Try.f110.ntmps, none, []⟩ fr (bodyOf Try.f110) F110 S
def impl_TimeOk_b_t (a0 : Time) : Tr Bool Empty Empty Empty Empty :=
  .l (.r (cond (cond (cond (cmp .geq a0.A 0) (cmp .leq a0.A 7) false) (cmp .geq a0.B 0) false) (cmp .leq a0.B 7) false))
def impl_TimeOk_b := fun a0 => (impl_TimeOk_b_t a0).val
def impl_TimeOk_b_ob := fun a0 => (impl_TimeOk_b_t a0).ob
def impl_TimeOk_b_S := fun a0 => SubP.mk (impl_TimeOk_b a0) (impl_TimeOk_b_ob a0) [] [(0, .agg true [.i a0.A, .i a0.B])] rv110 nE nE nE nE
theorem impl_TimeOk_b_ok (G : Good Try.prog tt sp_impl_TimeOk) {fr : Fr} : ∀ a0, Ok110 fr (impl_TimeOk_b_S a0) :=
  fun a0 => run_ok G [] trivial [(0,[1]),(1,[2])] [] [] (impl_TimeOk_b_t a0) rfl rfl (by kernel_rfl)
def v_impl_TimeOk (a0 : Time) : Bool := ocR (impl_TimeOk_b a0)
def p_impl_TimeOk (a0 : Time) : Prop := impl_TimeOk_b_ob a0
def s_impl_TimeOk : Spec := ⟨[(.st .time)], .one .fr .bool, false, fun x => (v_impl_TimeOk x.1, 0), fun x => p_impl_TimeOk x.1⟩
theorem con_impl_TimeOk (G : Good Try.prog tt sp_impl_TimeOk) : Con Try.prog 110 s_impl_TimeOk :=
  con_run (pts := [(.st .time)]) (rt := .one .fr .bool) (o := fun x => impl_TimeOk_b x.1) (ob := fun x => impl_TimeOk_b_ob x.1) G (fn := Try.f110) (c := bodyOf Try.f110) (by kernel_rfl) (by kernel_rfl) (by kernel_rfl) (rs := [.tmp 2]) (fz := F110.fz) (by kernel_rfl) (by kernel_rfl) (fun _ => rfl) rfl (fun x => impl_TimeOk_b_S x.1) (fun _ => ⟨rfl, rfl, rfl, rfl, rfl⟩) (fun x _ => impl_TimeOk_b_ok G x.1)
def sp_impl_RowsOk : SP := [(110, s_impl_TimeOk)]
abbrev F90 : Fnn := ⟨[.tmp 2], .one .fr .bool, none, []⟩
abbrev rv90 : Bool → RV := fun q => (some (RT.av (.one .fr .bool) q), .dead)
abbrev Ok90 (fr : Fr) {A X Y Z : Type} (S : SubP Bool A X Y Z) : Prop := SubOk Try.prog tt ⟨Try.f90.ntmps, none, []⟩ fr (bodyOf Try.f90) F90 S
def impl_RowsOk_c2_r_t (x2 : LR) (x3 s7 : Int) : Tr Bool Int Unit Empty Empty :=
  .c (cmp .lss s7 x3)
  (.w [inb s7 (lenI .row x2)] (.w [(((!(cond (cond (cond (cmp .lss (rd .row x2 s7).Key 0) true (cmp .geq (rd .row x2 s7).Key 4)) true (cmp .lss (rd .row x2 s7).Val 0)) true (cmp .geq (rd .row x2 s7).Val 100))) && true) = true → (p_impl_TimeOk (rd .row x2 s7).At))] (.c (cond (cond (cond (cond (cond (cond (cmp .lss (rd .row x2 s7).Key 0) true (cmp .geq (rd .row x2 s7).Key 4)) true (cmp .lss (rd .row x2 s7).Val 0)) true (cmp .geq (rd .row x2 s7).Val 100)) true (!(v_impl_TimeOk (rd .row x2 s7).At))) true (cmp .lss (rd .row x2 s7).Diff (-99999))) true (cmp .gtr (rd .row x2 s7).Diff 99999))
  (.l (.r false))
  (.l (.n (ar .add .i64 s7 1))))))
  (.l (.x ()))
def impl_RowsOk_c2_r := fun x2 x3 s7 => (impl_RowsOk_c2_r_t x2 x3 s7).val
def impl_RowsOk_c2_r_ob := fun x2 x3 s7 => (impl_RowsOk_c2_r_t x2 x3 s7).ob
def impl_RowsOk_c2_r_S := fun x2 x3 s7 => mkRd (impl_RowsOk_c2_r x2 x3 s7) (impl_RowsOk_c2_r_ob x2 x3 s7) [0,0,1,0,1] (fun q => [(0, .S .row x2), (5, .S .row x2), (6, .I x3), (7, .I q)]) s7 rv90 (fun _ => (0, [(0, .S .row x2)])) nE nE
theorem impl_RowsOk_c2_r_ok (G : Good Try.prog tt sp_impl_RowsOk) {fr : Fr} : ∀ x2 x3 s7, Ok90 fr (impl_RowsOk_c2_r_S x2 x3 s7) :=
  fun x2 x3 s7 => run_ok G [] trivial [(2,[0,5,6,7,8]),(3,[0,4,5,6,7]),(4,[0,5,6,7,44]),(5,[2]),(6,[0,5,6,7])] [] [] (impl_RowsOk_c2_r_t x2 x3 s7) rfl rfl (by kernel_rfl)
def impl_RowsOk_c2 := fun x2 x3 => lpV (fun s : Int => ocLp (impl_RowsOk_c2_r x2 x3 s)) 0
def impl_RowsOk_c2_ob := fun x2 x3 => LpT (fun s : Int => ocLp (impl_RowsOk_c2_r x2 x3 s)) (fun s => impl_RowsOk_c2_r_ob x2 x3 s) 0
def impl_RowsOk_c2_S := fun x2 x3 => lpS (impl_RowsOk_c2_r_S x2 x3 0) (impl_RowsOk_c2 x2 x3) (impl_RowsOk_c2_ob x2 x3)
theorem impl_RowsOk_c2_ok (G : Good Try.prog tt sp_impl_RowsOk) {fr : Fr} : ∀ x2 x3, Ok90 fr (impl_RowsOk_c2_S x2 x3) :=
  fun x2 x3 => loop_ok (fun s : Int => impl_RowsOk_c2_r_S x2 x3 s) 0 (fun _ => rfl) (fun _ => ⟨rfl, rfl, rfl, rfl, rfl⟩) (by kernel_rfl) fun _ => impl_RowsOk_c2_r_ok G _ _ _
def impl_RowsOk_c1_t (x1 : LR) : Tr Bool Unit Empty Empty Empty :=
  .s (impl_RowsOk_c2_S x1 (lenI .row x1)) nE (fun _ => .l (.n ())) nE nE
def impl_RowsOk_c1 := fun x1 => (impl_RowsOk_c1_t x1).val
def impl_RowsOk_c1_ob := fun x1 => (impl_RowsOk_c1_t x1).ob
def impl_RowsOk_c1_S := fun x1 => SubP.mk (impl_RowsOk_c1 x1) (impl_RowsOk_c1_ob x1) [0,1] [(0, .S .row x1)] rv90 (fun _ => [(0, .S .row x1)]) nE nE nE
theorem impl_RowsOk_c1_ok (G : Good Try.prog tt sp_impl_RowsOk) {fr : Fr} : ∀ x1, Ok90 fr (impl_RowsOk_c1_S x1) :=
  fun x1 => run_ok G [([0,1,0,1], fun e => ⟨impl_RowsOk_c2_S (gL .row e 0 0) (gI e 6 0)⟩)] ⟨fun _ => ⟨rfl, impl_RowsOk_c2_ok G _ _⟩, trivial⟩ [(1,[0,5,6,7])] [] [] (impl_RowsOk_c1_t x1) rfl rfl (by kernel_rfl)
def impl_RowsOk_b_t (a0 : LR) : Tr Bool Empty Empty Empty Empty :=
  .s (impl_RowsOk_c1_S a0) (fun _ => .l (.r (cmp .leq (lenI .row a0) 400))) nE nE nE
def impl_RowsOk_b := fun a0 => (impl_RowsOk_b_t a0).val
def impl_RowsOk_b_ob := fun a0 => (impl_RowsOk_b_t a0).ob
def impl_RowsOk_b_S := fun a0 => SubP.mk (impl_RowsOk_b a0) (impl_RowsOk_b_ob a0) [] [(0, .S .row a0)] rv90 nE nE nE nE
theorem impl_RowsOk_b_ok (G : Good Try.prog tt sp_impl_RowsOk) {fr : Fr} : ∀ a0, Ok90 fr (impl_RowsOk_b_S a0) :=
  fun a0 => run_ok G [([0,1], fun e => ⟨impl_RowsOk_c1_S (gL .row e 0 0)⟩)] ⟨fun _ => ⟨rfl, impl_RowsOk_c1_ok G _⟩, trivial⟩ [(0,[0]),(7,[2])] [] [] (impl_RowsOk_b_t a0) rfl rfl (by kernel_rfl)
def v_impl_RowsOk (a0 : LR) : Bool := ocR (impl_RowsOk_b a0)
def p_impl_RowsOk (a0 : LR) : Prop := impl_RowsOk_b_ob a0
def s_impl_RowsOk : Spec := ⟨[(.lst .row)], .one .fr .bool, false, fun x => (v_impl_RowsOk x.1, 0), fun x => p_impl_RowsOk x.1⟩
theorem con_impl_RowsOk (G : Good Try.prog tt sp_impl_RowsOk) : Con Try.prog 90 s_impl_RowsOk :=
  con_run (pts := [(.lst .row)]) (rt := .one .fr .bool) (o := fun x => impl_RowsOk_b x.1) (ob := fun x => impl_RowsOk_b_ob x.1) G (fn := Try.f90) (c := bodyOf Try.f90) (by kernel_rfl) (by kernel_rfl) (by kernel_rfl) (rs := [.tmp 2]) (fz := F90.fz) (by kernel_rfl) (by kernel_rfl) (fun _ => rfl) rfl (fun x => impl_RowsOk_b_S x.1) (fun _ => ⟨rfl, rfl, rfl, rfl, rfl⟩) (fun x _ => impl_RowsOk_b_ok G x.1)
def sp_impl_BatchOk : SP := [(111, s_impl_rowAhead), (90, s_impl_RowsOk)]
abbrev F58 : Fnn := ⟨[.tmp 2], .one .fr .bool, none, []⟩
abbrev rv58 : Bool → RV := fun q => (some (RT.av (.one .fr .bool) q), .dead)
abbrev Ok58 (fr : Fr) {A X Y Z : Type} (S : SubP Bool A X Y Z) : Prop := SubOk Try.prog tt ⟨Try.f58.ntmps, none, []⟩ fr (bodyOf Try.f58) F58 S
def impl_BatchOk_c2_r_t (x2 : LR) (x3 s7 : Int) : Tr Bool Int Unit Empty Empty :=
  .c (cmp .lss s7 x3)
  (.w [inb s7 (lenI .row x2)] (.w [(((cmp .gtr s7 0) && ((!(cmp .eql (rd .row x2 s7).Diff 0)) && true)) = true → inb (ar .sub .i64 s7 1) (lenI .row x2)), (((cmp .gtr s7 0) && ((!(cmp .eql (rd .row x2 s7).Diff 0)) && true)) = true → (p_impl_rowAhead (rd .row x2 (ar .sub .i64 s7 1)) (rd .row x2 s7)))] (.c (cond (cmp .eql (rd .row x2 s7).Diff 0) true (cond (cmp .gtr s7 0) (!(v_impl_rowAhead (rd .row x2 (ar .sub .i64 s7 1)) (rd .row x2 s7))) false))
  (.l (.r false))
  (.l (.n (ar .add .i64 s7 1))))))
  (.l (.x ()))
def impl_BatchOk_c2_r := fun x2 x3 s7 => (impl_BatchOk_c2_r_t x2 x3 s7).val
def impl_BatchOk_c2_r_ob := fun x2 x3 s7 => (impl_BatchOk_c2_r_t x2 x3 s7).ob
def impl_BatchOk_c2_r_S := fun x2 x3 s7 => mkRd (impl_BatchOk_c2_r x2 x3 s7) (impl_BatchOk_c2_r_ob x2 x3 s7) [0,0,1,0,1] (fun q => [(0, .S .row x2), (5, .S .row x2), (6, .I x3), (7, .I q)]) s7 rv58 (fun _ => (0, [(0, .S .row x2)])) nE nE
theorem impl_BatchOk_c2_r_ok (G : Good Try.prog tt sp_impl_BatchOk) {fr : Fr} : ∀ x2 x3 s7, Ok58 fr (impl_BatchOk_c2_r_S x2 x3 s7) :=
  fun x2 x3 s7 => run_ok G [] trivial [(2,[0,5,6,7,8]),(3,[0,3,4,5,6,7]),(4,[0,5,6,7,28]),(5,[2]),(6,[0,5,6,7])] [] [] (impl_BatchOk_c2_r_t x2 x3 s7) rfl rfl (by kernel_rfl)
def impl_BatchOk_c2 := fun x2 x3 => lpV (fun s : Int => ocLp (impl_BatchOk_c2_r x2 x3 s)) 0
def impl_BatchOk_c2_ob := fun x2 x3 => LpT (fun s : Int => ocLp (impl_BatchOk_c2_r x2 x3 s)) (fun s => impl_BatchOk_c2_r_ob x2 x3 s) 0
def impl_BatchOk_c2_S := fun x2 x3 => lpS (impl_BatchOk_c2_r_S x2 x3 0) (impl_BatchOk_c2 x2 x3) (impl_BatchOk_c2_ob x2 x3)
theorem impl_BatchOk_c2_ok (G : Good Try.prog tt sp_impl_BatchOk) {fr : Fr} : ∀ x2 x3, Ok58 fr (impl_BatchOk_c2_S x2 x3) :=
  fun x2 x3 => loop_ok (fun s : Int => impl_BatchOk_c2_r_S x2 x3 s) 0 (fun _ => rfl) (fun _ => ⟨rfl, rfl, rfl, rfl, rfl⟩) (by kernel_rfl) fun _ => impl_BatchOk_c2_r_ok G _ _ _
def impl_BatchOk_c1_t (x1 : LR) : Tr Bool Unit Empty Empty Empty :=
  .s (impl_BatchOk_c2_S x1 (lenI .row x1)) nE (fun _ => .l (.n ())) nE nE
def impl_BatchOk_c1 := fun x1 => (impl_BatchOk_c1_t x1).val
def impl_BatchOk_c1_ob := fun x1 => (impl_BatchOk_c1_t x1).ob
def impl_BatchOk_c1_S := fun x1 => SubP.mk (impl_BatchOk_c1 x1) (impl_BatchOk_c1_ob x1) [0,1] [(0, .S .row x1)] rv58 (fun _ => [(0, .S .row x1)]) nE nE nE
theorem impl_BatchOk_c1_ok (G : Good Try.prog tt sp_impl_BatchOk) {fr : Fr} : ∀ x1, Ok58 fr (impl_BatchOk_c1_S x1) :=
  fun x1 => run_ok G [([0,1,0,1], fun e => ⟨impl_BatchOk_c2_S (gL .row e 0 0) (gI e 6 0)⟩)] ⟨fun _ => ⟨rfl, impl_BatchOk_c2_ok G _ _⟩, trivial⟩ [(1,[0,5,6,7])] [] [] (impl_BatchOk_c1_t x1) rfl rfl (by kernel_rfl)
def impl_BatchOk_b_t (a0 : LR) : Tr Bool Empty Empty Empty Empty :=
  .s (impl_BatchOk_c1_S a0) (fun _ => .w [(p_impl_RowsOk a0)] (.l (.r (v_impl_RowsOk a0)))) nE nE nE
def impl_BatchOk_b := fun a0 => (impl_BatchOk_b_t a0).val
def impl_BatchOk_b_ob := fun a0 => (impl_BatchOk_b_t a0).ob
def impl_BatchOk_b_S := fun a0 => SubP.mk (impl_BatchOk_b a0) (impl_BatchOk_b_ob a0) [] [(0, .S .row a0)] rv58 nE nE nE nE
theorem impl_BatchOk_b_ok (G : Good Try.prog tt sp_impl_BatchOk) {fr : Fr} : ∀ a0, Ok58 fr (impl_BatchOk_b_S a0) :=
  fun a0 => run_ok G [([0,1], fun e => ⟨impl_BatchOk_c1_S (gL .row e 0 0)⟩)] ⟨fun _ => ⟨rfl, impl_BatchOk_c1_ok G _⟩, trivial⟩ [(0,[0]),(7,[2])] [] [] (impl_BatchOk_b_t a0) rfl rfl (by kernel_rfl)
def v_impl_BatchOk (a0 : LR) : Bool := ocR (impl_BatchOk_b a0)
def p_impl_BatchOk (a0 : LR) : Prop := impl_BatchOk_b_ob a0
def s_impl_BatchOk : Spec := ⟨[(.lst .row)], .one .fr .bool, false, fun x => (v_impl_BatchOk x.1, 0), fun x => p_impl_BatchOk x.1⟩
theorem con_impl_BatchOk (G : Good Try.prog tt sp_impl_BatchOk) : Con Try.prog 58 s_impl_BatchOk :=
  con_run (pts := [(.lst .row)]) (rt := .one .fr .bool) (o := fun x => impl_BatchOk_b x.1) (ob := fun x => impl_BatchOk_b_ob x.1) G (fn := Try.f58) (c := bodyOf Try.f58) (by kernel_rfl) (by kernel_rfl) (by kernel_rfl) (rs := [.tmp 2]) (fz := F58.fz) (by kernel_rfl) (by kernel_rfl) (fun _ => rfl) rfl (fun x => impl_BatchOk_b_S x.1) (fun _ => ⟨rfl, rfl, rfl, rfl, rfl⟩) (fun x _ => impl_BatchOk_b_ok G x.1)
abbrev rv105 : Bool → RV := fun q => (some (RT.av (.one .fr .bool) q), .dead)
def impl_flat_c2_r_t (x2 : LR) (x3 s7 : Int) : Tr Bool Int Unit Empty Empty :=
  .c (cmp .lss s7 x3)
  (.w [inb s7 (lenI .row x2)] (.c (cmp .neq (rd .row x2 s7).At.B 0)
  (.l (.r false))
  (.l (.n (ar .add .i64 s7 1)))))
  (.l (.x ()))
def impl_flat_c2_r := fun x2 x3 s7 => (impl_flat_c2_r_t x2 x3 s7).val
def impl_flat_c2_r_ob := fun x2 x3 s7 => (impl_flat_c2_r_t x2 x3 s7).ob
def impl_flat_c2_r_S := fun x2 x3 s7 => mkRd (impl_flat_c2_r x2 x3 s7) (impl_flat_c2_r_ob x2 x3 s7) [0,0,1,0,1] (fun q => [(0, .S .row x2), (5, .S .row x2), (6, .I x3), (7, .I q)]) s7 rv105 (fun _ => (0, [(0, .S .row x2)])) nE nE
def impl_flat_c2 := fun x2 x3 => lpV (fun s : Int => ocLp (impl_flat_c2_r x2 x3 s)) 0
def impl_flat_c2_ob := fun x2 x3 => LpT (fun s : Int => ocLp (impl_flat_c2_r x2 x3 s)) (fun s => impl_flat_c2_r_ob x2 x3 s) 0
def impl_flat_c2_S := fun x2 x3 => lpS (impl_flat_c2_r_S x2 x3 0) (impl_flat_c2 x2 x3) (impl_flat_c2_ob x2 x3)
def impl_flat_c1_t (x1 : LR) : Tr Bool Unit Empty Empty Empty :=
  .s (impl_flat_c2_S x1 (lenI .row x1)) nE (fun _ => .l (.n ())) nE nE
def impl_flat_c1 := fun x1 => (impl_flat_c1_t x1).val
def impl_flat_c1_ob := fun x1 => (impl_flat_c1_t x1).ob
def impl_flat_c1_S := fun x1 => SubP.mk (impl_flat_c1 x1) (impl_flat_c1_ob x1) [0,1] [(0, .S .row x1)] rv105 (fun _ => [(0, .S .row x1)]) nE nE nE
def impl_flat_b_t (a0 : LR) : Tr Bool Empty Empty Empty Empty :=
  .s (impl_flat_c1_S a0) (fun _ => .w [(p_impl_BatchOk a0)] (.l (.r (v_impl_BatchOk a0)))) nE nE nE
def impl_flat_b := fun a0 => (impl_flat_b_t a0).val
def impl_flat_b_ob := fun a0 => (impl_flat_b_t a0).ob
def v_impl_flat (a0 : LR) : Bool := ocR (impl_flat_b a0)
def p_impl_flat (a0 : LR) : Prop := impl_flat_b_ob a0
def sp_impl_below : SP := []
abbrev F133 : Fnn := ⟨[.tmp 4], .one .fr .bool, none, []⟩
abbrev rv133 : Bool → RV := fun q => (some (RT.av (.one .fr .bool) q), .dead)
abbrev Ok133 (fr : Fr) {A X Y Z : Type} (S : SubP Bool A X Y Z) : Prop := SubOk Try.prog tt ⟨Try.f133.ntmps, none, []⟩ fr (bodyOf Try.f133) F133 S
def impl_below_b_t (a0 a1 : Time) : Tr Bool Empty Empty Empty Empty :=
  .l (.r (cond (cmp .leq a0.A a1.A) (cmp .leq a0.B a1.B) false))
def impl_below_b := fun a0 a1 => (impl_below_b_t a0 a1).val
def impl_below_b_ob := fun a0 a1 => (impl_below_b_t a0 a1).ob
def impl_below_b_S := fun a0 a1 => SubP.mk (impl_below_b a0 a1) (impl_below_b_ob a0 a1) [] [(0, .agg true [.i a0.A, .i a0.B]), (1, .agg true [.i a1.A, .i a1.B])] rv133 nE nE nE nE
theorem impl_below_b_ok (G : Good Try.prog tt sp_impl_below) {fr : Fr} : ∀ a0 a1, Ok133 fr (impl_below_b_S a0 a1) :=
  fun a0 a1 => run_ok G [] trivial [(0,[2,3]),(1,[4])] [] [] (impl_below_b_t a0 a1) rfl rfl (by kernel_rfl)
def v_impl_below (a0 : Time) (a1 : Time) : Bool := ocR (impl_below_b a0 a1)
def p_impl_below (a0 : Time) (a1 : Time) : Prop := impl_below_b_ob a0 a1
def s_impl_below : Spec := ⟨[(.st .time), (.st .time)], .one .fr .bool, false, fun x => (v_impl_below x.1 x.2.1, 0), fun x => p_impl_below x.1 x.2.1⟩
theorem con_impl_below (G : Good Try.prog tt sp_impl_below) : Con Try.prog 133 s_impl_below :=
  con_run (pts := [(.st .time), (.st .time)]) (rt := .one .fr .bool) (o := fun x => impl_below_b x.1 x.2.1) (ob := fun x => impl_below_b_ob x.1 x.2.1) G (fn := Try.f133) (c := bodyOf Try.f133) (by kernel_rfl) (by kernel_rfl) (by kernel_rfl) (rs := [.tmp 4]) (fz := F133.fz) (by kernel_rfl) (by kernel_rfl) (fun _ => rfl) rfl (fun x => impl_below_b_S x.1 x.2.1) (fun _ => ⟨rfl, rfl, rfl, rfl, rfl⟩) (fun x _ => impl_below_b_ok G x.1 x.2.1)
end
end Go.Proofs.Ytopcofkpggefkaa

namespace Go.Proofs.Ytopcofkpggefkaa
open Go
noncomputable section
set_option maxRecDepth 100000
def sp_impl_present : SP := [(133, s_impl_below), (107, s_impl_gathered)]
abbrev F106 : Fnn := ⟨[.tmp 4], .one .fr (.lst .item), none, []⟩
abbrev rv106 : LI → RV := fun q => (some (RT.av (.one .fr (.lst .item)) q), .dead)
abbrev Ok106 (fr : Fr) {A X Y Z : Type} (S : SubP LI A X Y Z) : Prop := SubOk Try.prog tt ⟨Try.f106.ntmps, none, []⟩ fr (bodyOf Try.f106) F106 S
def impl_present_c3_t (x21 : Time) (x22 : LI) (x23 : LR) (_x24 x25 : Int) : Tr LI LI Empty Empty Empty :=
  .w [inb x25 (lenI .row x23)] (.w [(p_impl_below (rd .row x23 x25).At x21)] (.c (v_impl_below (rd .row x23 x25).At x21)
  (.w [lim (lenI .item x22) (lenI .item [(Item.mk (rd .row x23 x25).Key (rd .row x23 x25).Val (rd .row x23 x25).Diff)])] (.l (.n (x22 ++ [(Item.mk (rd .row x23 x25).Key (rd .row x23 x25).Val (rd .row x23 x25).Diff)]))))
  (.l (.n x22))))
def impl_present_c3 := fun x21 x22 x23 x24 x25 => (impl_present_c3_t x21 x22 x23 x24 x25).val
def impl_present_c3_ob := fun x21 x22 x23 x24 x25 => (impl_present_c3_t x21 x22 x23 x24 x25).ob
def impl_present_c3_S := fun x21 x22 x23 x24 x25 => SubP.mk (impl_present_c3 x21 x22 x23 x24 x25) (impl_present_c3_ob x21 x22 x23 x24 x25) [0,1,1,0,0,1,0,1,1] [(3, .box [(.fr, .i x21.A), (.fr, .i x21.B)]), (5, .A .item x22), (9, .S .row x23), (10, .I x24), (11, .I x25)] rv106 (fun q => [(3, .box [(.fr, .i x21.A), (.fr, .i x21.B)]), (5, .A .item q), (9, .S .row x23), (10, .I x24), (11, .I x25)]) nE nE nE
theorem impl_present_c3_ok (G : Good Try.prog tt sp_impl_present) {fr : Fr} : ∀ x21 x22 x23 x24 x25, Ok106 fr (impl_present_c3_S x21 x22 x23 x24 x25) :=
  fun x21 x22 x23 x24 x25 => run_ok G [] trivial [(4,[3,5,7,9,10,11]),(5,[3,5,7,9,10,11,18]),(6,[3,5,9,10,11])] [] [] (impl_present_c3_t x21 x22 x23 x24 x25) rfl rfl (by kernel_rfl)
def impl_present_c2_r_t (x3 : Time) (x4 : LR) (x5 : Int) (s18 : LI) (s19 : Int) : Tr LI (LI × Int) LI Empty Empty :=
  .c (cmp .lss s19 x5)
  (.s (impl_present_c3_S x3 s18 x4 x5 s19) (fun q28 => .l (.n (q28, (ar .add .i64 s19 1)))) nE nE nE)
  (.l (.x s18))
def impl_present_c2_r := fun x3 x4 x5 s18 s19 => (impl_present_c2_r_t x3 x4 x5 s18 s19).val
def impl_present_c2_r_ob := fun x3 x4 x5 s18 s19 => (impl_present_c2_r_t x3 x4 x5 s18 s19).ob
def impl_present_c2_r_S := fun x3 x4 x5 s18 s19 => mkRd (impl_present_c2_r x3 x4 x5 s18 s19) (impl_present_c2_r_ob x3 x4 x5 s18 s19) [0,0,1,0,1,1] (fun q => [(3, .box [(.fr, .i x3.A), (.fr, .i x3.B)]), (5, .A .item q.1), (9, .S .row x4), (10, .I x5), (11, .I q.2)]) (s18, s19) rv106 (fun q => (0, [(5, .A .item q)])) nE nE
theorem impl_present_c2_r_ok (G : Good Try.prog tt sp_impl_present) {fr : Fr} : ∀ x3 x4 x5 s18 s19, Ok106 fr (impl_present_c2_r_S x3 x4 x5 s18 s19) :=
  fun x3 x4 x5 s18 s19 => run_ok G [([0,1,1,0,0,1,0,1,1], fun e => ⟨impl_present_c3_S (gTime e 3) (gL .item e 5 0) (gL .row e 9 0) (gI e 10 0) (gI e 11 0)⟩)] ⟨fun _ => ⟨rfl, impl_present_c3_ok G _ _ _ _ _⟩, trivial⟩ [(3,[3,5,9,10,11,12]),(7,[3,5,9,10,11])] [] [] (impl_present_c2_r_t x3 x4 x5 s18 s19) rfl rfl (by kernel_rfl)
def impl_present_c2 := fun x3 x4 x5 => lpV (fun s : LI × Int => ocLp (impl_present_c2_r x3 x4 x5 s.1 s.2)) ([], 0)
def impl_present_c2_ob := fun x3 x4 x5 => LpT (fun s : LI × Int => ocLp (impl_present_c2_r x3 x4 x5 s.1 s.2)) (fun s => impl_present_c2_r_ob x3 x4 x5 s.1 s.2) ([], 0)
def impl_present_c2_S := fun x3 x4 x5 => lpS (impl_present_c2_r_S x3 x4 x5 [] 0) (impl_present_c2 x3 x4 x5) (impl_present_c2_ob x3 x4 x5)
theorem impl_present_c2_ok (G : Good Try.prog tt sp_impl_present) {fr : Fr} : ∀ x3 x4 x5, Ok106 fr (impl_present_c2_S x3 x4 x5) :=
  fun x3 x4 x5 => loop_ok (fun s : LI × Int => impl_present_c2_r_S x3 x4 x5 s.1 s.2) ([], 0) (fun _ => rfl) (fun _ => ⟨rfl, rfl, rfl, rfl, rfl⟩) (by kernel_rfl) fun _ => impl_present_c2_r_ok G _ _ _ _ _
def impl_present_c1_t (x1 : LR) (x2 : Time) : Tr LI LI Empty Empty Empty :=
  .s (impl_present_c2_S x2 x1 (lenI .row x1)) nE (fun q39 => .l (.n q39)) nE nE
def impl_present_c1 := fun x1 x2 => (impl_present_c1_t x1 x2).val
def impl_present_c1_ob := fun x1 x2 => (impl_present_c1_t x1 x2).ob
def impl_present_c1_S := fun x1 x2 => SubP.mk (impl_present_c1 x1 x2) (impl_present_c1_ob x1 x2) [0,1,1] [(0, .S .row x1), (3, .box [(.fr, .i x2.A), (.fr, .i x2.B)]), (5, .A .item [])] rv106 (fun q => [(5, .A .item q)]) nE nE nE
theorem impl_present_c1_ok (G : Good Try.prog tt sp_impl_present) {fr : Fr} : ∀ x1 x2, Ok106 fr (impl_present_c1_S x1 x2) :=
  fun x1 x2 => run_ok G [([0,1,0,1,1], fun e => ⟨impl_present_c2_S (gTime e 3) (gL .row e 9 0) (gI e 10 0)⟩)] ⟨fun _ => ⟨rfl, impl_present_c2_ok G _ _ _⟩, trivial⟩ [(2,[3,5,9,10,11])] [] [] (impl_present_c1_t x1 x2) rfl rfl (by kernel_rfl)
def impl_present_b_t (a0 : LR) (a1 : Time) : Tr LI Empty Empty Empty Empty :=
  .s (impl_present_c1_S a0 a1) (fun q42 => .w [(p_impl_gathered q42)] (.l (.r (v_impl_gathered q42)))) nE nE nE
def impl_present_b := fun a0 a1 => (impl_present_b_t a0 a1).val
def impl_present_b_ob := fun a0 a1 => (impl_present_b_t a0 a1).ob
def impl_present_b_S := fun a0 a1 => SubP.mk (impl_present_b a0 a1) (impl_present_b_ob a0 a1) [] [(0, .S .row a0), (1, .agg true [.i a1.A, .i a1.B])] rv106 nE nE nE nE
theorem impl_present_b_ok (G : Good Try.prog tt sp_impl_present) {fr : Fr} : ∀ a0 a1, Ok106 fr (impl_present_b_S a0 a1) :=
  fun a0 a1 => run_ok G [([0,1,1], fun e => ⟨impl_present_c1_S (gL .row e 0 0) (gTime e 3)⟩)] ⟨fun _ => ⟨rfl, impl_present_c1_ok G _ _⟩, trivial⟩ [(0,[0,3]),(1,[0,3,5]),(8,[4])] [] [] (impl_present_b_t a0 a1) rfl rfl (by kernel_rfl)
def v_impl_present (a0 : LR) (a1 : Time) : LI := ocR (impl_present_b a0 a1)
def p_impl_present (a0 : LR) (a1 : Time) : Prop := impl_present_b_ob a0 a1
def s_impl_present : Spec := ⟨[(.lst .row), (.st .time)], .one .fr (.lst .item), false, fun x => (v_impl_present x.1 x.2.1, 0), fun x => p_impl_present x.1 x.2.1⟩
theorem con_impl_present (G : Good Try.prog tt sp_impl_present) : Con Try.prog 106 s_impl_present :=
  con_run (pts := [(.lst .row), (.st .time)]) (rt := .one .fr (.lst .item)) (o := fun x => impl_present_b x.1 x.2.1) (ob := fun x => impl_present_b_ob x.1 x.2.1) G (fn := Try.f106) (c := bodyOf Try.f106) (by kernel_rfl) (by kernel_rfl) (by kernel_rfl) (rs := [.tmp 4]) (fz := F106.fz) (by kernel_rfl) (by kernel_rfl) (fun _ => rfl) rfl (fun x => impl_present_b_S x.1 x.2.1) (fun _ => ⟨rfl, rfl, rfl, rfl, rfl⟩) (fun x _ => impl_present_b_ok G x.1 x.2.1)
def sp_impl_batch : SP := [(128, s_impl_consolidated), (58, s_impl_BatchOk)]
abbrev F91 : Fnn := ⟨[.tmp 2, .tmp 3], .tup [(false, (.lst .row)), (true, .bool)], none, []⟩
abbrev rv91 : LR × Bool × Unit → RV := fun q => (some (RT.av (.tup [(false, (.lst .row)), (true, .bool)]) q), .dead)
abbrev Ok91 (fr : Fr) {A X Y Z : Type} (S : SubP (LR × Bool × Unit) A X Y Z) : Prop := SubOk Try.prog tt ⟨Try.f91.ntmps, none, []⟩ fr (bodyOf Try.f91) F91 S
def impl_batch_b_t (a0 : LR) : Tr (LR × Bool × Unit) Empty Empty Empty Empty :=
  .w [(p_impl_consolidated a0)] (.w [(p_impl_BatchOk (v_impl_consolidated a0))] (.c (!(v_impl_BatchOk (v_impl_consolidated a0)))
  (.l (.r ([], (false, ()))))
  (.l (.r ((v_impl_consolidated a0), (true, ()))))))
def impl_batch_b := fun a0 => (impl_batch_b_t a0).val
def impl_batch_b_ob := fun a0 => (impl_batch_b_t a0).ob
def impl_batch_b_S := fun a0 => SubP.mk (impl_batch_b a0) (impl_batch_b_ob a0) [] [(0, .S .row a0)] rv91 nE nE nE nE
theorem impl_batch_b_ok (G : Good Try.prog tt sp_impl_batch) {fr : Fr} : ∀ a0, Ok91 fr (impl_batch_b_S a0) :=
  fun a0 => run_ok G [] trivial [(0,[0]),(1,[4]),(2,[4,9]),(3,[2,3]),(4,[2,3])] [] [] (impl_batch_b_t a0) rfl rfl (by kernel_rfl)
def v_impl_batch (a0 : LR) : LR × Bool × Unit := ocR (impl_batch_b a0)
def p_impl_batch (a0 : LR) : Prop := impl_batch_b_ob a0
def s_impl_batch : Spec := ⟨[(.lst .row)], .tup [(false, (.lst .row)), (true, .bool)], false, fun x => (v_impl_batch x.1, 0), fun x => p_impl_batch x.1⟩
theorem con_impl_batch (G : Good Try.prog tt sp_impl_batch) : Con Try.prog 91 s_impl_batch :=
  con_run (pts := [(.lst .row)]) (rt := .tup [(false, (.lst .row)), (true, .bool)]) (o := fun x => impl_batch_b x.1) (ob := fun x => impl_batch_b_ob x.1) G (fn := Try.f91) (c := bodyOf Try.f91) (by kernel_rfl) (by kernel_rfl) (by kernel_rfl) (rs := [.tmp 2, .tmp 3]) (fz := F91.fz) (by kernel_rfl) (by kernel_rfl) (fun _ => rfl) rfl (fun x => impl_batch_b_S x.1) (fun _ => ⟨rfl, rfl, rfl, rfl, rfl⟩) (fun x _ => impl_batch_b_ok G x.1)
abbrev rv53 : LR × Bool × Unit → RV := fun q => (some (RT.av (.tup [(false, (.lst .row)), (true, .bool)]) q), .dead)
def impl_LoopFlow_c7_r_t (_x312 _x313 : LR) (_x314 : Int) (_x315 : LR) (_x316 : Int) (_x317 _x318 _x319 : LI) (_x320 : Int) (_x321 x322 : LI) (x323 : Int) (s327 : LI) (s328 : Int) : Tr (LR × Bool × Unit) (LI × Int) LI Empty Empty :=
  .c (cmp .lss s328 x323)
  (.w [inb s328 (lenI .item x322)] (.w [lim (lenI .item s327) (lenI .item [(Item.mk (rd .item x322 s328).Key (rd .item x322 s328).Val (IntKind.wrap .i64 (0 - (rd .item x322 s328).Count)))])] (.l (.n ((s327 ++ [(Item.mk (rd .item x322 s328).Key (rd .item x322 s328).Val (IntKind.wrap .i64 (0 - (rd .item x322 s328).Count)))]), (ar .add .i64 s328 1))))))
  (.l (.x s327))
def impl_LoopFlow_c7_r := fun x312 x313 x314 x315 x316 x317 x318 x319 x320 x321 x322 x323 s327 s328 => (impl_LoopFlow_c7_r_t x312 x313 x314 x315 x316 x317 x318 x319 x320 x321 x322 x323 s327 s328).val
def impl_LoopFlow_c7_r_ob := fun x312 x313 x314 x315 x316 x317 x318 x319 x320 x321 x322 x323 s327 s328 => (impl_LoopFlow_c7_r_t x312 x313 x314 x315 x316 x317 x318 x319 x320 x321 x322 x323 s327 s328).ob
def impl_LoopFlow_c7_r_S := fun x312 x313 x314 x315 x316 x317 x318 x319 x320 x321 x322 x323 s327 s328 => mkRd (impl_LoopFlow_c7_r x312 x313 x314 x315 x316 x317 x318 x319 x320 x321 x322 x323 s327 s328) (impl_LoopFlow_c7_r_ob x312 x313 x314 x315 x316 x317 x318 x319 x320 x321 x322 x323 s327 s328) [0,0,1,0,1,1,0,0,1,0,0,1,1,1,0,0,1,0,0,1,0,1,1,1] (fun q => [(0, .S .row x312), (1, .S .row x313), (2, .I x314), (8, .A .row x315), (9, .I x316), (10, .v .fr (.lst .item x317)), (11, .v .fr (.lst .item x318)), (12, .A .item x319), (13, .I x320), (14, .A .item q.1), (65, .v .fr (.lst .item x322)), (66, .I x323), (67, .I q.2)]) (s327, s328) rv53 (fun q => (4, [(0, .S .row x312), (1, .S .row x313), (2, .I x314), (8, .A .row x315), (9, .I x316), (10, .v .fr (.lst .item x317)), (11, .v .fr (.lst .item x318)), (12, .A .item x319), (13, .I x320), (14, .A .item q)])) nE nE
def impl_LoopFlow_c7 := fun x312 x313 x314 x315 x316 x317 x318 x319 x320 x321 x322 x323 => lpV (fun s : LI × Int => ocLp (impl_LoopFlow_c7_r x312 x313 x314 x315 x316 x317 x318 x319 x320 x321 x322 x323 s.1 s.2)) (x321, 0)
def impl_LoopFlow_c7_ob := fun x312 x313 x314 x315 x316 x317 x318 x319 x320 x321 x322 x323 => LpT (fun s : LI × Int => ocLp (impl_LoopFlow_c7_r x312 x313 x314 x315 x316 x317 x318 x319 x320 x321 x322 x323 s.1 s.2)) (fun s => impl_LoopFlow_c7_r_ob x312 x313 x314 x315 x316 x317 x318 x319 x320 x321 x322 x323 s.1 s.2) (x321, 0)
def impl_LoopFlow_c7_S := fun x312 x313 x314 x315 x316 x317 x318 x319 x320 x321 x322 x323 => lpS (impl_LoopFlow_c7_r_S x312 x313 x314 x315 x316 x317 x318 x319 x320 x321 x322 x323 x321 0) (impl_LoopFlow_c7 x312 x313 x314 x315 x316 x317 x318 x319 x320 x321 x322 x323) (impl_LoopFlow_c7_ob x312 x313 x314 x315 x316 x317 x318 x319 x320 x321 x322 x323)
def impl_LoopFlow_c6_t (x302 x303 : LR) (x304 : Int) (x305 : LR) (x306 : Int) (x307 x308 x309 : LI) (x310 : Int) (x311 : LI) : Tr (LR × Bool × Unit) LI Empty Empty Empty :=
  .w [(p_impl_present x305 (Time.mk x306 x310))] (.s (impl_LoopFlow_c7_S x302 x303 x304 x305 x306 x307 x308 x309 x310 x311 (v_impl_present x305 (Time.mk x306 x310)) (lenI .item (v_impl_present x305 (Time.mk x306 x310)))) nE (fun q337 => .l (.n q337)) nE nE)
def impl_LoopFlow_c6 := fun x302 x303 x304 x305 x306 x307 x308 x309 x310 x311 => (impl_LoopFlow_c6_t x302 x303 x304 x305 x306 x307 x308 x309 x310 x311).val
def impl_LoopFlow_c6_ob := fun x302 x303 x304 x305 x306 x307 x308 x309 x310 x311 => (impl_LoopFlow_c6_t x302 x303 x304 x305 x306 x307 x308 x309 x310 x311).ob
def impl_LoopFlow_c6_S := fun x302 x303 x304 x305 x306 x307 x308 x309 x310 x311 => SubP.mk (impl_LoopFlow_c6 x302 x303 x304 x305 x306 x307 x308 x309 x310 x311) (impl_LoopFlow_c6_ob x302 x303 x304 x305 x306 x307 x308 x309 x310 x311) [0,1,1,0,0,1,0,0,1,1,1,0,0,1,0,0,1,0,1,1,1] [(0, .S .row x302), (1, .S .row x303), (2, .I x304), (8, .A .row x305), (9, .I x306), (10, .v .fr (.lst .item x307)), (11, .v .fr (.lst .item x308)), (12, .A .item x309), (13, .I x310), (14, .A .item x311)] rv53 (fun q => [(0, .S .row x302), (1, .S .row x303), (2, .I x304), (8, .A .row x305), (9, .I x306), (10, .v .fr (.lst .item x307)), (11, .v .fr (.lst .item x308)), (12, .A .item x309), (13, .I x310), (14, .A .item q)]) nE nE nE
def impl_LoopFlow_c8_r_t (_x342 _x343 : LR) (_x344 : Int) (_x345 : LR) (x346 : Int) (_x347 _x348 _x349 : LI) (x350 : Int) (x351 : LI) (x352 : Int) (s356 : LR) (s357 : Int) : Tr (LR × Bool × Unit) (LR × Int) LR Empty Empty :=
  .c (cmp .lss s357 x352)
  (.w [inb s357 (lenI .item x351)] (.w [lim (lenI .row s356) (lenI .row [(Row.mk (rd .item x351 s357).Key (rd .item x351 s357).Val (Time.mk x346 x350) (rd .item x351 s357).Count)])] (.l (.n ((s356 ++ [(Row.mk (rd .item x351 s357).Key (rd .item x351 s357).Val (Time.mk x346 x350) (rd .item x351 s357).Count)]), (ar .add .i64 s357 1))))))
  (.l (.x s356))
def impl_LoopFlow_c8_r := fun x342 x343 x344 x345 x346 x347 x348 x349 x350 x351 x352 s356 s357 => (impl_LoopFlow_c8_r_t x342 x343 x344 x345 x346 x347 x348 x349 x350 x351 x352 s356 s357).val
def impl_LoopFlow_c8_r_ob := fun x342 x343 x344 x345 x346 x347 x348 x349 x350 x351 x352 s356 s357 => (impl_LoopFlow_c8_r_t x342 x343 x344 x345 x346 x347 x348 x349 x350 x351 x352 s356 s357).ob
def impl_LoopFlow_c8_r_S := fun x342 x343 x344 x345 x346 x347 x348 x349 x350 x351 x352 s356 s357 => mkRd (impl_LoopFlow_c8_r x342 x343 x344 x345 x346 x347 x348 x349 x350 x351 x352 s356 s357) (impl_LoopFlow_c8_r_ob x342 x343 x344 x345 x346 x347 x348 x349 x350 x351 x352 s356 s357) [0,0,1,1,1,1,0,0,1,0,0,1,1,1,0,0,1,0,0,1,0,1,1,1] (fun q => [(0, .S .row x342), (1, .S .row x343), (2, .I x344), (8, .A .row q.1), (9, .I x346), (10, .v .fr (.lst .item x347)), (11, .v .fr (.lst .item x348)), (12, .A .item x349), (13, .I x350), (84, .v .fr (.lst .item x351)), (85, .I x352), (86, .I q.2)]) (s356, s357) rv53 (fun q => (6, [(0, .S .row x342), (1, .S .row x343), (2, .I x344), (8, .A .row q), (9, .I x346), (10, .v .fr (.lst .item x347)), (11, .v .fr (.lst .item x348)), (12, .A .item x349), (13, .I x350)])) nE nE
def impl_LoopFlow_c8 := fun x342 x343 x344 x345 x346 x347 x348 x349 x350 x351 x352 => lpV (fun s : LR × Int => ocLp (impl_LoopFlow_c8_r x342 x343 x344 x345 x346 x347 x348 x349 x350 x351 x352 s.1 s.2)) (x345, 0)
def impl_LoopFlow_c8_ob := fun x342 x343 x344 x345 x346 x347 x348 x349 x350 x351 x352 => LpT (fun s : LR × Int => ocLp (impl_LoopFlow_c8_r x342 x343 x344 x345 x346 x347 x348 x349 x350 x351 x352 s.1 s.2)) (fun s => impl_LoopFlow_c8_r_ob x342 x343 x344 x345 x346 x347 x348 x349 x350 x351 x352 s.1 s.2) (x345, 0)
def impl_LoopFlow_c8_S := fun x342 x343 x344 x345 x346 x347 x348 x349 x350 x351 x352 => lpS (impl_LoopFlow_c8_r_S x342 x343 x344 x345 x346 x347 x348 x349 x350 x351 x352 x345 0) (impl_LoopFlow_c8 x342 x343 x344 x345 x346 x347 x348 x349 x350 x351 x352) (impl_LoopFlow_c8_ob x342 x343 x344 x345 x346 x347 x348 x349 x350 x351 x352)
def impl_LoopFlow_c5_t (x293 x294 : LR) (x295 : Int) (x296 : LR) (x297 : Int) (x298 x299 x300 : LI) (x301 : Int) : Tr (LR × Bool × Unit) (LR × LI) Empty Empty Empty :=
  .w [(p_impl_loopStep x298 x299 x300)] (.w [lim (lenI .item []) (lenI .item (v_impl_loopStep x298 x299 x300))] (.s (impl_LoopFlow_c6_S x293 x294 x295 x296 x297 x298 x299 (v_impl_loopStep x298 x299 x300) x301 ([] ++ (v_impl_loopStep x298 x299 x300))) (fun q340 => .w [(p_impl_gathered q340)] (.s (impl_LoopFlow_c8_S x293 x294 x295 x296 x297 x298 x299 (v_impl_loopStep x298 x299 x300) x301 (v_impl_gathered q340) (lenI .item (v_impl_gathered q340))) nE (fun q366 => .l (.n (q366, (v_impl_loopStep x298 x299 x300)))) nE nE)) nE nE nE))
def impl_LoopFlow_c5 := fun x293 x294 x295 x296 x297 x298 x299 x300 x301 => (impl_LoopFlow_c5_t x293 x294 x295 x296 x297 x298 x299 x300 x301).val
def impl_LoopFlow_c5_ob := fun x293 x294 x295 x296 x297 x298 x299 x300 x301 => (impl_LoopFlow_c5_t x293 x294 x295 x296 x297 x298 x299 x300 x301).ob
def impl_LoopFlow_c5_S := fun x293 x294 x295 x296 x297 x298 x299 x300 x301 => SubP.mk (impl_LoopFlow_c5 x293 x294 x295 x296 x297 x298 x299 x300 x301) (impl_LoopFlow_c5_ob x293 x294 x295 x296 x297 x298 x299 x300 x301) [0,1,0,0,1,1,1,0,0,1,0,0,1,0,1,1,1] [(0, .S .row x293), (1, .S .row x294), (2, .I x295), (8, .A .row x296), (9, .I x297), (10, .v .fr (.lst .item x298)), (11, .v .fr (.lst .item x299)), (12, .A .item x300), (13, .I x301)] rv53 (fun q => [(0, .S .row x293), (1, .S .row x294), (2, .I x295), (8, .A .row q.1), (9, .I x297), (10, .v .fr (.lst .item x298)), (11, .v .fr (.lst .item x299)), (12, .A .item q.2), (13, .I x301)]) nE nE nE
def impl_LoopFlow_c4_r_t (x200 x201 : LR) (x202 : Int) (_x203 : LR) (x204 : Int) (x205 x206 : LI) (s289 : LR) (s290 : LI) (s291 : Int) : Tr (LR × Bool × Unit) (LR × LI × Int) LR Empty Empty :=
  .c (cmp .leq s291 x202)
  (.s (impl_LoopFlow_c5_S x200 x201 x202 s289 x204 x205 x206 s290 s291) (fun q372 => .l (.n (q372.1, q372.2, (ar .add .i64 s291 1)))) nE nE nE)
  (.l (.x s289))
def impl_LoopFlow_c4_r := fun x200 x201 x202 x203 x204 x205 x206 s289 s290 s291 => (impl_LoopFlow_c4_r_t x200 x201 x202 x203 x204 x205 x206 s289 s290 s291).val
def impl_LoopFlow_c4_r_ob := fun x200 x201 x202 x203 x204 x205 x206 s289 s290 s291 => (impl_LoopFlow_c4_r_t x200 x201 x202 x203 x204 x205 x206 s289 s290 s291).ob
def impl_LoopFlow_c4_r_S := fun x200 x201 x202 x203 x204 x205 x206 s289 s290 s291 => mkRd (impl_LoopFlow_c4_r x200 x201 x202 x203 x204 x205 x206 s289 s290 s291) (impl_LoopFlow_c4_r_ob x200 x201 x202 x203 x204 x205 x206 s289 s290 s291) [0,0,1,1,1,0,0,1,0,0,1,0,1,1,1] (fun q => [(0, .S .row x200), (1, .S .row x201), (2, .I x202), (8, .A .row q.1), (9, .I x204), (10, .v .fr (.lst .item x205)), (11, .v .fr (.lst .item x206)), (12, .A .item q.2.1), (13, .I q.2.2)]) (s289, s290, s291) rv53 (fun q => (2, [(0, .S .row x200), (1, .S .row x201), (2, .I x202), (8, .A .row q), (9, .I x204)])) nE nE
def impl_LoopFlow_c4 := fun x200 x201 x202 x203 x204 x205 x206 => lpV (fun s : LR × LI × Int => ocLp (impl_LoopFlow_c4_r x200 x201 x202 x203 x204 x205 x206 s.1 s.2.1 s.2.2)) (x203, [], 1)
def impl_LoopFlow_c4_ob := fun x200 x201 x202 x203 x204 x205 x206 => LpT (fun s : LR × LI × Int => ocLp (impl_LoopFlow_c4_r x200 x201 x202 x203 x204 x205 x206 s.1 s.2.1 s.2.2)) (fun s => impl_LoopFlow_c4_r_ob x200 x201 x202 x203 x204 x205 x206 s.1 s.2.1 s.2.2) (x203, [], 1)
def impl_LoopFlow_c4_S := fun x200 x201 x202 x203 x204 x205 x206 => lpS (impl_LoopFlow_c4_r_S x200 x201 x202 x203 x204 x205 x206 x203 [] 1) (impl_LoopFlow_c4 x200 x201 x202 x203 x204 x205 x206) (impl_LoopFlow_c4_ob x200 x201 x202 x203 x204 x205 x206)
def impl_LoopFlow_c3_t (x195 x196 : LR) (x197 : Int) (x198 : LR) (x199 : Int) : Tr (LR × Bool × Unit) LR Empty Empty Empty :=
  .w [(p_impl_present x195 (Time.mk x199 0)), (p_impl_present x196 (Time.mk x199 0))] (.s (impl_LoopFlow_c4_S x195 x196 x197 x198 x199 (v_impl_present x195 (Time.mk x199 0)) (v_impl_present x196 (Time.mk x199 0))) nE (fun q385 => .l (.n q385)) nE nE)
def impl_LoopFlow_c3 := fun x195 x196 x197 x198 x199 => (impl_LoopFlow_c3_t x195 x196 x197 x198 x199).val
def impl_LoopFlow_c3_ob := fun x195 x196 x197 x198 x199 => (impl_LoopFlow_c3_t x195 x196 x197 x198 x199).ob
def impl_LoopFlow_c3_S := fun x195 x196 x197 x198 x199 => SubP.mk (impl_LoopFlow_c3 x195 x196 x197 x198 x199) (impl_LoopFlow_c3_ob x195 x196 x197 x198 x199) [0,1,0,0,1,0,1,1,1] [(0, .S .row x195), (1, .S .row x196), (2, .I x197), (8, .A .row x198), (9, .I x199)] rv53 (fun q => [(0, .S .row x195), (1, .S .row x196), (2, .I x197), (8, .A .row q), (9, .I x199)]) nE nE nE
def impl_LoopFlow_c2_r_t (x5 x6 : LR) (x7 : Int) (s192 : LR) (s193 : Int) : Tr (LR × Bool × Unit) (LR × Int) LR Empty Empty :=
  .c (cmp .leq s193 7)
  (.s (impl_LoopFlow_c3_S x5 x6 x7 s192 s193) (fun q388 => .l (.n (q388, (ar .add .i64 s193 1)))) nE nE nE)
  (.l (.x s192))
def impl_LoopFlow_c2_r := fun x5 x6 x7 s192 s193 => (impl_LoopFlow_c2_r_t x5 x6 x7 s192 s193).val
def impl_LoopFlow_c2_r_ob := fun x5 x6 x7 s192 s193 => (impl_LoopFlow_c2_r_t x5 x6 x7 s192 s193).ob
def impl_LoopFlow_c2_r_S := fun x5 x6 x7 s192 s193 => mkRd (impl_LoopFlow_c2_r x5 x6 x7 s192 s193) (impl_LoopFlow_c2_r_ob x5 x6 x7 s192 s193) [0,0,1,0,1,1,1] (fun q => [(0, .S .row x5), (1, .S .row x6), (2, .I x7), (8, .A .row q.1), (9, .I q.2)]) (s192, s193) rv53 (fun q => (0, [(8, .A .row q)])) nE nE
def impl_LoopFlow_c2 := fun x5 x6 x7 => lpV (fun s : LR × Int => ocLp (impl_LoopFlow_c2_r x5 x6 x7 s.1 s.2)) ([], 0)
def impl_LoopFlow_c2_ob := fun x5 x6 x7 => LpT (fun s : LR × Int => ocLp (impl_LoopFlow_c2_r x5 x6 x7 s.1 s.2)) (fun s => impl_LoopFlow_c2_r_ob x5 x6 x7 s.1 s.2) ([], 0)
def impl_LoopFlow_c2_S := fun x5 x6 x7 => lpS (impl_LoopFlow_c2_r_S x5 x6 x7 [] 0) (impl_LoopFlow_c2 x5 x6 x7) (impl_LoopFlow_c2_ob x5 x6 x7)
def impl_LoopFlow_c1_t (x2 x3 : LR) (x4 : Int) : Tr (LR × Bool × Unit) LR Empty Empty Empty :=
  .s (impl_LoopFlow_c2_S x2 x3 x4) nE (fun q399 => .l (.n q399)) nE nE
def impl_LoopFlow_c1 := fun x2 x3 x4 => (impl_LoopFlow_c1_t x2 x3 x4).val
def impl_LoopFlow_c1_ob := fun x2 x3 x4 => (impl_LoopFlow_c1_t x2 x3 x4).ob
def impl_LoopFlow_c1_S := fun x2 x3 x4 => SubP.mk (impl_LoopFlow_c1 x2 x3 x4) (impl_LoopFlow_c1_ob x2 x3 x4) [0,1,1,1] [(0, .S .row x2), (1, .S .row x3), (2, .I x4), (8, .A .row [])] rv53 (fun q => [(8, .A .row q)]) nE nE nE
def impl_LoopFlow_b_t (a0 a1 : LR) (a2 : Int) : Tr (LR × Bool × Unit) Empty Empty Empty Empty :=
  .w [(p_impl_flat a0), (((!(!(v_impl_flat a0))) && true) = true → (p_impl_flat a1))] (.c (cond (cond (cond (!(v_impl_flat a0)) true (!(v_impl_flat a1))) true (cmp .lss a2 1)) true (cmp .gtr a2 6))
  (.l (.r ([], (false, ()))))
  (.s (impl_LoopFlow_c1_S a0 a1 a2) (fun q402 => .w [(p_impl_batch q402)] (.l (.r ((v_impl_batch q402).1, ((v_impl_batch q402).2.1, ()))))) nE nE nE))
def impl_LoopFlow_b := fun a0 a1 a2 => (impl_LoopFlow_b_t a0 a1 a2).val
def impl_LoopFlow_b_ob := fun a0 a1 a2 => (impl_LoopFlow_b_t a0 a1 a2).ob
def v_impl_LoopFlow (a0 : LR) (a1 : LR) (a2 : Int) : LR × Bool × Unit := ocR (impl_LoopFlow_b a0 a1 a2)
def p_impl_LoopFlow (a0 : LR) (a1 : LR) (a2 : Int) : Prop := impl_LoopFlow_b_ob a0 a1 a2
def sp_laws_lwRows : SP := []
abbrev F54 : Fnn := ⟨[.tmp 4], .one .fr .bool, none, []⟩
abbrev rv54 : Bool → RV := fun q => (some (RT.av (.one .fr .bool) q), .dead)
abbrev Ok54 (fr : Fr) {A X Y Z : Type} (S : SubP Bool A X Y Z) : Prop := SubOk Try.prog tt ⟨Try.f54.ntmps, none, []⟩ fr (bodyOf Try.f54) F54 S
def laws_lwRows_c2_r_t (x4 x5 : LR) (s9 : Int) : Tr Bool Int Unit Empty Empty :=
  .c (cmp .lss s9 (lenI .row x4))
  (.w [inb s9 (lenI .row x4), inb s9 (lenI .row x5)] (.c (!(cmp .eql (rd .row x4 s9).Key (rd .row x5 s9).Key && (cmp .eql (rd .row x4 s9).Val (rd .row x5 s9).Val && (cmp .eql (rd .row x4 s9).At.A (rd .row x5 s9).At.A && (cmp .eql (rd .row x4 s9).At.B (rd .row x5 s9).At.B && (cmp .eql (rd .row x4 s9).Diff (rd .row x5 s9).Diff && true))))))
  (.l (.r false))
  (.l (.n (ar .add .i64 s9 1)))))
  (.l (.x ()))
def laws_lwRows_c2_r := fun x4 x5 s9 => (laws_lwRows_c2_r_t x4 x5 s9).val
def laws_lwRows_c2_r_ob := fun x4 x5 s9 => (laws_lwRows_c2_r_t x4 x5 s9).ob
def laws_lwRows_c2_r_S := fun x4 x5 s9 => mkRd (laws_lwRows_c2_r x4 x5 s9) (laws_lwRows_c2_r_ob x4 x5 s9) [0,0,1,0,1,1] (fun q => [(0, .S .row x4), (1, .S .row x5), (5, .I q)]) s9 rv54 (fun _ => (0, [])) nE nE
theorem laws_lwRows_c2_r_ok (G : Good Try.prog tt sp_laws_lwRows) {fr : Fr} : ∀ x4 x5 s9, Ok54 fr (laws_lwRows_c2_r_S x4 x5 s9) :=
  fun x4 x5 s9 => run_ok G [] trivial [(4,[0,1,5,14]),(5,[0,1,5]),(6,[0,1,5,25]),(7,[4])] [] [] (laws_lwRows_c2_r_t x4 x5 s9) rfl rfl (by kernel_rfl)
def laws_lwRows_c2 := fun x4 x5 => lpV (fun s : Int => ocLp (laws_lwRows_c2_r x4 x5 s)) 0
def laws_lwRows_c2_ob := fun x4 x5 => LpT (fun s : Int => ocLp (laws_lwRows_c2_r x4 x5 s)) (fun s => laws_lwRows_c2_r_ob x4 x5 s) 0
def laws_lwRows_c2_S := fun x4 x5 => lpS (laws_lwRows_c2_r_S x4 x5 0) (laws_lwRows_c2 x4 x5) (laws_lwRows_c2_ob x4 x5)
theorem laws_lwRows_c2_ok (G : Good Try.prog tt sp_laws_lwRows) {fr : Fr} : ∀ x4 x5, Ok54 fr (laws_lwRows_c2_S x4 x5) :=
  fun x4 x5 => loop_ok (fun s : Int => laws_lwRows_c2_r_S x4 x5 s) 0 (fun _ => rfl) (fun _ => ⟨rfl, rfl, rfl, rfl, rfl⟩) (by kernel_rfl) fun _ => laws_lwRows_c2_r_ok G _ _ _
def laws_lwRows_c1_t (x2 x3 : LR) : Tr Bool Unit Empty Empty Empty :=
  .s (laws_lwRows_c2_S x2 x3) nE (fun _ => .l (.n ())) nE nE
def laws_lwRows_c1 := fun x2 x3 => (laws_lwRows_c1_t x2 x3).val
def laws_lwRows_c1_ob := fun x2 x3 => (laws_lwRows_c1_t x2 x3).ob
def laws_lwRows_c1_S := fun x2 x3 => SubP.mk (laws_lwRows_c1 x2 x3) (laws_lwRows_c1_ob x2 x3) [0,1,1] [(0, .S .row x2), (1, .S .row x3)] rv54 (fun _ => []) nE nE nE
theorem laws_lwRows_c1_ok (G : Good Try.prog tt sp_laws_lwRows) {fr : Fr} : ∀ x2 x3, Ok54 fr (laws_lwRows_c1_S x2 x3) :=
  fun x2 x3 => run_ok G [([0,1,0,1,1], fun e => ⟨laws_lwRows_c2_S (gL .row e 0 0) (gL .row e 1 0)⟩)] ⟨fun _ => ⟨rfl, laws_lwRows_c2_ok G _ _⟩, trivial⟩ [(3,[0,1,5])] [] [] (laws_lwRows_c1_t x2 x3) rfl rfl (by kernel_rfl)
def laws_lwRows_b_t (a0 a1 : LR) : Tr Bool Empty Empty Empty Empty :=
  .c (cmp .neq (lenI .row a0) (lenI .row a1))
  (.l (.r false))
  (.s (laws_lwRows_c1_S a0 a1) (fun _ => .l (.r true)) nE nE nE)
def laws_lwRows_b := fun a0 a1 => (laws_lwRows_b_t a0 a1).val
def laws_lwRows_b_ob := fun a0 a1 => (laws_lwRows_b_t a0 a1).ob
def laws_lwRows_b_S := fun a0 a1 => SubP.mk (laws_lwRows_b a0 a1) (laws_lwRows_b_ob a0 a1) [] [(0, .S .row a0), (1, .S .row a1)] rv54 nE nE nE nE
theorem laws_lwRows_b_ok (G : Good Try.prog tt sp_laws_lwRows) {fr : Fr} : ∀ a0 a1, Ok54 fr (laws_lwRows_b_S a0 a1) :=
  fun a0 a1 => run_ok G [([0,1,1], fun e => ⟨laws_lwRows_c1_S (gL .row e 0 0) (gL .row e 1 0)⟩)] ⟨fun _ => ⟨rfl, laws_lwRows_c1_ok G _ _⟩, trivial⟩ [(0,[0,1]),(1,[0,1,10]),(2,[4]),(8,[4])] [] [] (laws_lwRows_b_t a0 a1) rfl rfl (by kernel_rfl)
def v_laws_lwRows (a0 : LR) (a1 : LR) : Bool := ocR (laws_lwRows_b a0 a1)
def p_laws_lwRows (a0 : LR) (a1 : LR) : Prop := laws_lwRows_b_ob a0 a1
def s_laws_lwRows : Spec := ⟨[(.lst .row), (.lst .row)], .one .fr .bool, false, fun x => (v_laws_lwRows x.1 x.2.1, 0), fun x => p_laws_lwRows x.1 x.2.1⟩
theorem con_laws_lwRows (G : Good Try.prog tt sp_laws_lwRows) : Con Try.prog 54 s_laws_lwRows :=
  con_run (pts := [(.lst .row), (.lst .row)]) (rt := .one .fr .bool) (o := fun x => laws_lwRows_b x.1 x.2.1) (ob := fun x => laws_lwRows_b_ob x.1 x.2.1) G (fn := Try.f54) (c := bodyOf Try.f54) (by kernel_rfl) (by kernel_rfl) (by kernel_rfl) (rs := [.tmp 4]) (fz := F54.fz) (by kernel_rfl) (by kernel_rfl) (fun _ => rfl) rfl (fun x => laws_lwRows_b_S x.1 x.2.1) (fun _ => ⟨rfl, rfl, rfl, rfl, rfl⟩) (fun x _ => laws_lwRows_b_ok G x.1 x.2.1)
def sp_impl_BatchAt : SP := [(90, s_impl_RowsOk), (110, s_impl_TimeOk), (106, s_impl_present)]
abbrev F57 : Fnn := ⟨[.tmp 4], .one .fr (.lst .item), none, []⟩
abbrev rv57 : LI → RV := fun q => (some (RT.av (.one .fr (.lst .item)) q), .dead)
abbrev Ok57 (fr : Fr) {A X Y Z : Type} (S : SubP LI A X Y Z) : Prop := SubOk Try.prog tt ⟨Try.f57.ntmps, none, []⟩ fr (bodyOf Try.f57) F57 S
def impl_BatchAt_b_t (a0 : LR) (a1 : Time) : Tr LI Empty Empty Empty Empty :=
  .w [(p_impl_RowsOk a0), (((!(!(v_impl_RowsOk a0))) && true) = true → (p_impl_TimeOk a1))] (.c (cond (!(v_impl_RowsOk a0)) true (!(v_impl_TimeOk a1)))
  (.l (.r []))
  (.w [(p_impl_present a0 a1)] (.l (.r (v_impl_present a0 a1)))))
def impl_BatchAt_b := fun a0 a1 => (impl_BatchAt_b_t a0 a1).val
def impl_BatchAt_b_ob := fun a0 a1 => (impl_BatchAt_b_t a0 a1).ob
def impl_BatchAt_b_S := fun a0 a1 => SubP.mk (impl_BatchAt_b a0 a1) (impl_BatchAt_b_ob a0 a1) [] [(0, .S .row a0), (1, .agg true [.i a1.A, .i a1.B])] rv57 nE nE nE nE
theorem impl_BatchAt_b_ok (G : Good Try.prog tt sp_impl_BatchAt) {fr : Fr} : ∀ a0 a1, Ok57 fr (impl_BatchAt_b_S a0 a1) :=
  fun a0 a1 => run_ok G [] trivial [(0,[0,3]),(1,[0,3,12]),(2,[4]),(3,[4])] [] [] (impl_BatchAt_b_t a0 a1) rfl rfl (by kernel_rfl)
def v_impl_BatchAt (a0 : LR) (a1 : Time) : LI := ocR (impl_BatchAt_b a0 a1)
def p_impl_BatchAt (a0 : LR) (a1 : Time) : Prop := impl_BatchAt_b_ob a0 a1
def s_impl_BatchAt : Spec := ⟨[(.lst .row), (.st .time)], .one .fr (.lst .item), false, fun x => (v_impl_BatchAt x.1 x.2.1, 0), fun x => p_impl_BatchAt x.1 x.2.1⟩
theorem con_impl_BatchAt (G : Good Try.prog tt sp_impl_BatchAt) : Con Try.prog 57 s_impl_BatchAt :=
  con_run (pts := [(.lst .row), (.st .time)]) (rt := .one .fr (.lst .item)) (o := fun x => impl_BatchAt_b x.1 x.2.1) (ob := fun x => impl_BatchAt_b_ob x.1 x.2.1) G (fn := Try.f57) (c := bodyOf Try.f57) (by kernel_rfl) (by kernel_rfl) (by kernel_rfl) (rs := [.tmp 4]) (fz := F57.fz) (by kernel_rfl) (by kernel_rfl) (fun _ => rfl) rfl (fun x => impl_BatchAt_b_S x.1 x.2.1) (fun _ => ⟨rfl, rfl, rfl, rfl, rfl⟩) (fun x _ => impl_BatchAt_b_ok G x.1 x.2.1)
def sp_impl_LoopOut : SP := [(90, s_impl_RowsOk), (91, s_impl_batch)]
abbrev F38 : Fnn := ⟨[.tmp 4], .one .sh (.lst .row), none, []⟩
abbrev rv38 : LR → RV := fun q => (some (RT.av (.one .sh (.lst .row)) q), .dead)
abbrev Ok38 (fr : Fr) {A X Y Z : Type} (S : SubP LR A X Y Z) : Prop := SubOk Try.prog tt ⟨Try.f38.ntmps, none, []⟩ fr (bodyOf Try.f38) F38 S
def impl_LoopOut_c3_t (x22 : Int) (x23 x24 : LR) (_x25 x26 : Int) : Tr LR LR Empty Empty Empty :=
  .w [inb x26 (lenI .row x24)] (.c (cmp .leq (rd .row x24 x26).At.B x22)
  (.w [lim (lenI .row x23) (lenI .row [(Row.mk (rd .row x24 x26).Key (rd .row x24 x26).Val (Time.mk (rd .row x24 x26).At.A 0) (rd .row x24 x26).Diff)])] (.l (.n (x23 ++ [(Row.mk (rd .row x24 x26).Key (rd .row x24 x26).Val (Time.mk (rd .row x24 x26).At.A 0) (rd .row x24 x26).Diff)]))))
  (.l (.n x23)))
def impl_LoopOut_c3 := fun x22 x23 x24 x25 x26 => (impl_LoopOut_c3_t x22 x23 x24 x25 x26).val
def impl_LoopOut_c3_ob := fun x22 x23 x24 x25 x26 => (impl_LoopOut_c3_t x22 x23 x24 x25 x26).ob
def impl_LoopOut_c3_S := fun x22 x23 x24 x25 x26 => SubP.mk (impl_LoopOut_c3 x22 x23 x24 x25 x26) (impl_LoopOut_c3_ob x22 x23 x24 x25 x26) [0,1,1,0,0,1,0,1,1,1] [(1, .I x22), (5, .A .row x23), (14, .S .row x24), (15, .I x25), (16, .I x26)] rv38 (fun q => [(1, .I x22), (5, .A .row q), (14, .S .row x24), (15, .I x25), (16, .I x26)]) nE nE nE
theorem impl_LoopOut_c3_ok (G : Good Try.prog tt sp_impl_LoopOut) {fr : Fr} : ∀ x22 x23 x24 x25 x26, Ok38 fr (impl_LoopOut_c3_S x22 x23 x24 x25 x26) :=
  fun x22 x23 x24 x25 x26 => run_ok G [] trivial [(6,[1,5,7,14,15,16]),(7,[1,5,7,14,15,16,24]),(8,[1,5,7,14,15,16]),(9,[1,5,14,15,16])] [] [] (impl_LoopOut_c3_t x22 x23 x24 x25 x26) rfl rfl (by kernel_rfl)
def impl_LoopOut_c2_r_t (x4 : Int) (x5 : LR) (x6 : Int) (s19 : LR) (s20 : Int) : Tr LR (LR × Int) LR Empty Empty :=
  .c (cmp .lss s20 x6)
  (.s (impl_LoopOut_c3_S x4 s19 x5 x6 s20) (fun q29 => .l (.n (q29, (ar .add .i64 s20 1)))) nE nE nE)
  (.l (.x s19))
def impl_LoopOut_c2_r := fun x4 x5 x6 s19 s20 => (impl_LoopOut_c2_r_t x4 x5 x6 s19 s20).val
def impl_LoopOut_c2_r_ob := fun x4 x5 x6 s19 s20 => (impl_LoopOut_c2_r_t x4 x5 x6 s19 s20).ob
def impl_LoopOut_c2_r_S := fun x4 x5 x6 s19 s20 => mkRd (impl_LoopOut_c2_r x4 x5 x6 s19 s20) (impl_LoopOut_c2_r_ob x4 x5 x6 s19 s20) [0,0,1,0,1,1,1] (fun q => [(1, .I x4), (5, .A .row q.1), (14, .S .row x5), (15, .I x6), (16, .I q.2)]) (s19, s20) rv38 (fun q => (0, [(5, .A .row q)])) nE nE
theorem impl_LoopOut_c2_r_ok (G : Good Try.prog tt sp_impl_LoopOut) {fr : Fr} : ∀ x4 x5 x6 s19 s20, Ok38 fr (impl_LoopOut_c2_r_S x4 x5 x6 s19 s20) :=
  fun x4 x5 x6 s19 s20 => run_ok G [([0,1,1,0,0,1,0,1,1,1], fun e => ⟨impl_LoopOut_c3_S (gI e 1 0) (gL .row e 5 0) (gL .row e 14 0) (gI e 15 0) (gI e 16 0)⟩)] ⟨fun _ => ⟨rfl, impl_LoopOut_c3_ok G _ _ _ _ _⟩, trivial⟩ [(5,[1,5,14,15,16,17]),(10,[1,5,14,15,16])] [] [] (impl_LoopOut_c2_r_t x4 x5 x6 s19 s20) rfl rfl (by kernel_rfl)
def impl_LoopOut_c2 := fun x4 x5 x6 => lpV (fun s : LR × Int => ocLp (impl_LoopOut_c2_r x4 x5 x6 s.1 s.2)) ([], 0)
def impl_LoopOut_c2_ob := fun x4 x5 x6 => LpT (fun s : LR × Int => ocLp (impl_LoopOut_c2_r x4 x5 x6 s.1 s.2)) (fun s => impl_LoopOut_c2_r_ob x4 x5 x6 s.1 s.2) ([], 0)
def impl_LoopOut_c2_S := fun x4 x5 x6 => lpS (impl_LoopOut_c2_r_S x4 x5 x6 [] 0) (impl_LoopOut_c2 x4 x5 x6) (impl_LoopOut_c2_ob x4 x5 x6)
theorem impl_LoopOut_c2_ok (G : Good Try.prog tt sp_impl_LoopOut) {fr : Fr} : ∀ x4 x5 x6, Ok38 fr (impl_LoopOut_c2_S x4 x5 x6) :=
  fun x4 x5 x6 => loop_ok (fun s : LR × Int => impl_LoopOut_c2_r_S x4 x5 x6 s.1 s.2) ([], 0) (fun _ => rfl) (fun _ => ⟨rfl, rfl, rfl, rfl, rfl⟩) (by kernel_rfl) fun _ => impl_LoopOut_c2_r_ok G _ _ _ _ _
def impl_LoopOut_c1_t (x2 : LR) (x3 : Int) : Tr LR LR Empty Empty Empty :=
  .s (impl_LoopOut_c2_S x3 x2 (lenI .row x2)) nE (fun q40 => .l (.n q40)) nE nE
def impl_LoopOut_c1 := fun x2 x3 => (impl_LoopOut_c1_t x2 x3).val
def impl_LoopOut_c1_ob := fun x2 x3 => (impl_LoopOut_c1_t x2 x3).ob
def impl_LoopOut_c1_S := fun x2 x3 => SubP.mk (impl_LoopOut_c1 x2 x3) (impl_LoopOut_c1_ob x2 x3) [0,1,1,1] [(0, .S .row x2), (1, .I x3), (5, .A .row [])] rv38 (fun q => [(5, .A .row q)]) nE nE nE
theorem impl_LoopOut_c1_ok (G : Good Try.prog tt sp_impl_LoopOut) {fr : Fr} : ∀ x2 x3, Ok38 fr (impl_LoopOut_c1_S x2 x3) :=
  fun x2 x3 => run_ok G [([0,1,0,1,1,1], fun e => ⟨impl_LoopOut_c2_S (gI e 1 0) (gL .row e 14 0) (gI e 15 0)⟩)] ⟨fun _ => ⟨rfl, impl_LoopOut_c2_ok G _ _ _⟩, trivial⟩ [(4,[1,5,14,15,16])] [] [] (impl_LoopOut_c1_t x2 x3) rfl rfl (by kernel_rfl)
def impl_LoopOut_b_t (a0 : LR) (a1 : Int) : Tr LR Empty Empty Empty Empty :=
  .w [(p_impl_RowsOk a0)] (.c (!(v_impl_RowsOk a0))
  (.l (.r []))
  (.s (impl_LoopOut_c1_S a0 a1) (fun q43 => .w [(p_impl_batch q43)] (.l (.r (v_impl_batch q43).1))) nE nE nE))
def impl_LoopOut_b := fun a0 a1 => (impl_LoopOut_b_t a0 a1).val
def impl_LoopOut_b_ob := fun a0 a1 => (impl_LoopOut_b_t a0 a1).ob
def impl_LoopOut_b_S := fun a0 a1 => SubP.mk (impl_LoopOut_b a0 a1) (impl_LoopOut_b_ob a0 a1) [] [(0, .S .row a0), (1, .I a1)] rv38 nE nE nE nE
theorem impl_LoopOut_b_ok (G : Good Try.prog tt sp_impl_LoopOut) {fr : Fr} : ∀ a0 a1, Ok38 fr (impl_LoopOut_b_S a0 a1) :=
  fun a0 a1 => run_ok G [([0,1,1,1], fun e => ⟨impl_LoopOut_c1_S (gL .row e 0 0) (gI e 1 0)⟩)] ⟨fun _ => ⟨rfl, impl_LoopOut_c1_ok G _ _⟩, trivial⟩ [(0,[0,1]),(1,[0,1,12]),(2,[4]),(3,[0,1,5]),(11,[8]),(12,[4])] [] [] (impl_LoopOut_b_t a0 a1) rfl rfl (by kernel_rfl)
def v_impl_LoopOut (a0 : LR) (a1 : Int) : LR := ocR (impl_LoopOut_b a0 a1)
def p_impl_LoopOut (a0 : LR) (a1 : Int) : Prop := impl_LoopOut_b_ob a0 a1
def s_impl_LoopOut : Spec := ⟨[(.lst .row), (.int .i64)], .one .sh (.lst .row), false, fun x => (v_impl_LoopOut x.1 x.2.1, 0), fun x => p_impl_LoopOut x.1 x.2.1⟩
theorem con_impl_LoopOut (G : Good Try.prog tt sp_impl_LoopOut) : Con Try.prog 38 s_impl_LoopOut :=
  con_run (pts := [(.lst .row), (.int .i64)]) (rt := .one .sh (.lst .row)) (o := fun x => impl_LoopOut_b x.1 x.2.1) (ob := fun x => impl_LoopOut_b_ob x.1 x.2.1) G (fn := Try.f38) (c := bodyOf Try.f38) (by kernel_rfl) (by kernel_rfl) (by kernel_rfl) (rs := [.tmp 4]) (fz := F38.fz) (by kernel_rfl) (by kernel_rfl) (fun _ => rfl) rfl (fun x => impl_LoopOut_b_S x.1 x.2.1) (fun _ => ⟨rfl, rfl, rfl, rfl, rfl⟩) (fun x _ => impl_LoopOut_b_ok G x.1 x.2.1)
def sp_spec_l71Spoil : SP := [(144, s_spec_l71Row), (98, s_spec_l6Rd_pick)]
abbrev F136 : Fnn := ⟨[.tmp 4], .one (.acc false) (.lst .row), some 0, []⟩
abbrev rv136 (b : LB) : LR × Int → RV := fun q => (some (RT.av (.one (.acc false) (.lst .row)) q.1), .box [(.sh, .lst .byte b), (.fr, .i q.2)])
abbrev Ok136 (fr : Fr) {A X Y Z : Type} (S : SubP (LR × Int) A X Y Z) : Prop := SubOk Try.prog tt ⟨Try.f136.ntmps, some 0, []⟩ fr (bodyOf Try.f136) F136 S
def spec_l71Spoil_c1_t (x1 : LB) (x2 : Int) (_x3 : LR) (x4 : Row) : Tr (LR × Int) (Int × Int × Int × Int × Int × Int) Empty Empty Empty :=
  .w [(p_spec_l6Rd_pick (x1, x2) 5)] (.c (cmp .eql (v_spec_l6Rd_pick (x1, x2) 5).1 0)
  (.w [(p_spec_l6Rd_pick (x1, (v_spec_l6Rd_pick (x1, x2) 5).2) 2), inb (v_spec_l6Rd_pick (x1, (v_spec_l6Rd_pick (x1, x2) 5).2) 2).1 (lenI .int [(-1), 4])] (.l (.n ((v_spec_l6Rd_pick (x1, (v_spec_l6Rd_pick (x1, x2) 5).2) 2).2, (rd .int [(-1), 4] (v_spec_l6Rd_pick (x1, (v_spec_l6Rd_pick (x1, x2) 5).2) 2).1), x4.Val, x4.At.A, x4.At.B, x4.Diff))))
  (.c (cmp .eql (v_spec_l6Rd_pick (x1, x2) 5).1 1)
  (.w [(p_spec_l6Rd_pick (x1, (v_spec_l6Rd_pick (x1, x2) 5).2) 2), inb (v_spec_l6Rd_pick (x1, (v_spec_l6Rd_pick (x1, x2) 5).2) 2).1 (lenI .int [(-1), 100])] (.l (.n ((v_spec_l6Rd_pick (x1, (v_spec_l6Rd_pick (x1, x2) 5).2) 2).2, x4.Key, (rd .int [(-1), 100] (v_spec_l6Rd_pick (x1, (v_spec_l6Rd_pick (x1, x2) 5).2) 2).1), x4.At.A, x4.At.B, x4.Diff))))
  (.c (cmp .eql (v_spec_l6Rd_pick (x1, x2) 5).1 2)
  (.l (.n ((v_spec_l6Rd_pick (x1, x2) 5).2, x4.Key, x4.Val, (-1), 0, x4.Diff)))
  (.c (cmp .eql (v_spec_l6Rd_pick (x1, x2) 5).1 3)
  (.w [(p_spec_l6Rd_pick (x1, (v_spec_l6Rd_pick (x1, x2) 5).2) 2), inb (v_spec_l6Rd_pick (x1, (v_spec_l6Rd_pick (x1, x2) 5).2) 2).1 (lenI .int [(-100000), 100000])] (.l (.n ((v_spec_l6Rd_pick (x1, (v_spec_l6Rd_pick (x1, x2) 5).2) 2).2, x4.Key, x4.Val, x4.At.A, x4.At.B, (rd .int [(-100000), 100000] (v_spec_l6Rd_pick (x1, (v_spec_l6Rd_pick (x1, x2) 5).2) 2).1)))))
  (.l (.n ((v_spec_l6Rd_pick (x1, x2) 5).2, x4.Key, x4.Val, x4.At.A, 8, x4.Diff)))))))
def spec_l71Spoil_c1 := fun x1 x2 x3 x4 => (spec_l71Spoil_c1_t x1 x2 x3 x4).val
def spec_l71Spoil_c1_ob := fun x1 x2 x3 x4 => (spec_l71Spoil_c1_t x1 x2 x3 x4).ob
def spec_l71Spoil_c1_S := fun x1 x2 x3 x4 => SubP.mk (spec_l71Spoil_c1 x1 x2 x3 x4) (spec_l71Spoil_c1_ob x1 x2 x3 x4) [0,1,1] [(0, .box [(.sh, .lst .byte x1), (.fr, .i x2)]), (1, .S .row x3), (5, .box [(.fr, .i x4.Key), (.fr, .i x4.Val), (.fr, .i x4.At.A), (.fr, .i x4.At.B), (.fr, .i x4.Diff)])] (rv136 x1) (fun q => [(0, .box [(.sh, .lst .byte x1), (.fr, .i q.1)]), (1, .S .row x3), (5, .box [(.fr, .i q.2.1), (.fr, .i q.2.2.1), (.fr, .i q.2.2.2.1), (.fr, .i q.2.2.2.2.1), (.fr, .i q.2.2.2.2.2)])]) nE nE nE
theorem spec_l71Spoil_c1_ok (G : Good Try.prog tt sp_spec_l71Spoil) {fr : Fr} : ∀ x1 x2 x3 x4, Ok136 fr (spec_l71Spoil_c1_S x1 x2 x3 x4) :=
  fun x1 x2 x3 x4 => run_ok G [] trivial [(2,[0,1,5,9]),(3,[0,1,5]),(4,[0,1,5,9,12]),(5,[0,1,5]),(6,[0,1,5,9,20]),(7,[0,1,5]),(8,[0,1,5,9,28]),(9,[0,1,5]),(10,[0,1,5,32]),(11,[0,1,5])] [] [] (spec_l71Spoil_c1_t x1 x2 x3 x4) rfl rfl (by kernel_rfl)
def spec_l71Spoil_c2_t (_x17 : LB) (_x18 : Int) (x19 : LR) (x20 x21 x22 x23 x24 : Int) : Tr (LR × Int) LR Empty Empty Empty :=
  .w [lim (lenI .row []) (lenI .row x19), lim (lenI .row ([] ++ x19)) (lenI .row [(Row.mk x20 x21 (Time.mk x22 x23) x24)])] (.l (.n (([] ++ x19) ++ [(Row.mk x20 x21 (Time.mk x22 x23) x24)])))
def spec_l71Spoil_c2 := fun x17 x18 x19 x20 x21 x22 x23 x24 => (spec_l71Spoil_c2_t x17 x18 x19 x20 x21 x22 x23 x24).val
def spec_l71Spoil_c2_ob := fun x17 x18 x19 x20 x21 x22 x23 x24 => (spec_l71Spoil_c2_t x17 x18 x19 x20 x21 x22 x23 x24).ob
def spec_l71Spoil_c2_S := fun x17 x18 x19 x20 x21 x22 x23 x24 => SubP.mk (spec_l71Spoil_c2 x17 x18 x19 x20 x21 x22 x23 x24) (spec_l71Spoil_c2_ob x17 x18 x19 x20 x21 x22 x23 x24) [0,1,1,1] [(0, .box [(.sh, .lst .byte x17), (.fr, .i x18)]), (1, .S .row x19), (5, .box [(.fr, .i x20), (.fr, .i x21), (.fr, .i x22), (.fr, .i x23), (.fr, .i x24)])] (rv136 x17) (fun q => [(0, .box [(.sh, .lst .byte x17), (.fr, .i x18)]), (4, .v (.acc false) (.lst .row q))]) nE nE nE
theorem spec_l71Spoil_c2_ok (G : Good Try.prog tt sp_spec_l71Spoil) {fr : Fr} : ∀ x17 x18 x19 x20 x21 x22 x23 x24, Ok136 fr (spec_l71Spoil_c2_S x17 x18 x19 x20 x21 x22 x23 x24) :=
  fun x17 x18 x19 x20 x21 x22 x23 x24 => any_ok G [0,4] 20 (spec_l71Spoil_c2_t x17 x18 x19 x20 x21 x22 x23 x24) rfl rfl rfl (by kernel_rfl) (by kernel_rfl) (by kernel_rfl)
def spec_l71Spoil_b_t (a0 : (LB × Int)) (a1 : LR) : Tr (LR × Int) Empty Empty Empty Empty :=
  .w [(p_spec_l71Row (a0.1, a0.2))] (.s (spec_l71Spoil_c1_S a0.1 (v_spec_l71Row (a0.1, a0.2)).2 a1 (v_spec_l71Row (a0.1, a0.2)).1) (fun q15 => .s (spec_l71Spoil_c2_S a0.1 q15.1 a1 q15.2.1 q15.2.2.1 q15.2.2.2.1 q15.2.2.2.2.1 q15.2.2.2.2.2) (fun q26 => .l (.r (q26, q15.1))) nE nE nE) nE nE nE)
def spec_l71Spoil_b := fun a0 a1 => (spec_l71Spoil_b_t a0 a1).val
def spec_l71Spoil_b_ob := fun a0 a1 => (spec_l71Spoil_b_t a0 a1).ob
def spec_l71Spoil_b_S := fun a0 a1 => SubP.mk (spec_l71Spoil_b a0 a1) (spec_l71Spoil_b_ob a0 a1) [] [(0, .box [(.sh, .lst .byte a0.1), (.fr, .i a0.2)]), (1, .S .row a1)] (rv136 a0.1) nE nE nE nE
theorem spec_l71Spoil_b_ok (G : Good Try.prog tt sp_spec_l71Spoil) {fr : Fr} : ∀ a0 a1, Ok136 fr (spec_l71Spoil_b_S a0 a1) :=
  fun a0 a1 => run_ok G [([0,1,1], fun e => ⟨spec_l71Spoil_c1_S (gL .byte e 0 0) (gI e 0 1) (gL .row e 1 0) (gRow e 5)⟩), ([0,1,1,1], fun e => ⟨spec_l71Spoil_c2_S (gL .byte e 0 0) (gI e 0 1) (gL .row e 1 0) (gI e 5 0) (gI e 5 1) (gI e 5 2) (gI e 5 3) (gI e 5 4)⟩)] ⟨fun _ => ⟨rfl, spec_l71Spoil_c1_ok G _ _ _ _⟩, fun _ => ⟨rfl, spec_l71Spoil_c2_ok G _ _ _ _ _ _ _ _⟩, trivial⟩ [(0,[0,1]),(1,[0,1,5])] [] [] (spec_l71Spoil_b_t a0 a1) rfl rfl (by kernel_rfl)
def v_spec_l71Spoil (a0 : (LB × Int)) (a1 : LR) : LR × Int := ocR (spec_l71Spoil_b a0 a1)
def p_spec_l71Spoil (a0 : (LB × Int)) (a1 : LR) : Prop := spec_l71Spoil_b_ob a0 a1
def s_spec_l71Spoil : Spec := ⟨[.rdr, (.lst .row)], .one (.acc false) (.lst .row), true, fun x => v_spec_l71Spoil x.1 x.2.1, fun x => p_spec_l71Spoil x.1 x.2.1⟩
theorem con_spec_l71Spoil (G : Good Try.prog tt sp_spec_l71Spoil) : Con Try.prog 136 s_spec_l71Spoil :=
  con_rdr (pts := [.rdr, (.lst .row)]) (rt := .one (.acc false) (.lst .row)) (o := fun x => spec_l71Spoil_b x.1 x.2.1) (ob := fun x => spec_l71Spoil_b_ob x.1 x.2.1) G (fn := Try.f136) (c := bodyOf Try.f136) (by kernel_rfl) (by kernel_rfl) (by kernel_rfl) (rs := [.tmp 4]) (fz := F136.fz) (by kernel_rfl) (by kernel_rfl) (fun h => Bool.noConfusion h) rfl (fun x => x.1.1) (fun _ => rfl) (fun x => spec_l71Spoil_b_S x.1 x.2.1) (fun _ => ⟨rfl, rfl, rfl, rfl, rfl⟩) (fun x _ => spec_l71Spoil_b_ok G x.1 x.2.1)
def sp_spec_l71Any : SP := [(129, s_spec_l71Rows), (98, s_spec_l6Rd_pick), (136, s_spec_l71Spoil)]
abbrev F108 : Fnn := ⟨[.tmp 2], .one (.acc false) (.lst .row), some 0, []⟩
abbrev rv108 (b : LB) : LR × Int → RV := fun q => (some (RT.av (.one (.acc false) (.lst .row)) q.1), .box [(.sh, .lst .byte b), (.fr, .i q.2)])
abbrev Ok108 (fr : Fr) {A X Y Z : Type} (S : SubP (LR × Int) A X Y Z) : Prop := SubOk Try.prog tt ⟨Try.f108.ntmps, some 0, []⟩ fr (bodyOf Try.f108) F108 S
def spec_l71Any_b_t (a0 : (LB × Int)) : Tr (LR × Int) Empty Empty Empty Empty :=
  .w [(p_spec_l71Rows (a0.1, a0.2) 10)] (.w [(p_spec_l6Rd_pick (a0.1, (v_spec_l71Rows (a0.1, a0.2) 10).2) 14)] (.c (cmp .eql (v_spec_l6Rd_pick (a0.1, (v_spec_l71Rows (a0.1, a0.2) 10).2) 14).1 0)
  (.w [(p_spec_l71Spoil (a0.1, (v_spec_l6Rd_pick (a0.1, (v_spec_l71Rows (a0.1, a0.2) 10).2) 14).2) (v_spec_l71Rows (a0.1, a0.2) 10).1)] (.l (.r ((v_spec_l71Spoil (a0.1, (v_spec_l6Rd_pick (a0.1, (v_spec_l71Rows (a0.1, a0.2) 10).2) 14).2) (v_spec_l71Rows (a0.1, a0.2) 10).1).1, (v_spec_l71Spoil (a0.1, (v_spec_l6Rd_pick (a0.1, (v_spec_l71Rows (a0.1, a0.2) 10).2) 14).2) (v_spec_l71Rows (a0.1, a0.2) 10).1).2))))
  (.l (.r ((v_spec_l71Rows (a0.1, a0.2) 10).1, (v_spec_l6Rd_pick (a0.1, (v_spec_l71Rows (a0.1, a0.2) 10).2) 14).2)))))
def spec_l71Any_b := fun a0 => (spec_l71Any_b_t a0).val
def spec_l71Any_b_ob := fun a0 => (spec_l71Any_b_t a0).ob
def spec_l71Any_b_S := fun a0 => SubP.mk (spec_l71Any_b a0) (spec_l71Any_b_ob a0) [] [(0, .box [(.sh, .lst .byte a0.1), (.fr, .i a0.2)])] (rv108 a0.1) nE nE nE nE
theorem spec_l71Any_b_ok (G : Good Try.prog tt sp_spec_l71Any) {fr : Fr} : ∀ a0, Ok108 fr (spec_l71Any_b_S a0) :=
  fun a0 => run_ok G [] trivial [(0,[0]),(1,[0,3]),(2,[0,3,8]),(3,[0,2]),(4,[0,2])] [] [] (spec_l71Any_b_t a0) rfl rfl (by kernel_rfl)
def v_spec_l71Any (a0 : (LB × Int)) : LR × Int := ocR (spec_l71Any_b a0)
def p_spec_l71Any (a0 : (LB × Int)) : Prop := spec_l71Any_b_ob a0
def s_spec_l71Any : Spec := ⟨[.rdr], .one (.acc false) (.lst .row), true, fun x => v_spec_l71Any x.1, fun x => p_spec_l71Any x.1⟩
theorem con_spec_l71Any (G : Good Try.prog tt sp_spec_l71Any) : Con Try.prog 108 s_spec_l71Any :=
  con_rdr (pts := [.rdr]) (rt := .one (.acc false) (.lst .row)) (o := fun x => spec_l71Any_b x.1) (ob := fun x => spec_l71Any_b_ob x.1) G (fn := Try.f108) (c := bodyOf Try.f108) (by kernel_rfl) (by kernel_rfl) (by kernel_rfl) (rs := [.tmp 2]) (fz := F108.fz) (by kernel_rfl) (by kernel_rfl) (fun h => Bool.noConfusion h) rfl (fun x => x.1.1) (fun _ => rfl) (fun x => spec_l71Any_b_S x.1) (fun _ => ⟨rfl, rfl, rfl, rfl, rfl⟩) (fun x _ => spec_l71Any_b_ok G x.1)
def sp_spec_DrawLoopOut : SP := [(94, s_spec_l6Open), (100, s_spec_l71Early), (98, s_spec_l6Rd_pick), (52, s_spec_LoopFlow), (108, s_spec_l71Any)]
abbrev F55 : Fnn := ⟨[.tmp 2, .tmp 3], .tup [(false, (.lst .row)), (true, (.int .i64))], none, []⟩
abbrev rv55 : LR × Int × Unit → RV := fun q => (some (RT.av (.tup [(false, (.lst .row)), (true, (.int .i64))]) q), .dead)
abbrev Ok55 (fr : Fr) {A X Y Z : Type} (S : SubP (LR × Int × Unit) A X Y Z) : Prop := SubOk Try.prog tt ⟨Try.f55.ntmps, none, []⟩ fr (bodyOf Try.f55) F55 S
def spec_DrawLoopOut_c1_t (x1 : LB) (x2 : Int) (x3 : LR) : Tr (LR × Int × Unit) (Int × LR) Empty Empty Empty :=
  .w [(p_spec_l6Rd_pick (x1, x2) 10)] (.c (cmp .eql (v_spec_l6Rd_pick (x1, x2) 10).1 0)
  (.w [(p_spec_l71Any (x1, (v_spec_l6Rd_pick (x1, x2) 10).2))] (.l (.n ((v_spec_l71Any (x1, (v_spec_l6Rd_pick (x1, x2) 10).2)).2, (v_spec_l71Any (x1, (v_spec_l6Rd_pick (x1, x2) 10).2)).1))))
  (.l (.n ((v_spec_l6Rd_pick (x1, x2) 10).2, x3))))
def spec_DrawLoopOut_c1 := fun x1 x2 x3 => (spec_DrawLoopOut_c1_t x1 x2 x3).val
def spec_DrawLoopOut_c1_ob := fun x1 x2 x3 => (spec_DrawLoopOut_c1_t x1 x2 x3).ob
def spec_DrawLoopOut_c1_S := fun x1 x2 x3 => SubP.mk (spec_DrawLoopOut_c1 x1 x2 x3) (spec_DrawLoopOut_c1_ob x1 x2 x3) [0,1,1,1] [(4, .box [(.sh, .lst .byte x1), (.fr, .i x2)]), (5, .S .row x3)] rv55 (fun q => [(4, .box [(.sh, .lst .byte x1), (.fr, .i q.1)]), (5, .S .row q.2)]) nE nE nE
theorem spec_DrawLoopOut_c1_ok (G : Good Try.prog tt sp_spec_DrawLoopOut) {fr : Fr} : ∀ x1 x2 x3, Ok55 fr (spec_DrawLoopOut_c1_S x1 x2 x3) :=
  fun x1 x2 x3 => run_ok G [] trivial [(3,[4,5,22]),(4,[4,5])] [] [] (spec_DrawLoopOut_c1_t x1 x2 x3) rfl rfl (by kernel_rfl)
def spec_DrawLoopOut_b_t (a0 : LB) : Tr (LR × Int × Unit) Empty Empty Empty Empty :=
  .w [(p_spec_l6Open a0)] (.w [(p_spec_l71Early ((v_spec_l6Open a0).1, (v_spec_l6Open a0).2) 8), (p_spec_l71Early ((v_spec_l6Open a0).1, (v_spec_l71Early ((v_spec_l6Open a0).1, (v_spec_l6Open a0).2) 8).2) 5), (p_spec_l6Rd_pick ((v_spec_l6Open a0).1, (v_spec_l71Early ((v_spec_l6Open a0).1, (v_spec_l71Early ((v_spec_l6Open a0).1, (v_spec_l6Open a0).2) 8).2) 5).2) 6), (p_spec_LoopFlow (v_spec_l71Early ((v_spec_l6Open a0).1, (v_spec_l6Open a0).2) 8).1 (v_spec_l71Early ((v_spec_l6Open a0).1, (v_spec_l71Early ((v_spec_l6Open a0).1, (v_spec_l6Open a0).2) 8).2) 5).1 (ar .add .i64 1 (v_spec_l6Rd_pick ((v_spec_l6Open a0).1, (v_spec_l71Early ((v_spec_l6Open a0).1, (v_spec_l71Early ((v_spec_l6Open a0).1, (v_spec_l6Open a0).2) 8).2) 5).2) 6).1))] (.s (spec_DrawLoopOut_c1_S (v_spec_l6Open a0).1 (v_spec_l6Rd_pick ((v_spec_l6Open a0).1, (v_spec_l71Early ((v_spec_l6Open a0).1, (v_spec_l71Early ((v_spec_l6Open a0).1, (v_spec_l6Open a0).2) 8).2) 5).2) 6).2 (v_spec_LoopFlow (v_spec_l71Early ((v_spec_l6Open a0).1, (v_spec_l6Open a0).2) 8).1 (v_spec_l71Early ((v_spec_l6Open a0).1, (v_spec_l71Early ((v_spec_l6Open a0).1, (v_spec_l6Open a0).2) 8).2) 5).1 (ar .add .i64 1 (v_spec_l6Rd_pick ((v_spec_l6Open a0).1, (v_spec_l71Early ((v_spec_l6Open a0).1, (v_spec_l71Early ((v_spec_l6Open a0).1, (v_spec_l6Open a0).2) 8).2) 5).2) 6).1)).1) (fun q7 => .w [(p_spec_l6Rd_pick ((v_spec_l6Open a0).1, q7.1) 9)] (.l (.r (q7.2, ((ar .sub .i64 (v_spec_l6Rd_pick ((v_spec_l6Open a0).1, q7.1) 9).1 1), ()))))) nE nE nE))
def spec_DrawLoopOut_b := fun a0 => (spec_DrawLoopOut_b_t a0).val
def spec_DrawLoopOut_b_ob := fun a0 => (spec_DrawLoopOut_b_t a0).ob
def spec_DrawLoopOut_b_S := fun a0 => SubP.mk (spec_DrawLoopOut_b a0) (spec_DrawLoopOut_b_ob a0) [] [(0, .S .byte a0)] rv55 nE nE nE nE
theorem spec_DrawLoopOut_b_ok (G : Good Try.prog tt sp_spec_DrawLoopOut) {fr : Fr} : ∀ a0, Ok55 fr (spec_DrawLoopOut_b_S a0) :=
  fun a0 => run_ok G [([0,1,1,1], fun e => ⟨spec_DrawLoopOut_c1_S (gL .byte e 4 0) (gI e 4 1) (gL .row e 5 0)⟩)] ⟨fun _ => ⟨rfl, spec_DrawLoopOut_c1_ok G _ _ _⟩, trivial⟩ [(0,[0]),(1,[4]),(2,[4,5]),(5,[2,3])] [] [] (spec_DrawLoopOut_b_t a0) rfl rfl (by kernel_rfl)
def v_spec_DrawLoopOut (a0 : LB) : LR × Int × Unit := ocR (spec_DrawLoopOut_b a0)
def p_spec_DrawLoopOut (a0 : LB) : Prop := spec_DrawLoopOut_b_ob a0
def s_spec_DrawLoopOut : Spec := ⟨[(.lst .byte)], .tup [(false, (.lst .row)), (true, (.int .i64))], false, fun x => (v_spec_DrawLoopOut x.1, 0), fun x => p_spec_DrawLoopOut x.1⟩
theorem con_spec_DrawLoopOut (G : Good Try.prog tt sp_spec_DrawLoopOut) : Con Try.prog 55 s_spec_DrawLoopOut :=
  con_run (pts := [(.lst .byte)]) (rt := .tup [(false, (.lst .row)), (true, (.int .i64))]) (o := fun x => spec_DrawLoopOut_b x.1) (ob := fun x => spec_DrawLoopOut_b_ob x.1) G (fn := Try.f55) (c := bodyOf Try.f55) (by kernel_rfl) (by kernel_rfl) (by kernel_rfl) (rs := [.tmp 2, .tmp 3]) (fz := F55.fz) (by kernel_rfl) (by kernel_rfl) (fun _ => rfl) rfl (fun x => spec_DrawLoopOut_b_S x.1) (fun _ => ⟨rfl, rfl, rfl, rfl, rfl⟩) (fun x _ => spec_DrawLoopOut_b_ok G x.1)
def sp_spec_LoopOut : SP := [(56, s_spec_RowsOk), (88, s_spec_l2Sum), (87, s_spec_l2Fit)]
abbrev F36 : Fnn := ⟨[.tmp 4], .one .sh (.lst .row), none, []⟩
abbrev rv36 : LR → RV := fun q => (some (RT.av (.one .sh (.lst .row)) q), .dead)
abbrev Ok36 (fr : Fr) {A X Y Z : Type} (S : SubP LR A X Y Z) : Prop := SubOk Try.prog tt ⟨Try.f36.ntmps, none, []⟩ fr (bodyOf Try.f36) F36 S
def spec_LoopOut_c3_t (x19 : LR) (x20 : Int) (x21 : LR) (x22 : Int) : Tr LR LR Empty Empty Empty :=
  .w [inb x22 (lenI .row x19)] (.c (cmp .leq (rd .row x19 x22).At.B x20)
  (.w [inb x22 (lenI .row x19)] (.w [lim (lenI .row x21) (lenI .row [(Row.mk (rd .row x19 x22).Key (rd .row x19 x22).Val (Time.mk (rd .row x19 x22).At.A 0) (rd .row x19 x22).Diff)])] (.l (.n (x21 ++ [(Row.mk (rd .row x19 x22).Key (rd .row x19 x22).Val (Time.mk (rd .row x19 x22).At.A 0) (rd .row x19 x22).Diff)])))))
  (.l (.n x21)))
def spec_LoopOut_c3 := fun x19 x20 x21 x22 => (spec_LoopOut_c3_t x19 x20 x21 x22).val
def spec_LoopOut_c3_ob := fun x19 x20 x21 x22 => (spec_LoopOut_c3_t x19 x20 x21 x22).ob
def spec_LoopOut_c3_S := fun x19 x20 x21 x22 => SubP.mk (spec_LoopOut_c3 x19 x20 x21 x22) (spec_LoopOut_c3_ob x19 x20 x21 x22) [0,1,0,0,1,0,1,1] [(0, .S .row x19), (1, .I x20), (5, .A .row x21), (6, .I x22)] rv36 (fun q => [(0, .S .row x19), (1, .I x20), (5, .A .row q), (6, .I x22)]) nE nE nE
theorem spec_LoopOut_c3_ok (G : Good Try.prog tt sp_spec_LoopOut) {fr : Fr} : ∀ x19 x20 x21 x22, Ok36 fr (spec_LoopOut_c3_S x19 x20 x21 x22) :=
  fun x19 x20 x21 x22 => run_ok G [] trivial [(5,[0,1,5,6,26]),(6,[0,1,5,6,7]),(7,[0,1,5,6,7]),(8,[0,1,5,6])] [] [] (spec_LoopOut_c3_t x19 x20 x21 x22) rfl rfl (by kernel_rfl)
def spec_LoopOut_c2_r_t (x3 : LR) (x4 : Int) (s16 : LR) (s17 : Int) : Tr LR (LR × Int) LR Empty Empty :=
  .w [(((cmp .lss s17 (lenI .row x3)) && true) = true → (p_spec_RowsOk x3))] (.c (cond (cmp .lss s17 (lenI .row x3)) (v_spec_RowsOk x3) false)
  (.s (spec_LoopOut_c3_S x3 x4 s16 s17) (fun q25 => .l (.n (q25, (ar .add .i64 s17 1)))) nE nE nE)
  (.l (.x s16)))
def spec_LoopOut_c2_r := fun x3 x4 s16 s17 => (spec_LoopOut_c2_r_t x3 x4 s16 s17).val
def spec_LoopOut_c2_r_ob := fun x3 x4 s16 s17 => (spec_LoopOut_c2_r_t x3 x4 s16 s17).ob
def spec_LoopOut_c2_r_S := fun x3 x4 s16 s17 => mkRd (spec_LoopOut_c2_r x3 x4 s16 s17) (spec_LoopOut_c2_r_ob x3 x4 s16 s17) [0,0,1,0,1,1] (fun q => [(0, .S .row x3), (1, .I x4), (5, .A .row q.1), (6, .I q.2)]) (s16, s17) rv36 (fun q => (0, [(5, .A .row q)])) nE nE
theorem spec_LoopOut_c2_r_ok (G : Good Try.prog tt sp_spec_LoopOut) {fr : Fr} : ∀ x3 x4 s16 s17, Ok36 fr (spec_LoopOut_c2_r_S x3 x4 s16 s17) :=
  fun x3 x4 s16 s17 => run_ok G [([0,1,0,0,1,0,1,1], fun e => ⟨spec_LoopOut_c3_S (gL .row e 0 0) (gI e 1 0) (gL .row e 5 0) (gI e 6 0)⟩)] ⟨fun _ => ⟨rfl, spec_LoopOut_c3_ok G _ _ _ _⟩, trivial⟩ [(3,[0,1,5,6,16]),(4,[0,1,5,6])] [] [] (spec_LoopOut_c2_r_t x3 x4 s16 s17) rfl rfl (by kernel_rfl)
def spec_LoopOut_c2 := fun x3 x4 => lpV (fun s : LR × Int => ocLp (spec_LoopOut_c2_r x3 x4 s.1 s.2)) ([], 0)
def spec_LoopOut_c2_ob := fun x3 x4 => LpT (fun s : LR × Int => ocLp (spec_LoopOut_c2_r x3 x4 s.1 s.2)) (fun s => spec_LoopOut_c2_r_ob x3 x4 s.1 s.2) ([], 0)
def spec_LoopOut_c2_S := fun x3 x4 => lpS (spec_LoopOut_c2_r_S x3 x4 [] 0) (spec_LoopOut_c2 x3 x4) (spec_LoopOut_c2_ob x3 x4)
theorem spec_LoopOut_c2_ok (G : Good Try.prog tt sp_spec_LoopOut) {fr : Fr} : ∀ x3 x4, Ok36 fr (spec_LoopOut_c2_S x3 x4) :=
  fun x3 x4 => loop_ok (fun s : LR × Int => spec_LoopOut_c2_r_S x3 x4 s.1 s.2) ([], 0) (fun _ => rfl) (fun _ => ⟨rfl, rfl, rfl, rfl, rfl⟩) (by kernel_rfl) fun _ => spec_LoopOut_c2_r_ok G _ _ _ _
def spec_LoopOut_c1_t (x1 : LR) (x2 : Int) : Tr LR LR Empty Empty Empty :=
  .s (spec_LoopOut_c2_S x1 x2) nE (fun q36 => .l (.n q36)) nE nE
def spec_LoopOut_c1 := fun x1 x2 => (spec_LoopOut_c1_t x1 x2).val
def spec_LoopOut_c1_ob := fun x1 x2 => (spec_LoopOut_c1_t x1 x2).ob
def spec_LoopOut_c1_S := fun x1 x2 => SubP.mk (spec_LoopOut_c1 x1 x2) (spec_LoopOut_c1_ob x1 x2) [0,1,1] [(0, .S .row x1), (1, .I x2), (5, .A .row [])] rv36 (fun q => [(5, .A .row q)]) nE nE nE
theorem spec_LoopOut_c1_ok (G : Good Try.prog tt sp_spec_LoopOut) {fr : Fr} : ∀ x1 x2, Ok36 fr (spec_LoopOut_c1_S x1 x2) :=
  fun x1 x2 => run_ok G [([0,1,0,1,1], fun e => ⟨spec_LoopOut_c2_S (gL .row e 0 0) (gI e 1 0)⟩)] ⟨fun _ => ⟨rfl, spec_LoopOut_c2_ok G _ _⟩, trivial⟩ [(2,[0,1,5,6])] [] [] (spec_LoopOut_c1_t x1 x2) rfl rfl (by kernel_rfl)
def spec_LoopOut_b_t (a0 : LR) (a1 : Int) : Tr LR Empty Empty Empty Empty :=
  .s (spec_LoopOut_c1_S a0 a1) (fun q39 => .w [(p_spec_l2Sum q39), (p_spec_l2Fit (v_spec_l2Sum q39))] (.l (.r (v_spec_l2Fit (v_spec_l2Sum q39))))) nE nE nE
def spec_LoopOut_b := fun a0 a1 => (spec_LoopOut_b_t a0 a1).val
def spec_LoopOut_b_ob := fun a0 a1 => (spec_LoopOut_b_t a0 a1).ob
def spec_LoopOut_b_S := fun a0 a1 => SubP.mk (spec_LoopOut_b a0 a1) (spec_LoopOut_b_ob a0 a1) [] [(0, .S .row a0), (1, .I a1)] rv36 nE nE nE nE
theorem spec_LoopOut_b_ok (G : Good Try.prog tt sp_spec_LoopOut) {fr : Fr} : ∀ a0 a1, Ok36 fr (spec_LoopOut_b_S a0 a1) :=
  fun a0 a1 => run_ok G [([0,1,1], fun e => ⟨spec_LoopOut_c1_S (gL .row e 0 0) (gI e 1 0)⟩)] ⟨fun _ => ⟨rfl, spec_LoopOut_c1_ok G _ _⟩, trivial⟩ [(0,[0,1]),(1,[0,1,5]),(9,[4])] [] [] (spec_LoopOut_b_t a0 a1) rfl rfl (by kernel_rfl)
def v_spec_LoopOut (a0 : LR) (a1 : Int) : LR := ocR (spec_LoopOut_b a0 a1)
def p_spec_LoopOut (a0 : LR) (a1 : Int) : Prop := spec_LoopOut_b_ob a0 a1
def s_spec_LoopOut : Spec := ⟨[(.lst .row), (.int .i64)], .one .sh (.lst .row), false, fun x => (v_spec_LoopOut x.1 x.2.1, 0), fun x => p_spec_LoopOut x.1 x.2.1⟩
theorem con_spec_LoopOut (G : Good Try.prog tt sp_spec_LoopOut) : Con Try.prog 36 s_spec_LoopOut :=
  con_run (pts := [(.lst .row), (.int .i64)]) (rt := .one .sh (.lst .row)) (o := fun x => spec_LoopOut_b x.1 x.2.1) (ob := fun x => spec_LoopOut_b_ob x.1 x.2.1) G (fn := Try.f36) (c := bodyOf Try.f36) (by kernel_rfl) (by kernel_rfl) (by kernel_rfl) (rs := [.tmp 4]) (fz := F36.fz) (by kernel_rfl) (by kernel_rfl) (fun _ => rfl) rfl (fun x => spec_LoopOut_b_S x.1 x.2.1) (fun _ => ⟨rfl, rfl, rfl, rfl, rfl⟩) (fun x _ => spec_LoopOut_b_ok G x.1 x.2.1)
def sp_laws_FnLoopOut : SP := [(55, s_spec_DrawLoopOut), (38, s_impl_LoopOut), (36, s_spec_LoopOut), (54, s_laws_lwRows), (56, s_spec_RowsOk), (57, s_impl_BatchAt), (45, s_laws_lwItems)]
abbrev F13 : Fnn := ⟨[.tmp 2], .one .fr .bool, none, []⟩
abbrev rv13 : Bool → RV := fun q => (some (RT.av (.one .fr .bool) q), .dead)
abbrev Ok13 (fr : Fr) {A X Y Z : Type} (S : SubP Bool A X Y Z) : Prop := SubOk Try.prog tt ⟨Try.f13.ntmps, none, []⟩ fr (bodyOf Try.f13) F13 S
def laws_FnLoopOut_c2_r_t (x6 : LR) (x7 : Int) (x8 : LR) (s12 : Int) : Tr Bool Int Unit Empty Empty :=
  .c (cmp .leq s12 7)
  (.w [(p_impl_BatchAt x8 (Time.mk s12 0)), (p_impl_BatchAt x6 (Time.mk s12 x7)), (p_laws_lwItems (v_impl_BatchAt x8 (Time.mk s12 0)) (v_impl_BatchAt x6 (Time.mk s12 x7)))] (.c (!(v_laws_lwItems (v_impl_BatchAt x8 (Time.mk s12 0)) (v_impl_BatchAt x6 (Time.mk s12 x7))))
  (.l (.r false))
  (.l (.n (ar .add .i64 s12 1)))))
  (.l (.x ()))
def laws_FnLoopOut_c2_r := fun x6 x7 x8 s12 => (laws_FnLoopOut_c2_r_t x6 x7 x8 s12).val
def laws_FnLoopOut_c2_r_ob := fun x6 x7 x8 s12 => (laws_FnLoopOut_c2_r_t x6 x7 x8 s12).ob
def laws_FnLoopOut_c2_r_S := fun x6 x7 x8 s12 => mkRd (laws_FnLoopOut_c2_r x6 x7 x8 s12) (laws_FnLoopOut_c2_r_ob x6 x7 x8 s12) [0,0,1,0,1,1,1,1,1] (fun q => [(3, .S .row x6), (4, .I x7), (5, .S .row x8), (6, .I q)]) s12 rv13 (fun _ => (0, [])) nE nE
theorem laws_FnLoopOut_c2_r_ok (G : Good Try.prog tt sp_laws_FnLoopOut) {fr : Fr} : ∀ x6 x7 x8 s12, Ok13 fr (laws_FnLoopOut_c2_r_S x6 x7 x8 s12) :=
  fun x6 x7 x8 s12 => run_ok G [] trivial [(8,[3,4,5,6,43]),(9,[3,4,5,6]),(10,[3,4,5,6,56]),(11,[2])] [] [] (laws_FnLoopOut_c2_r_t x6 x7 x8 s12) rfl rfl (by kernel_rfl)
def laws_FnLoopOut_c2 := fun x6 x7 x8 => lpV (fun s : Int => ocLp (laws_FnLoopOut_c2_r x6 x7 x8 s)) 0
def laws_FnLoopOut_c2_ob := fun x6 x7 x8 => LpT (fun s : Int => ocLp (laws_FnLoopOut_c2_r x6 x7 x8 s)) (fun s => laws_FnLoopOut_c2_r_ob x6 x7 x8 s) 0
def laws_FnLoopOut_c2_S := fun x6 x7 x8 => lpS (laws_FnLoopOut_c2_r_S x6 x7 x8 0) (laws_FnLoopOut_c2 x6 x7 x8) (laws_FnLoopOut_c2_ob x6 x7 x8)
theorem laws_FnLoopOut_c2_ok (G : Good Try.prog tt sp_laws_FnLoopOut) {fr : Fr} : ∀ x6 x7 x8, Ok13 fr (laws_FnLoopOut_c2_S x6 x7 x8) :=
  fun x6 x7 x8 => loop_ok (fun s : Int => laws_FnLoopOut_c2_r_S x6 x7 x8 s) 0 (fun _ => rfl) (fun _ => ⟨rfl, rfl, rfl, rfl, rfl⟩) (by kernel_rfl) fun _ => laws_FnLoopOut_c2_r_ok G _ _ _ _
def laws_FnLoopOut_c1_t (x3 : LR) (x4 : Int) (x5 : LR) : Tr Bool Unit Empty Empty Empty :=
  .s (laws_FnLoopOut_c2_S x3 x4 x5) nE (fun _ => .l (.n ())) nE nE
def laws_FnLoopOut_c1 := fun x3 x4 x5 => (laws_FnLoopOut_c1_t x3 x4 x5).val
def laws_FnLoopOut_c1_ob := fun x3 x4 x5 => (laws_FnLoopOut_c1_t x3 x4 x5).ob
def laws_FnLoopOut_c1_S := fun x3 x4 x5 => SubP.mk (laws_FnLoopOut_c1 x3 x4 x5) (laws_FnLoopOut_c1_ob x3 x4 x5) [0,1,1,1,1,1] [(3, .S .row x3), (4, .I x4), (5, .S .row x5)] rv13 (fun _ => []) nE nE nE
theorem laws_FnLoopOut_c1_ok (G : Good Try.prog tt sp_laws_FnLoopOut) {fr : Fr} : ∀ x3 x4 x5, Ok13 fr (laws_FnLoopOut_c1_S x3 x4 x5) :=
  fun x3 x4 x5 => run_ok G [([0,1,0,1,1,1,1,1], fun e => ⟨laws_FnLoopOut_c2_S (gL .row e 3 0) (gI e 4 0) (gL .row e 5 0)⟩)] ⟨fun _ => ⟨rfl, laws_FnLoopOut_c2_ok G _ _ _⟩, trivial⟩ [(7,[3,4,5,6])] [] [] (laws_FnLoopOut_c1_t x3 x4 x5) rfl rfl (by kernel_rfl)
def laws_FnLoopOut_b_t (a0 : LB) : Tr Bool Empty Empty Empty Empty :=
  .c (cmp .gtr (lenI .byte a0) 1048576)
  (.l (.r true))
  (.w [(p_spec_DrawLoopOut a0)] (.w [(p_impl_LoopOut (v_spec_DrawLoopOut a0).1 (v_spec_DrawLoopOut a0).2.1)] (.w [(p_spec_LoopOut (v_spec_DrawLoopOut a0).1 (v_spec_DrawLoopOut a0).2.1), (p_laws_lwRows (v_impl_LoopOut (v_spec_DrawLoopOut a0).1 (v_spec_DrawLoopOut a0).2.1) (v_spec_LoopOut (v_spec_DrawLoopOut a0).1 (v_spec_DrawLoopOut a0).2.1)), (((!(!(v_laws_lwRows (v_impl_LoopOut (v_spec_DrawLoopOut a0).1 (v_spec_DrawLoopOut a0).2.1) (v_spec_LoopOut (v_spec_DrawLoopOut a0).1 (v_spec_DrawLoopOut a0).2.1)))) && true) = true → (p_spec_RowsOk (v_spec_DrawLoopOut a0).1))] (.c (cond (cond (cond (!(v_laws_lwRows (v_impl_LoopOut (v_spec_DrawLoopOut a0).1 (v_spec_DrawLoopOut a0).2.1) (v_spec_LoopOut (v_spec_DrawLoopOut a0).1 (v_spec_DrawLoopOut a0).2.1))) true (!(v_spec_RowsOk (v_spec_DrawLoopOut a0).1))) true (cmp .lss (v_spec_DrawLoopOut a0).2.1 0)) true (cmp .gtr (v_spec_DrawLoopOut a0).2.1 7))
  (.w [(p_spec_LoopOut (v_spec_DrawLoopOut a0).1 (v_spec_DrawLoopOut a0).2.1), (p_laws_lwRows (v_impl_LoopOut (v_spec_DrawLoopOut a0).1 (v_spec_DrawLoopOut a0).2.1) (v_spec_LoopOut (v_spec_DrawLoopOut a0).1 (v_spec_DrawLoopOut a0).2.1))] (.l (.r (v_laws_lwRows (v_impl_LoopOut (v_spec_DrawLoopOut a0).1 (v_spec_DrawLoopOut a0).2.1) (v_spec_LoopOut (v_spec_DrawLoopOut a0).1 (v_spec_DrawLoopOut a0).2.1)))))
  (.s (laws_FnLoopOut_c1_S (v_spec_DrawLoopOut a0).1 (v_spec_DrawLoopOut a0).2.1 (v_impl_LoopOut (v_spec_DrawLoopOut a0).1 (v_spec_DrawLoopOut a0).2.1)) (fun _ => .l (.r true)) nE nE nE)))))
def laws_FnLoopOut_b := fun a0 => (laws_FnLoopOut_b_t a0).val
def laws_FnLoopOut_b_ob := fun a0 => (laws_FnLoopOut_b_t a0).ob
def laws_FnLoopOut_b_S := fun a0 => SubP.mk (laws_FnLoopOut_b a0) (laws_FnLoopOut_b_ob a0) [] [(0, .S .byte a0)] rv13 nE nE nE nE
theorem laws_FnLoopOut_b_ok (G : Good Try.prog tt sp_laws_FnLoopOut) {fr : Fr} : ∀ a0, Ok13 fr (laws_FnLoopOut_b_S a0) :=
  fun a0 => run_ok G [([0,1,1,1,1,1], fun e => ⟨laws_FnLoopOut_c1_S (gL .row e 3 0) (gI e 4 0) (gL .row e 5 0)⟩)] ⟨fun _ => ⟨rfl, laws_FnLoopOut_c1_ok G _ _ _⟩, trivial⟩ [(0,[0]),(1,[0,9]),(2,[2]),(3,[3,4]),(4,[3,4,5]),(5,[3,4,5,36]),(6,[2]),(12,[2])] [] [] (laws_FnLoopOut_b_t a0) rfl rfl (by kernel_rfl)
def v_laws_FnLoopOut (a0 : LB) : Bool := ocR (laws_FnLoopOut_b a0)
def p_laws_FnLoopOut (a0 : LB) : Prop := laws_FnLoopOut_b_ob a0
def s_laws_FnLoopOut : Spec := ⟨[(.lst .byte)], .one .fr .bool, false, fun x => (v_laws_FnLoopOut x.1, 0), fun x => p_laws_FnLoopOut x.1⟩
theorem con_laws_FnLoopOut (G : Good Try.prog tt sp_laws_FnLoopOut) : Con Try.prog 13 s_laws_FnLoopOut :=
  con_run (pts := [(.lst .byte)]) (rt := .one .fr .bool) (o := fun x => laws_FnLoopOut_b x.1) (ob := fun x => laws_FnLoopOut_b_ob x.1) G (fn := Try.f13) (c := bodyOf Try.f13) (by kernel_rfl) (by kernel_rfl) (by kernel_rfl) (rs := [.tmp 2]) (fz := F13.fz) (by kernel_rfl) (by kernel_rfl) (fun _ => rfl) rfl (fun x => laws_FnLoopOut_b_S x.1) (fun _ => ⟨rfl, rfl, rfl, rfl, rfl⟩) (fun x _ => laws_FnLoopOut_b_ok G x.1)
end
end Go.Proofs.Ytopcofkpggefkaa

namespace Go.Proofs.Ytopcofkpggefkaa
open Go
theorem tt_ok : TTok Try.prog tt := ttChk_ok (by kernel_rfl)
theorem follows_ok : Try.prog.follows .mixedOrders = true := by kernel_rfl
theorem k_spec_l6Open : Con Try.prog 94 s_spec_l6Open := con_spec_l6Open (.nil tt_ok follows_ok)
theorem k_spec_l6Rd_pick : Con Try.prog 98 s_spec_l6Rd_pick := con_spec_l6Rd_pick (.nil tt_ok follows_ok)
theorem k_spec_l71Time : Con Try.prog 157 s_spec_l71Time := con_spec_l71Time (.cons k_spec_l6Rd_pick (.nil tt_ok follows_ok))
theorem k_spec_l71Row : Con Try.prog 144 s_spec_l71Row := con_spec_l71Row (.cons k_spec_l6Rd_pick (.cons k_spec_l71Time (.nil tt_ok follows_ok)))
theorem k_spec_l71Rows : Con Try.prog 129 s_spec_l71Rows := con_spec_l71Rows (.cons k_spec_l6Rd_pick (.cons k_spec_l71Row (.nil tt_ok follows_ok)))
theorem k_spec_l6In : Con Try.prog 93 s_spec_l6In := con_spec_l6In (.nil tt_ok follows_ok)
theorem k_spec_TimeOk : Con Try.prog 132 s_spec_TimeOk := con_spec_TimeOk (.cons k_spec_l6In (.nil tt_ok follows_ok))
theorem k_spec_l2Row : Con Try.prog 109 s_spec_l2Row := con_spec_l2Row (.cons k_spec_l6In (.cons k_spec_TimeOk (.nil tt_ok follows_ok)))
theorem k_spec_RowsOk : Con Try.prog 56 s_spec_RowsOk := con_spec_RowsOk (.cons k_spec_l2Row (.nil tt_ok follows_ok))
theorem k_spec_TimeLess : Con Try.prog 104 s_spec_TimeLess := con_spec_TimeLess (.cons k_spec_TimeOk (.nil tt_ok follows_ok))
theorem k_spec_l2Comp : Con Try.prog 131 s_spec_l2Comp := con_spec_l2Comp (.nil tt_ok follows_ok)
theorem k_spec_l2Put : Con Try.prog 126 s_spec_l2Put := con_spec_l2Put (.cons k_spec_l2Comp (.nil tt_ok follows_ok))
theorem k_spec_l2Sum : Con Try.prog 88 s_spec_l2Sum := con_spec_l2Sum (.cons k_spec_l2Put (.nil tt_ok follows_ok))
theorem k_spec_l2Items : Con Try.prog 81 s_spec_l2Items := con_spec_l2Items (.cons k_spec_l2Sum (.nil tt_ok follows_ok))
theorem k_spec_BatchAt : Con Try.prog 103 s_spec_BatchAt := con_spec_BatchAt (.cons k_spec_RowsOk (.cons k_spec_TimeOk (.cons k_spec_TimeLess (.cons k_spec_l2Items (.nil tt_ok follows_ok)))))
theorem k_spec_l3Item : Con Try.prog 96 s_spec_l3Item := con_spec_l3Item (.cons k_spec_l6In (.nil tt_ok follows_ok))
theorem k_spec_l3Big : Con Try.prog 97 s_spec_l3Big := con_spec_l3Big (.nil tt_ok follows_ok)
theorem k_spec_SetOk : Con Try.prog 46 s_spec_SetOk := con_spec_SetOk (.cons k_spec_l3Item (.cons k_spec_l3Big (.cons k_spec_l6In (.nil tt_ok follows_ok))))
theorem k_spec_l22Keys : Con Try.prog 82 s_spec_l22Keys := con_spec_l22Keys (.nil tt_ok follows_ok)
theorem k_spec_l22Lead : Con Try.prog 83 s_spec_l22Lead := con_spec_l22Lead (.nil tt_ok follows_ok)
theorem k_spec_l3Count : Con Try.prog 156 s_spec_l3Count := con_spec_l3Count (.nil tt_ok follows_ok)
theorem k_spec_l3Key : Con Try.prog 142 s_spec_l3Key := con_spec_l3Key (.cons k_spec_l3Count (.nil tt_ok follows_ok))
theorem k_spec_l3Sum : Con Try.prog 124 s_spec_l3Sum := con_spec_l3Sum (.cons k_spec_SetOk (.cons k_spec_l3Key (.nil tt_ok follows_ok)))
theorem k_spec_SetOnce : Con Try.prog 80 s_spec_SetOnce := con_spec_SetOnce (.cons k_spec_l3Sum (.nil tt_ok follows_ok))
theorem k_spec_LoopStep : Con Try.prog 29 s_spec_LoopStep := con_spec_LoopStep (.cons k_spec_SetOk (.cons k_spec_l22Keys (.cons k_spec_l22Lead (.cons k_spec_l2Items (.cons k_spec_SetOnce (.nil tt_ok follows_ok))))))
theorem k_laws_lwItems : Con Try.prog 45 s_laws_lwItems := con_laws_lwItems (.nil tt_ok follows_ok)
theorem k_spec_LoopSet : Con Try.prog 42 s_spec_LoopSet := con_spec_LoopSet (.cons k_spec_SetOk (.cons k_spec_l6In (.cons k_spec_LoopStep (.nil tt_ok follows_ok))))
theorem k_spec_BatchOk : Con Try.prog 101 s_spec_BatchOk := con_spec_BatchOk (.cons k_spec_RowsOk (.cons k_spec_l2Comp (.nil tt_ok follows_ok)))
theorem k_spec_l2Fit : Con Try.prog 87 s_spec_l2Fit := con_spec_l2Fit (.cons k_spec_BatchOk (.nil tt_ok follows_ok))
theorem k_spec_BatchOf : Con Try.prog 130 s_spec_BatchOf := con_spec_BatchOf (.cons k_spec_RowsOk (.cons k_spec_l2Sum (.cons k_spec_l2Fit (.nil tt_ok follows_ok))))
theorem k_spec_l71Early : Con Try.prog 100 s_spec_l71Early := con_spec_l71Early (.cons k_spec_l71Rows (.cons k_spec_BatchOf (.nil tt_ok follows_ok)))
theorem k_spec_l22Ahead : Con Try.prog 102 s_spec_l22Ahead := con_spec_l22Ahead (.nil tt_ok follows_ok)
theorem k_spec_LoopFlow : Con Try.prog 52 s_spec_LoopFlow := con_spec_LoopFlow (.cons k_spec_BatchOk (.cons k_spec_l22Ahead (.cons k_spec_l6In (.cons k_spec_BatchAt (.cons k_spec_LoopSet (.cons k_spec_TimeLess (.cons k_spec_l2Items (.cons k_spec_l2Sum (.nil tt_ok follows_ok)))))))))
theorem k_impl_ahead : Con Try.prog 137 s_impl_ahead := con_impl_ahead (.nil tt_ok follows_ok)
theorem k_impl_rowAhead : Con Try.prog 111 s_impl_rowAhead := con_impl_rowAhead (.cons k_impl_ahead (.nil tt_ok follows_ok))
theorem k_impl_TimeOk : Con Try.prog 110 s_impl_TimeOk := con_impl_TimeOk (.nil tt_ok follows_ok)
theorem k_impl_RowsOk : Con Try.prog 90 s_impl_RowsOk := con_impl_RowsOk (.cons k_impl_TimeOk (.nil tt_ok follows_ok))
theorem k_impl_BatchOk : Con Try.prog 58 s_impl_BatchOk := con_impl_BatchOk (.cons k_impl_rowAhead (.cons k_impl_RowsOk (.nil tt_ok follows_ok)))
theorem k_impl_below : Con Try.prog 133 s_impl_below := con_impl_below (.nil tt_ok follows_ok)
theorem k_impl_present : Con Try.prog 106 s_impl_present := con_impl_present (.cons k_impl_below (.cons con_impl_gathered (.nil tt_ok follows_ok)))
theorem k_impl_batch : Con Try.prog 91 s_impl_batch := con_impl_batch (.cons con_impl_consolidated (.cons k_impl_BatchOk (.nil tt_ok follows_ok)))
theorem k_laws_lwRows : Con Try.prog 54 s_laws_lwRows := con_laws_lwRows (.nil tt_ok follows_ok)
theorem k_impl_BatchAt : Con Try.prog 57 s_impl_BatchAt := con_impl_BatchAt (.cons k_impl_RowsOk (.cons k_impl_TimeOk (.cons k_impl_present (.nil tt_ok follows_ok))))
theorem k_impl_LoopOut : Con Try.prog 38 s_impl_LoopOut := con_impl_LoopOut (.cons k_impl_RowsOk (.cons k_impl_batch (.nil tt_ok follows_ok)))
theorem k_spec_l71Spoil : Con Try.prog 136 s_spec_l71Spoil := con_spec_l71Spoil (.cons k_spec_l71Row (.cons k_spec_l6Rd_pick (.nil tt_ok follows_ok)))
theorem k_spec_l71Any : Con Try.prog 108 s_spec_l71Any := con_spec_l71Any (.cons k_spec_l71Rows (.cons k_spec_l6Rd_pick (.cons k_spec_l71Spoil (.nil tt_ok follows_ok))))
theorem k_spec_DrawLoopOut : Con Try.prog 55 s_spec_DrawLoopOut := con_spec_DrawLoopOut (.cons k_spec_l6Open (.cons k_spec_l71Early (.cons k_spec_l6Rd_pick (.cons k_spec_LoopFlow (.cons k_spec_l71Any (.nil tt_ok follows_ok))))))
theorem k_spec_LoopOut : Con Try.prog 36 s_spec_LoopOut := con_spec_LoopOut (.cons k_spec_RowsOk (.cons k_spec_l2Sum (.cons k_spec_l2Fit (.nil tt_ok follows_ok))))
theorem k_laws_FnLoopOut : Con Try.prog 13 s_laws_FnLoopOut := con_laws_FnLoopOut (.cons k_spec_DrawLoopOut (.cons k_impl_LoopOut (.cons k_spec_LoopOut (.cons k_laws_lwRows (.cons k_spec_RowsOk (.cons k_impl_BatchAt (.cons k_laws_lwItems (.nil tt_ok follows_ok))))))))
end Go.Proofs.Ytopcofkpggefkaa

namespace Go.Proofs.Ytopcofkpggefkaa
open Go
theorem cmp_eql' (a b : Int) : cmp .eql a b = decide (a = b) := by
  show (a == b) = _
  by_cases h : a = b <;> simp [h]
theorem cmp_neq' (a b : Int) : cmp .neq a b = !decide (a = b) := by
  show (a != b) = _
  by_cases h : a = b <;> simp [h]
theorem cmp_lss' (a b : Int) : cmp .lss a b = decide (a < b) := rfl
theorem cmp_leq' (a b : Int) : cmp .leq a b = decide (a ≤ b) := rfl
theorem cmp_gtr' (a b : Int) : cmp .gtr a b = decide (b < a) := rfl
theorem cmp_geq' (a b : Int) : cmp .geq a b = decide (b ≤ a) := rfl
theorem ar_add {a b : Int} (h : -9223372036854775808 ≤ a + b ∧ a + b ≤ 9223372036854775807) : ar .add .i64 a b = a + b := IntWalk.i64_in _ h
theorem ar_sub {a b : Int} (h : -9223372036854775808 ≤ a - b ∧ a - b ≤ 9223372036854775807) : ar .sub .i64 a b = a - b := IntWalk.i64_in _ h
theorem ar_mul {a b : Int} (h : -9223372036854775808 ≤ a * b ∧ a * b ≤ 9223372036854775807) : ar .mul .i64 a b = a * b := IntWalk.i64_in _ h
theorem ar_rem (a b : Int) : ar .rem .i64 a b = a.tmod b := rfl
theorem ar_quo {a b : Int} (h : 0 ≤ a ∧ a ≤ 9223372036854775807 ∧ 1 ≤ b) : ar .quo .i64 a b = a / b := IntWalk.i64_quo a b h
theorem ar_comm (a b : Int) : ar .add .i64 a b = ar .add .i64 b a := by show IntKind.wrap _ _ = IntKind.wrap _ _; rw [Int.add_comm]
theorem len_mid {t : Ty} {l r : List t.T} {x : t.T} : lenI t (l ++ x :: r) = (l.length : Int) + (r.length + 1) := by
  unfold lenI; simp
theorem rd_mid {t : Ty} {l r : List t.T} {x : t.T} : rd t (l ++ x :: r) (l.length : Int) = x := by
  unfold rd
  rw [Int.toNat_natCast, List.getD_eq_getElem?_getD]
  simp
theorem inb_mid {t : Ty} {l r : List t.T} {x : t.T} : inb (l.length : Int) (lenI t (l ++ x :: r)) := by
  rw [len_mid]; unfold inb; omega
theorem lss_mid {t : Ty} {l r : List t.T} {x : t.T} : cmp .lss (l.length : Int) (lenI t (l ++ x :: r)) = true := by
  rw [len_mid, cmp_lss']; simp; omega
theorem lss_end {t : Ty} {l : List t.T} : cmp .lss (l.length : Int) (lenI t l) = false := by
  rw [cmp_lss']; simp [lenI]
theorem lim_one {t : Ty} {o : List t.T} {y : t.T} (h : o.length < 1099511627776) : lim (lenI t o) (lenI t [y]) := by
  simp only [lim, lenI, List.length_singleton]; omega
theorem lim_two {t : Ty} {o u : List t.T} (h : o.length + u.length < 1099511627776) : lim (lenI t o) (lenI t u) := by
  simp only [lim, lenI]; omega
theorem succ_mid {α : Type} {l : List α} (h : l.length < 1099511627776) : ar .add .i64 (l.length : Int) 1 = ((l.length + 1 : Nat) : Int) := by
  rw [ar_add (by omega)]; omega
/-- The rounds of a loop come to an end, to this one. -/
structure Runs {σ ρ : Type} [Inhabited ρ] (step : σ → Lp σ ρ) (ob : σ → Prop) (s : σ) (r : ρ) : Prop where
  t : LpT step ob s
  v : lpV step s = r
theorem Runs.out {σ ρ : Type} [Inhabited ρ] {step : σ → Lp σ ρ} {ob : σ → Prop} {s : σ} {r : ρ} (ho : ob s) (h : step s = .out r) : Runs step ob s r :=
  ⟨.mk s ho (fun s' hs => by rw [h] at hs; cases hs), lpV_out h⟩
theorem Runs.go {σ ρ : Type} [Inhabited ρ] {step : σ → Lp σ ρ} {ob : σ → Prop} {s s' : σ} {r : ρ} (ho : ob s) (h : step s = .go s') (hr : Runs step ob s' r) : Runs step ob s r :=
  ⟨.mk s ho (fun s2 hs => by rw [h] at hs; cases hs; exact hr.t), (lpV_go h).trans hr.v⟩
/-- A loop over a list: what holds of the part that is done, and what holds at an end. -/
theorem Runs.list {σ ρ α β : Type} [Inhabited ρ] {step : σ → Lp σ ρ} {ob : σ → Prop} (xs : List α) (st : Nat → β → σ) (I : List α → β → Prop) {Q : ρ → Prop} {s0 : σ} {b0 : β} (hs : st 0 b0 = s0) (h0 : I [] b0)
    (hgo : ∀ l x r b, xs = l ++ x :: r → I l b → ob (st l.length b) ∧ ((∃ b', step (st l.length b) = .go (st (l.length + 1) b') ∧ I (l ++ [x]) b') ∨ ∃ q, step (st l.length b) = .out q ∧ Q q))
    (hout : ∀ b, I xs b → ob (st xs.length b) ∧ ∃ q, step (st xs.length b) = .out q ∧ Q q) : ∃ q, Runs step ob s0 q ∧ Q q := by
  subst hs
  suffices ∀ (r l : List α) (b : β), xs = l ++ r → I l b → ∃ q, Runs step ob (st l.length b) q ∧ Q q from this xs [] b0 rfl h0
  intro r
  induction r with
  | nil =>
    intro l b hx hI
    rw [List.append_nil] at hx
    subst hx
    obtain ⟨ho, q, h1, h2⟩ := hout b hI
    exact ⟨q, .out ho h1, h2⟩
  | cons x r ih =>
    intro l b hx hI
    obtain ⟨ho, ⟨b', h1, h2⟩ | ⟨q, h1, h2⟩⟩ := hgo l x r b hx hI
    · obtain ⟨q, hq, hQ⟩ := ih (l ++ [x]) b' (by rw [hx, List.append_assoc]; rfl) h2
      rw [List.length_append, List.length_singleton] at hq
      exact ⟨q, .go ho h1 hq, hQ⟩
    · exact ⟨q, .out ho h1, h2⟩
/-- ... whose rounds are all there, and whose value is known. -/
theorem Runs.fold {σ ρ α β : Type} [Inhabited ρ] {step : σ → Lp σ ρ} {ob : σ → Prop} (xs : List α) (st : Nat → β → σ) (f : List α → β) {fin : ρ} {s0 : σ} (hs : st 0 (f []) = s0)
    (hgo : ∀ l x r, xs = l ++ x :: r → ob (st l.length (f l)) ∧ step (st l.length (f l)) = .go (st (l.length + 1) (f (l ++ [x]))))
    (hout : ob (st xs.length (f xs)) ∧ step (st xs.length (f xs)) = .out fin) : Runs step ob s0 fin := by
  subst hs
  obtain ⟨q, h1, h2⟩ := Runs.list (step := step) (ob := ob) (Q := fun q => q = fin) xs st (fun l b => b = f l) (b0 := f []) rfl rfl
    (fun l x r b hx hb => by subst hb; exact ⟨(hgo l x r hx).1, .inl ⟨_, (hgo l x r hx).2, rfl⟩⟩)
    (fun b hb => by subst hb; exact ⟨hout.1, _, hout.2, rfl⟩)
  rw [h2] at h1
  exact h1
/-- Two lists in strict order with the same members are one. -/
theorem pw_eq {α : Type} {lt : α → α → Prop} (irr : ∀ a, ¬ lt a a) (tr : ∀ {a b c}, lt a b → lt b c → lt a c) : ∀ {a b : List α}, a.Pairwise lt → b.Pairwise lt → (∀ x, x ∈ a ↔ x ∈ b) → a = b
  | [], [], _, _, _ => rfl
  | [], y :: b, _, _, h => absurd ((h y).2 (by simp)) (by simp)
  | x :: a, [], _, _, h => absurd ((h x).1 (by simp)) (by simp)
  | x :: a, y :: b, ha, hb, h => by
    have ha' := List.pairwise_cons.1 ha
    have hb' := List.pairwise_cons.1 hb
    have hxy : x = y := by
      rcases List.mem_cons.1 ((h x).1 (by simp)) with e | e
      · exact e
      · rcases List.mem_cons.1 ((h y).2 (by simp)) with e2 | e2
        · exact e2.symm
        · exact absurd (tr (hb'.1 x e) (ha'.1 y e2)) (irr _)
    subst hxy
    refine congrArg (x :: ·) (pw_eq irr tr ha'.2 hb'.2 fun z => ⟨fun hz => ?_, fun hz => ?_⟩)
    · rcases List.mem_cons.1 ((h z).1 (by simp [hz])) with e | e
      · subst e; exact absurd (ha'.1 z hz) (irr _)
      · exact e
    · rcases List.mem_cons.1 ((h z).2 (by simp [hz])) with e | e
      · subst e; exact absurd (hb'.1 z hz) (irr _)
      · exact e
theorem asc_mem {a b : MP} (ha : Asc a) (hb : Asc b) (h : ∀ p, p ∈ a ↔ p ∈ b) : a = b :=
  pw_eq (lt := fun p q : List Int × Int => ltK p.1 q.1 = true) (fun p hp => by rw [ltK_irrefl] at hp; cases hp) (fun h1 h2 => ltK_trans h1 h2) ha hb h
/-- A change comes to its place. -/
def insP (q : List Int × Int) : MP → MP
  | [] => [q]
  | p :: m => if ltK q.1 p.1 = true then q :: p :: m else if p.1 = q.1 then (q.1, ar .add .i64 q.2 p.2) :: m else p :: insP q m
def accP (l : List (List Int × Int)) : MP := l.foldl (fun m q => insP q m) []
theorem keys_insP (q : List Int × Int) : ∀ (m : MP) (k : List Int), k ∈ keysM (insP q m) ↔ k = q.1 ∨ k ∈ keysM m
  | [], k => by simp [insP, keysM]
  | p :: m, k => by
    simp only [insP]
    split
    · simp [keysM]
    · split
      · rename_i h; simp [keysM, h]
      · have := keys_insP q m k
        simp only [keysM, List.map_cons, List.mem_cons] at this ⊢
        rw [this]
        constructor
        · rintro (h | h | h)
          · exact .inr (.inl h)
          · exact .inl h
          · exact .inr (.inr h)
        · rintro (h | h | h)
          · exact .inr (.inl h)
          · exact .inl h
          · exact .inr (.inr h)
theorem insP_keyd {n : Nat} {q : List Int × Int} {m : MP} (hm : Keyd n m) (hq : q.1.length = n) : Keyd n (insP q m) := by
  intro p hp
  have : p.1 ∈ keysM (insP q m) := List.mem_map.2 ⟨p, hp, rfl⟩
  rcases (keys_insP q m p.1).1 this with h | h
  · rw [h]; exact hq
  · obtain ⟨p', h1, h2⟩ := List.mem_map.1 h
    rw [← h2]; exact hm p' h1
theorem insP_asc {n : Nat} {q : List Int × Int} (hq : q.1.length = n) : ∀ {m : MP}, Asc m → Keyd n m → Asc (insP q m)
  | [], _, _ => by simp [insP, Asc]
  | p :: m, ha, hk => by
    have ha' := List.pairwise_cons.1 ha
    simp only [insP]
    split
    · rename_i h
      refine List.pairwise_cons.2 ⟨fun s hs => ?_, ha⟩
      rcases List.mem_cons.1 hs with rfl | hs
      · exact h
      · exact ltK_trans h (ha'.1 s hs)
    · split
      · rename_i h1 h2
        exact List.pairwise_cons.2 ⟨fun s hs => by show ltK q.1 s.1 = true; rw [← h2]; exact ha'.1 s hs, ha'.2⟩
      · rename_i h1 h2
        have hpq : ltK p.1 q.1 = true := by
          rcases ltK_total ((hk p (by simp)).trans hq.symm) h2 with h | h
          · exact h
          · exact absurd h h1
        refine List.pairwise_cons.2 ⟨fun s hs => ?_, insP_asc hq ha'.2 fun s hs => hk s (by simp [hs])⟩
        rcases (keys_insP q m s.1).1 (List.mem_map.2 ⟨s, hs, rfl⟩) with h | h
        · rw [h]; exact hpq
        · obtain ⟨s', h1, h2⟩ := List.mem_map.1 h
          rw [← h2]; exact ha'.1 s' h1
theorem valM_insP {n : Nat} {q : List Int × Int} (hq : q.1.length = n) : ∀ {m : MP}, Asc m → Keyd n m → ∀ k, valM (insP q m) k = if k = q.1 then (if q.1 ∈ keysM m then ar .add .i64 q.2 (valM m k) else q.2) else valM m k
  | [], _, _, k => by
    simp only [insP, valM_cons, keysM, List.map_nil, List.not_mem_nil, if_false]
    by_cases h : q.1 = k
    · simp [h]
    · simp [h, Ne.symm h]
  | p :: m, ha, hk, k => by
    have ha' := List.pairwise_cons.1 ha
    simp only [insP]
    split
    · rename_i h
      have hne : q.1 ∉ keysM (p :: m) := by
        intro hm
        obtain ⟨s, hs, e⟩ := List.mem_map.1 hm
        rcases List.mem_cons.1 hs with rfl | hs
        · rw [e, ltK_irrefl] at h; cases h
        · have := ltK_trans h (ha'.1 s hs)
          rw [e, ltK_irrefl] at this; cases this
      rw [if_neg hne, valM_cons]
      by_cases h2 : q.1 = k
      · simp [h2]
      · simp [h2, Ne.symm h2]
    · split
      · rename_i h1 h2
        have hm : q.1 ∈ keysM (p :: m) := by simp [keysM, h2]
        rw [if_pos hm, valM_cons, valM_cons]
        by_cases h3 : q.1 = k
        · simp [h3, h2.trans h3]
        · have h4 : ¬ p.1 = k := fun e => h3 (h2.symm.trans e)
          simp [h3, Ne.symm h3, h4]
      · rename_i h1 h2
        rw [valM_cons, valM_insP hq ha'.2 (fun s hs => hk s (by simp [hs])) k, valM_cons]
        have hmm : q.1 ∈ keysM (p :: m) ↔ q.1 ∈ keysM m := by simp [keysM, Ne.symm h2]
        by_cases h3 : p.1 = k
        · have : ¬ k = q.1 := fun e => h2 (h3.trans e)
          simp [h3, this]
        · simp only [h3, if_false, hmm]
theorem accP_ok {n : Nat} {l : List (List Int × Int)} (hk : Keyd n l) (hr : ∀ q ∈ l, IntKind.i64.wrap q.2 = q.2) : Asc (accP l) ∧ Keyd n (accP l) ∧ ∀ k, valM (accP l) k = sumK l k := by
  suffices ∀ (l : List (List Int × Int)) (m : MP), Keyd n l → (∀ q ∈ l, IntKind.i64.wrap q.2 = q.2) → Asc m → Keyd n m → Asc (l.foldl (fun m q => insP q m) m) ∧ Keyd n (l.foldl (fun m q => insP q m) m) ∧
      ∀ k, valM (l.foldl (fun m q => insP q m) m) k = l.foldl (fun s q => if q.1 = k then ar .add .i64 s q.2 else s) (valM m k) by
    obtain ⟨h1, h2, h3⟩ := this l [] hk hr (by simp [Asc]) (fun p hp => by simp at hp)
    refine ⟨h1, h2, fun k => ?_⟩
    exact h3 k
  intro l
  induction l with
  | nil => exact fun m _ _ h1 h2 => ⟨h1, h2, fun _ => rfl⟩
  | cons q r ih =>
    intro m hl hl2 ha hm
    have hq := hl q (by simp)
    obtain ⟨h1, h2, h3⟩ := ih (insP q m) (fun p hp => hl p (by simp [hp])) (fun p hp => hl2 p (by simp [hp])) (insP_asc hq ha hm) (insP_keyd hm hq)
    refine ⟨h1, h2, fun k => ?_⟩
    rw [List.foldl_cons, List.foldl_cons, h3 k, valM_insP hq ha hm]
    congr 1
    by_cases h : k = q.1
    · subst h
      simp only [if_true]
      by_cases hmem : q.1 ∈ keysM m
      · simp only [hmem, if_true]
        exact ar_comm _ _
      · simp only [hmem, if_false]
        rw [valM_none hmem]
        show q.2 = IntKind.i64.wrap (0 + q.2)
        rw [Int.zero_add, hl2 q (by simp)]
    · simp [h, Ne.symm h]
theorem sumK_map {f : List Int → List Int} (hf : ∀ a b, f a = f b → a = b) (l : List (List Int × Int)) (k : List Int) : sumK (l.map fun q => (f q.1, q.2)) (f k) = sumK l k := by
  unfold sumK
  rw [List.foldl_map]
  congr 1
  funext s q
  by_cases h : q.1 = k
  · simp [h]
  · have h2 : ¬ f q.1 = f k := fun e => h (hf _ _ e)
    simp [h, h2]
theorem sumK_none {l : List (List Int × Int)} {k : List Int} (h : ∀ q ∈ l, q.1 ≠ k) : sumK l k = 0 := by
  suffices ∀ (l : List (List Int × Int)) (s : Int), (∀ q ∈ l, q.1 ≠ k) → l.foldl (fun s q => if q.1 = k then ar .add .i64 s q.2 else s) s = s from this l 0 h
  intro l
  induction l with
  | nil => exact fun _ _ => rfl
  | cons q r ih =>
    intro s h
    rw [List.foldl_cons, if_neg (h q (by simp))]
    exact ih s fun p hp => h p (by simp [hp])
theorem sumK_key {l : List (List Int × Int)} {k : List Int} (h : sumK l k ≠ 0) : ∃ q ∈ l, q.1 = k := by
  by_cases he : ∃ q ∈ l, q.1 = k
  · exact he
  · exact absurd (sumK_none fun q hq e => he ⟨q, hq, e⟩) h
/-- What comes of changes put in their places, is what the sums are. -/
theorem accP_gathM {n : Nat} {l : List (List Int × Int)} (hk : Keyd n l) (hr : ∀ q ∈ l, IntKind.i64.wrap q.2 = q.2) : (accP l).filter (fun p => p.2 != 0) = gathM l := by
  obtain ⟨h1, h2, h3⟩ := accP_ok hk hr
  have hnd : (keysM (accP l)).Nodup := by
    refine List.Pairwise.map _ (fun p q h e => ?_) h1
    rw [e, ltK_irrefl] at h; cases h
  refine asc_mem (h1.sublist List.filter_sublist) (gathM_asc hk) fun p => ?_
  rw [mem_gathM, List.mem_filter]
  constructor
  · rintro ⟨a, b⟩
    exact ⟨by rw [← h3, valM_mem hnd a], by simpa using b⟩
  · rintro ⟨a, b⟩
    refine ⟨?_, by simpa using b⟩
    by_cases hm : p.1 ∈ keysM (accP l)
    · obtain ⟨q, hq, e⟩ := List.mem_map.1 hm
      have := valM_mem hnd hq
      rw [h3, e, ← a] at this
      have : q = p := Prod.ext e this.symm
      rwa [this] at hq
    · exact absurd (by rw [a, ← h3, valM_none hm]) b
/-- Other keys in the same order. -/
theorem gathM_map {n m : Nat} {f : List Int → List Int} (hf : ∀ a b, f a = f b → a = b) (hn : ∀ k : List Int, k.length = n → (f k).length = m)
    (hlt : ∀ a b, a.length = n → b.length = n → ltK (f a) (f b) = ltK a b) {l : List (List Int × Int)} (hk : Keyd n l) :
    gathM (l.map fun q => (f q.1, q.2)) = (gathM l).map fun q => (f q.1, q.2) := by
  have hkm : Keyd m (l.map fun q => (f q.1, q.2)) := by
    intro p hp
    obtain ⟨q, hq, rfl⟩ := List.mem_map.1 hp
    exact hn _ (hk q hq)
  have hkey : ∀ p ∈ gathM l, p.1.length = n := by
    intro p hp
    obtain ⟨h1, h2⟩ := mem_gathM.1 hp
    obtain ⟨q, hq, e⟩ := sumK_key (h1 ▸ h2)
    rw [← e]; exact hk q hq
  refine asc_mem (gathM_asc hkm) ?_ fun p => ?_
  · refine List.pairwise_map.2 ((gathM_asc hk).imp_of_mem fun {a b} ha hb h => ?_)
    show ltK (f a.1) (f b.1) = true
    rw [hlt _ _ (hkey a ha) (hkey b hb)]; exact h
  · rw [mem_gathM, List.mem_map]
    constructor
    · rintro ⟨h1, h2⟩
      obtain ⟨q, hq, e⟩ := sumK_key (h1 ▸ h2)
      obtain ⟨q', hq', rfl⟩ := List.mem_map.1 hq
      have e : f q'.1 = p.1 := e
      refine ⟨(q'.1, p.2), mem_gathM.2 ⟨?_, h2⟩, Prod.ext e rfl⟩
      rw [h1, ← e, sumK_map hf]
    · rintro ⟨q, hq, rfl⟩
      obtain ⟨h1, h2⟩ := mem_gathM.1 hq
      exact ⟨by rw [sumK_map hf]; exact h1, h2⟩
end Go.Proofs.Ytopcofkpggefkaa
