/- Part 2 of the proof: the pieces below, each with its own first line. No condition but those in each statement. -/
import Derived.Test.YtdoimhpmnmmffaaGreatK1
import Derived.IntWalk
set_option linter.unusedVariables false
set_option linter.unusedSimpArgs false
/- The conditions on calls of this program's functions, printed by wip/tools/formulas.py; the kernel checks each against the loaded body. -/
namespace Go.Proofs.YtdoimhpmnmmffaaGreat
open Go
variable {x0 x1 x2 x3 x4 x5 x6 x7 x8 x9 : Value} {H : Heap} {R : Value → Heap → Prop} {X : List PanicEntry → Heap → Prop}

-- cloister/cloisterlaw21.CellDo
def i3 (x0 x1 : Value) (H : Heap) (R : Value → Heap → Prop) (X : List PanicEntry → Heap → Prop) : Prop :=
 Nw (.cells x0.cells 26 (0, 0)) H fun b2 H1 =>
 Ca Tryz.prog 8 [] H1 (fun x7 H2 =>
 Gt (unV .not x7) fun x8 =>
 If x8
 (R (.bool false) H2)
 (Gt (rda 3 (.pointer (some ⟨b2, 0, none⟩)) H2) fun x9 =>
 Ca Tryz.prog 9 [x9] H2 (fun x10 H3 =>
 Gt (unV .not x10) fun x11 =>
 If x11
 (R (.bool true) H3)
 (Gt (rda 3 (.pointer (some ⟨b2, 0, none⟩)) H3) fun x13 =>
 Ca Tryz.prog 10 [x13] H3 (fun x14 H4 =>
 Gt (exV 0 x14) fun x15 =>
 Gt (exV 1 x14) fun x16 =>
 Nw (.cells z37.cells 37 (0, 0)) H4 fun b5 H5 =>
 Gt (stV 11 (.pointer (some ⟨b5, 0, none⟩)) x15 H5) fun H6 =>
 Gt (unV .not x16) fun x18 =>
 If x18
 (R (.bool false) H6)
 (Gt (rda 11 (.pointer (some ⟨b5, 0, none⟩)) H6) fun x20 =>
 Ca Tryz.prog 11 [x20, x1] H6 (fun x22 H7 =>
 Gt (exV 0 x22) fun x23 =>
 Gt (exV 1 x22) fun x24 =>
 Gt (stV 11 (.pointer (some ⟨b5, 0, none⟩)) x23 H7) fun H8 =>
 If x24 (Gt (rda 11 (.pointer (some ⟨b5, 0, none⟩)) H8) fun x27 =>
 Ca Tryz.prog 12 [x27] H8 (fun x28 H9 =>
 R x28 H9) X) (R (.bool false) H8)) X)) X)) X)) X
theorem l3 (h : i3 x0 x1 H R X) : Runs Tryz.prog 3 [x0, x1] H R X := runs_e tbOk mixed Tryz.func3 (A := []) (by kernel_rfl) h

-- cloister/cloisterlaw21.CellCounts
def i4 (x0 x1 : Value) (H : Heap) (R : Value → Heap → Prop) (X : List PanicEntry → Heap → Prop) : Prop :=
 Nw (.cells x0.cells 26 (0, 0)) H fun b2 H1 =>
 Ca Tryz.prog 8 [] H1 (fun x20 H2 =>
 Gt (unV .not x20) fun x21 =>
 If x21
 (R (.bool false) H2)
 (Gt (rda 3 (.pointer (some ⟨b2, 0, none⟩)) H2) fun x22 =>
 Ca Tryz.prog 9 [x22] H2 (fun x23 H3 =>
 Gt (unV .not x23) fun x24 =>
 If x24
 (R (.bool true) H3)
 (Gt (rda 3 (.pointer (some ⟨b2, 0, none⟩)) H3) fun x26 =>
 Ca Tryz.prog 10 [x26] H3 (fun x27 H4 =>
 Gt (exV 0 x27) fun x28 =>
 Gt (exV 1 x27) fun x29 =>
 Nw (.cells z37.cells 37 (0, 0)) H4 fun b5 H5 =>
 Gt (stV 11 (.pointer (some ⟨b5, 0, none⟩)) x28 H5) fun H6 =>
 Gt (unV .not x29) fun x31 =>
 If x31
 (R (.bool false) H6)
 (Gt (faV 0 (.pointer (some ⟨b2, 0, none⟩))) fun x32 =>
 Gt (rdv x32 H6) fun x33 =>
 Gt (lnV x33) fun x34 =>
 Gt (mkV 24 x34 x34) fun m35 =>
 Nw (.cells (mkC 1 z51 m35.2) 51 (0, 0)) H6 fun b35_1 H7 =>
 Gt (lnV x1) fun x37 =>
 Lp fun (I1 : Value → Heap → Prop) (M1 : Value → Heap → Nat) => I1 (.int .i64 0) H7 ∧ ∀ (H8 : Heap) (x38 : Value), I1 x38 H8 →
 Gt (binI .lss x38 x37) fun x39 =>
 If x39
 (Gt (iaV 17 x1 x38) fun x40 =>
 Gt (rda 17 x40 H8) fun x41 =>
 Nw (.cells z49.cells 49 (0, 0)) H8 fun b9 H9 =>
 Gt (stV 17 (.pointer (some ⟨b9, 0, none⟩)) x41 H9) fun H10 =>
 Jo (fun (I2 : Value → Heap → Prop) => ∀ (H12 : Heap) (x50 : Value), I2 x50 H12 →
 If x50
 (Gt (faV 10 (.pointer (some ⟨b9, 0, none⟩))) fun x53_2 =>
 Gt (rdv x53_2 H12) fun x54_2 =>
 Gt (iaV 1 (.slice (some ⟨b35_1, 0, none⟩) m35.1 m35.2) x54_2) fun x55_2 =>
 Gt (rdv x55_2 H12) fun x56_2 =>
 Gt (faV 5 (.pointer (some ⟨b5, 0, none⟩))) fun x57_2 =>
 Gt (rda 6 x57_2 H12) fun x58_2 =>
 Gt (faV 10 (.pointer (some ⟨b9, 0, none⟩))) fun x59_2 =>
 Gt (rdv x59_2 H12) fun x60_2 =>
 Ca Tryz.prog 15 [x58_2, x60_2] H12 (fun x61_2 H13 =>
 Sm (rdv x55_2 H13) x56_2 <|
 Sm (rdv x53_2 H13) x54_2 <|
 Ca Tryz.prog 14 [x56_2, x61_2] H13 (fun x62_2 H14 =>
 Gt (exV 0 x62_2) fun x63_2 =>
 Gt (exV 1 x62_2) fun x64_2 =>
 Gt (faV 10 (.pointer (some ⟨b9, 0, none⟩))) fun x66_2 =>
 Gt (rdv x66_2 H14) fun x67_2 =>
 Gt (iaV 1 (.slice (some ⟨b35_1, 0, none⟩) m35.1 m35.2) x67_2) fun x69_2 =>
 Gt (stV 1 x69_2 x63_2 H14) fun H15 =>
 Gt (faV 4 (.pointer (some ⟨b5, 0, none⟩))) fun x70_2 =>
 Gt (rdv x70_2 H15) fun x71_2 =>
 Gt (faV 10 (.pointer (some ⟨b9, 0, none⟩))) fun x72_2 =>
 Gt (rdv x72_2 H15) fun x73_2 =>
 Gt (iaV 1 x71_2 x73_2) fun x74_2 =>
 Gt (rdv x74_2 H15) fun x75_2 =>
 Ca Tryz.prog 16 [x75_2] H15 (fun x76_2 H16 =>
 Gt (binI .neq x76_2 x64_2) fun x78_2 =>
 If x78_2
 (R (.bool false) H16)
 (Gt (binI .add x38 (.int .i64 1)) fun x147 =>
 I1 x147 H16 ∧ Nat.lt (M1 x147 H16) (M1 x38 H8))) X) X) X)
 (Gt (faV 5 (.pointer (some ⟨b5, 0, none⟩))) fun x79_2 =>
 Gt (rda 6 x79_2 H12) fun x80_2 =>
 Nw (.cells z35.cells 35 (0, 0)) H12 fun b12_2 H17 =>
 Gt (stV 6 (.pointer (some ⟨b12_2, 0, none⟩)) x80_2 H17) fun H18 =>
 Gt (rda 11 (.pointer (some ⟨b5, 0, none⟩)) H18) fun x82_2 =>
 Gt (rda 17 (.pointer (some ⟨b9, 0, none⟩)) H18) fun x83_2 =>
 Ca Tryz.prog 17 [x82_2, x83_2] H18 (fun x84_2 H19 =>
 Gt (exV 0 x84_2) fun x85_2 =>
 Gt (exV 1 x84_2) fun x86_2 =>
 Gt (stV 11 (.pointer (some ⟨b5, 0, none⟩)) x85_2 H19) fun H20 =>
 Gt (unV .not x86_2) fun x88_2 =>
 If x88_2
 (R (.bool false) H20)
 (Gt (faV 0 (.pointer (some ⟨b2, 0, none⟩))) fun x89_2 =>
 Gt (rdv x89_2 H20) fun x90_2 =>
 Gt (lnV x90_2) fun x91_2 =>
 Lp fun (I3 : Value → Heap → Prop) (M3 : Value → Heap → Nat) => I3 (.int .i64 0) H20 ∧ ∀ (H21 : Heap) (x92_2 : Value), I3 x92_2 H21 →
 Gt (binI .lss x92_2 x91_2) fun x93_2 =>
 If x93_2
 (Gt (faV 4 (.pointer (some ⟨b12_2, 0, none⟩))) fun x95_2 =>
 Gt (rdv x95_2 H21) fun x96_2 =>
 Gt (iaV 1 x96_2 x92_2) fun x98_2 =>
 Gt (rdv x98_2 H21) fun x99_2 =>
 Gt (lnV x99_2) fun x100_2 =>
 Lp fun (I4 : Value → Heap → Prop) (M4 : Value → Heap → Nat) => I4 x100_2 H21 ∧ ∀ (H22 : Heap) (x14_2 : Value), I4 x14_2 H22 →
 Gt (faV 5 (.pointer (some ⟨b5, 0, none⟩))) fun x102_2 =>
 Gt (faV 4 x102_2) fun x103_2 =>
 Gt (rdv x103_2 H22) fun x104_2 =>
 Gt (iaV 1 x104_2 x92_2) fun x106_2 =>
 Gt (rdv x106_2 H22) fun x107_2 =>
 Gt (lnV x107_2) fun x108_2 =>
 Gt (binI .lss x14_2 x108_2) fun x109_2 =>
 If x109_2
 (Gt (faV 5 (.pointer (some ⟨b5, 0, none⟩))) fun x112_2 =>
 Gt (faV 4 x112_2) fun x113_2 =>
 Gt (rdv x113_2 H22) fun x114_2 =>
 Gt (iaV 1 x114_2 x92_2) fun x116_2 =>
 Gt (rdv x116_2 H22) fun x117_2 =>
 Gt (iaV 1 x117_2 x14_2) fun x119_2 =>
 Gt (rdv x119_2 H22) fun x120_2 =>
 Gt (lnV x120_2) fun x121_2 =>
 Lp fun (I5 : Value → Heap → Prop) (M5 : Value → Heap → Nat) => I5 (.int .i64 0) H22 ∧ ∀ (H23 : Heap) (x122_2 : Value), I5 x122_2 H23 →
 Gt (binI .lss x122_2 x121_2) fun x123_2 =>
 If x123_2
 (Gt (iaV 3 x120_2 x122_2) fun x124_2 =>
 Gt (rda 3 x124_2 H23) fun x125_2 =>
 Nw (.cells z61.cells 61 (0, 0)) H23 fun b16_2 H24 =>
 Gt (stV 3 (.pointer (some ⟨b16_2, 0, none⟩)) x125_2 H24) fun H25 =>
 Gt (iaV 1 (.slice (some ⟨b35_1, 0, none⟩) m35.1 m35.2) x92_2) fun x130_2 =>
 Gt (rdv x130_2 H25) fun x131_2 =>
 Gt (faV 0 (.pointer (some ⟨b16_2, 0, none⟩))) fun x132_2 =>
 Gt (rdv x132_2 H25) fun x133_2 =>
 Gt (faV 5 (.pointer (some ⟨b5, 0, none⟩))) fun x134_2 =>
 Gt (rda 6 x134_2 H25) fun x135_2 =>
 Ca Tryz.prog 18 [x135_2, x92_2] H25 (fun x137_2 H26 =>
 Sm (rdv x132_2 H26) x133_2 <|
 Sm (rdv x130_2 H26) x131_2 <|
 Gt (binI .add x137_2 x14_2) fun x139_2 =>
 Gt (binI .add x139_2 (.int .i64 1)) fun x140_2 =>
 Gt (bdV z63 [(0, 1), (1, 1)] [(0, x133_2), (1, x140_2)]) fun x141_2 =>
 Gt (bsV 2 1 z63 [(0, x141_2)]) fun c142_4 =>
 Nw (.cells c142_4.toArray 63 (0, 0)) H26 fun b142_5 H27 =>
 Ap 63 2 24 z63 x131_2 (.slice (some ⟨b142_5, 0, none⟩) 1 1) H27 (fun x143_2 H28 =>
 Gt (iaV 1 (.slice (some ⟨b35_1, 0, none⟩) m35.1 m35.2) x92_2) fun x144_2 =>
 Gt (stV 1 x144_2 x143_2 H28) fun H29 =>
 Gt (binI .add x122_2 (.int .i64 1)) fun x145_2 =>
 I5 x145_2 H29 ∧ Nat.lt (M5 x145_2 H29) (M5 x122_2 H23))) X)
 (Gt (binI .add x14_2 (.int .i64 1)) fun x111_2 =>
 I4 x111_2 H23 ∧ Nat.lt (M4 x111_2 H23) (M4 x14_2 H22)))
 (Gt (binI .add x92_2 (.int .i64 1)) fun x146_2 =>
 I3 x146_2 H22 ∧ Nat.lt (M3 x146_2 H22) (M3 x92_2 H21)))
 (Gt (binI .add x38 (.int .i64 1)) fun x147_1 =>
 I1 x147_1 H21 ∧ Nat.lt (M1 x147_1 H21) (M1 x38 H8)))) X)) fun (I2 : Value → Heap → Prop) =>
 Gt (faV 0 (.pointer (some ⟨b9, 0, none⟩))) fun x42 =>
 Gt (rdv x42 H10) fun x43 =>
 Gt (binI .eql x43 (.int .i64 1)) fun x44 =>
 If x44 (Gt (rda 11 (.pointer (some ⟨b5, 0, none⟩)) H10) fun x46 =>
 Gt (faV 10 (.pointer (some ⟨b9, 0, none⟩))) fun x47 =>
 Gt (rdv x47 H10) fun x48 =>
 Ca Tryz.prog 13 [x46, x48] H10 (fun x49 H11 =>
 I2 x49 H11) X) (I2 (.bool false) H10))
 (Gt (faV 0 (.pointer (some ⟨b2, 0, none⟩))) fun x148 =>
 Gt (rdv x148 H8) fun x149 =>
 Gt (lnV x149) fun x150 =>
 Lp fun (I6 : Value → Heap → Prop) (M6 : Value → Heap → Nat) => I6 (.int .i64 0) H8 ∧ ∀ (H30 : Heap) (x151 : Value), I6 x151 H30 →
 Gt (binI .lss x151 x150) fun x152 =>
 If x152
 (Gt (iaV 1 (.slice (some ⟨b35_1, 0, none⟩) m35.1 m35.2) x151) fun x157 =>
 Gt (rdv x157 H30) fun x158 =>
 Gt (faV 5 (.pointer (some ⟨b5, 0, none⟩))) fun x159 =>
 Gt (rda 6 x159 H30) fun x160 =>
 Ca Tryz.prog 15 [x160, x151] H30 (fun x162 H31 =>
 Sm (rdv x157 H31) x158 <|
 Ca Tryz.prog 14 [x158, x162] H31 (fun x163 H32 =>
 Gt (exV 0 x163) fun x164 =>
 Gt (exV 1 x163) fun x165 =>
 Gt (faV 4 (.pointer (some ⟨b5, 0, none⟩))) fun x166 =>
 Gt (rdv x166 H32) fun x167 =>
 Gt (iaV 1 x167 x151) fun x169 =>
 Gt (rdv x169 H32) fun x170 =>
 Ca Tryz.prog 16 [x170] H32 (fun x171 H33 =>
 Gt (binI .neq x171 x165) fun x173 =>
 If x173 (If (.bool true)
 (R (.bool false) H33)
 (Gt (binI .add x151 (.int .i64 1)) fun x183 =>
 I6 x183 H33 ∧ Nat.lt (M6 x183 H33) (M6 x151 H30))) (Gt (faV 4 (.pointer (some ⟨b5, 0, none⟩))) fun x175 =>
 Gt (rdv x175 H33) fun x176 =>
 Gt (iaV 1 x176 x151) fun x178 =>
 Gt (rdv x178 H33) fun x179 =>
 Ca Tryz.prog 16 [x179] H33 (fun x180 H34 =>
 Gt (binI .neq x180 (.int .i64 0)) fun x181 =>
 If x181
 (R (.bool false) H34)
 (Gt (binI .add x151 (.int .i64 1)) fun x183_1 =>
 I6 x183_1 H34 ∧ Nat.lt (M6 x183_1 H34) (M6 x151 H30))) X)) X) X) X)
 (R (.bool true) H30)))) X)) X)) X
theorem l4 (h : i4 x0 x1 H R X) : Runs Tryz.prog 4 [x0, x1] H R X := runs_e tbOk mixed Tryz.func4 (A := [(1018, [38]), (260708, [50]), (4171390, [92]), (1067875942, [14]), (68344060306, [122]), (2042, [151])]) (by kernel_rfl) h

-- cloister/cloisterlaw21.head
def i8 (H : Heap) (R : Value → Heap → Prop) (X : List PanicEntry → Heap → Prop) : Prop :=
 Ca Tryz.prog 36 [] H (fun x9 H1 =>
 Ca Tryz.prog 10 [x9] H1 (fun x10 H2 =>
 Gt (exV 0 x10) fun x11 =>
 Gt (exV 1 x10) fun x12 =>
 Nw (.cells z37.cells 37 (0, 0)) H2 fun b1 H3 =>
 Gt (stV 11 (.pointer (some ⟨b1, 0, none⟩)) x11 H3) fun H4 =>
 Gt (unV .not x12) fun x14 =>
 If x14
 (R (.bool false) H4)
 (Jo (fun (I1 : Value → Value → Heap → Prop) => ∀ (H11 : Heap) (x3_2 : Value) (x4_10 : Value), I1 x3_2 x4_10 H11 →
 Gt (binI .neq x4_10 (.int .i64 0)) fun x27_2 =>
 Gt (ifO x27_2 ((some (.bool true))) ((faV 2 x3_2).bind fun x29_2 =>
 (rdv x29_2 H11).bind fun x30_2 =>
 (binI .neq x30_2 (.int .i64 0)).bind fun x31_2 =>
 (some x31_2))) fun x32_2 =>
 If x32_2
 (R (.bool false) H11)
 (Gt (bdV z44 [(0, 1), (1, 1)] [(0, (.int .i64 1)), (1, (.int .i64 1))]) fun x33_2 =>
 Nw (.cells z44.cells 44 (0, 0)) H11 fun b5_2 H12 =>
 Gt (stV 2 (.pointer (some ⟨b5_2, 0, none⟩)) x33_2 H12) fun H13 =>
 Jo (fun (I2 : Value → Value → Heap → Prop) => ∀ (H25 : Heap) (x4_14 : Value) (x6_11 : Value), I2 x4_14 x6_11 H25 →
 Gt (binI .neq x4_14 (.int .i64 0)) fun x48_11 =>
 Gt (ifO x48_11 ((some (.bool true))) ((faV 2 x6_11).bind fun x50_11 =>
 (rdv x50_11 H25).bind fun x51_11 =>
 (binI .neq x51_11 (.int .i64 0)).bind fun x52_11 =>
 (some x52_11))) fun x53_11 =>
 If x53_11
 (R (.bool false) H25)
 (Jo (fun (I3 : Value → Value → Heap → Prop) => ∀ (H32 : Heap) (x4_15 : Value) (x7_35 : Value), I3 x4_15 x7_35 H32 →
 Gt (binI .eql x4_15 (.int .i64 0)) fun x67_35 =>
 Gt (ifO x67_35 ((faV 2 x7_35).bind fun x69_35 =>
 (rdv x69_35 H32).bind fun x70_35 =>
 (binI .eql x70_35 (.int .i64 0)).bind fun x71_35 =>
 (some x71_35)) ((some (.bool false)))) fun x72_35 =>
 Gt (ifO x72_35 ((faV 9 x7_35).bind fun x74_35 =>
 (rdv x74_35 H32).bind fun x75_35 =>
 (binI .eql x75_35 (.int .i64 8)).bind fun x76_35 =>
 (some x76_35)) ((some (.bool false)))) fun x77_35 =>
 Gt (ifO x77_35 ((faV 3 x3_2).bind fun x79_35 =>
 (rda 2 x79_35 H32).bind fun x80_35 =>
 (rda 2 (.pointer (some ⟨b5_2, 0, none⟩)) H32).bind fun x81_35 =>
 ((pairV x80_35 x81_35).map Value.bool).bind fun x82_35 =>
 (some x82_35)) ((some (.bool false)))) fun x83_35 =>
 If x83_35 (Gt (faV 4 (.pointer (some ⟨b1, 0, none⟩))) fun x85_35 =>
 Gt (rdv x85_35 H32) fun x86_35 =>
 Gt (iaV 1 x86_35 (.int .i64 0)) fun x87_35 =>
 Gt (rdv x87_35 H32) fun x88_35 =>
 Ca Tryz.prog 26 [x88_35] H32 (fun x89_35 H33 =>
 Gt (binI .eql x89_35 (.int .i64 8)) fun x90_35 =>
 R x90_35 H33) X) (R (.bool false) H32)) fun (I3 : Value → Value → Heap → Prop) =>
 Gt (faV 4 (.pointer (some ⟨b1, 0, none⟩))) fun x55_11 =>
 Gt (rdv x55_11 H25) fun x56_11 =>
 Gt (iaV 1 x56_11 (.int .i64 0)) fun x57_11 =>
 Gt (rdv x57_11 H25) fun x58_11 =>
 Gt (rda 2 (.pointer (some ⟨b5_2, 0, none⟩)) H25) fun x59_11 =>
 Gt (bdV z47 [(0, 1), (1, 2), (3, 1), (4, 1), (5, 1), (6, 1), (7, 1)] [(0, (.int .i64 6)), (1, x59_11)]) fun x60_11 =>
 Gt (faV 4 (.pointer (some ⟨b1, 0, none⟩))) fun x61_11 =>
 Gt (rdv x61_11 H25) fun x62_11 =>
 (Ca Tryz.prog 19 [x58_11, (.int .i64 0), x60_11, x62_11] H25 (fun x63_22 H26 =>
 Gt (exV 0 x63_22) fun x64_22 =>
 Gt (exV 1 x63_22) fun x65_22 =>
 Nw (.cells z67.cells 67 (0, 0)) H26 fun b7_33 H27 =>
 Gt (stV 10 (.pointer (some ⟨b7_33, 0, none⟩)) x64_22 H27) fun H28 =>
 I3 x65_22 (.pointer (some ⟨b7_33, 0, none⟩)) H28) X) ∧
 (Nw (.cells z67.cells 67 (0, 0)) H25 fun b7_34 H29 =>
 Ca Tryz.prog 19 [x58_11, (.int .i64 0), x60_11, x62_11] H29 (fun x63_23 H30 =>
 Gt (exV 0 x63_23) fun x64_23 =>
 Gt (exV 1 x63_23) fun x65_23 =>
 Gt (stV 10 (.pointer (some ⟨b7_34, 0, none⟩)) x64_23 H30) fun H31 =>
 I3 x65_23 (.pointer (some ⟨b7_34, 0, none⟩)) H31) X))) fun (I2 : Value → Value → Heap → Prop) =>
 Gt (faV 4 (.pointer (some ⟨b1, 0, none⟩))) fun x35_2 =>
 Gt (rdv x35_2 H13) fun x36_2 =>
 Gt (iaV 1 x36_2 (.int .i64 0)) fun x37_2 =>
 Gt (rdv x37_2 H13) fun x38_2 =>
 Gt (rda 2 (.pointer (some ⟨b5_2, 0, none⟩)) H13) fun x39_2 =>
 Gt (faV 4 (.pointer (some ⟨b1, 0, none⟩))) fun x42_2 =>
 Gt (rdv x42_2 H13) fun x43_2 =>
 (Gt (bsV 1 1 z5 [(0, (.int .u8 1))]) fun c40_8 =>
 Nw (.cells c40_8.toArray 5 (0, 0)) H13 fun b40_9 H14 =>
 Gt (bdV z47 [(0, 1), (1, 2), (3, 1), (4, 1), (5, 1), (6, 1), (7, 1)] [(0, (.int .i64 4)), (1, x39_2), (3, (.string ⟨#[97]⟩)), (5, (.slice (some ⟨b40_9, 0, none⟩) 1 1))]) fun x41_4 =>
 (Ca Tryz.prog 19 [x38_2, (.int .i64 0), x41_4, x43_2] H14 (fun x44_6 H15 =>
 Gt (exV 0 x44_6) fun x45_6 =>
 Gt (exV 1 x44_6) fun x46_6 =>
 Nw (.cells z67.cells 67 (0, 0)) H15 fun b6_8 H16 =>
 Gt (stV 10 (.pointer (some ⟨b6_8, 0, none⟩)) x45_6 H16) fun H17 =>
 I2 x46_6 (.pointer (some ⟨b6_8, 0, none⟩)) H17) X) ∧
 (Nw (.cells z67.cells 67 (0, 0)) H14 fun b6_9 H18 =>
 Ca Tryz.prog 19 [x38_2, (.int .i64 0), x41_4, x43_2] H18 (fun x44_7 H19 =>
 Gt (exV 0 x44_7) fun x45_7 =>
 Gt (exV 1 x44_7) fun x46_7 =>
 Gt (stV 10 (.pointer (some ⟨b6_9, 0, none⟩)) x45_7 H19) fun H20 =>
 I2 x46_7 (.pointer (some ⟨b6_9, 0, none⟩)) H20) X)) ∧
 (Nw (.cells z67.cells 67 (0, 0)) H13 fun b6_10 H21 =>
 Gt (bsV 1 1 z5 [(0, (.int .u8 1))]) fun c40_10 =>
 Nw (.cells c40_10.toArray 5 (0, 0)) H21 fun b40_11 H22 =>
 Gt (bdV z47 [(0, 1), (1, 2), (3, 1), (4, 1), (5, 1), (6, 1), (7, 1)] [(0, (.int .i64 4)), (1, x39_2), (3, (.string ⟨#[97]⟩)), (5, (.slice (some ⟨b40_11, 0, none⟩) 1 1))]) fun x41_5 =>
 Ca Tryz.prog 19 [x38_2, (.int .i64 0), x41_5, x43_2] H22 (fun x44_8 H23 =>
 Gt (exV 0 x44_8) fun x45_8 =>
 Gt (exV 1 x44_8) fun x46_8 =>
 Gt (stV 10 (.pointer (some ⟨b6_10, 0, none⟩)) x45_8 H23) fun H24 =>
 I2 x46_8 (.pointer (some ⟨b6_10, 0, none⟩)) H24) X))) fun (I1 : Value → Value → Heap → Prop) =>
 Gt (faV 4 (.pointer (some ⟨b1, 0, none⟩))) fun x16 =>
 Gt (rdv x16 H4) fun x17 =>
 Gt (iaV 1 x17 (.int .i64 0)) fun x18 =>
 Gt (rdv x18 H4) fun x19 =>
 Gt (bdV z47 [(0, 1), (1, 2), (3, 1), (4, 1), (5, 1), (6, 1), (7, 1)] [(0, (.int .i64 1))]) fun x20 =>
 Gt (faV 4 (.pointer (some ⟨b1, 0, none⟩))) fun x21 =>
 Gt (rdv x21 H4) fun x22 =>
 (Ca Tryz.prog 19 [x19, (.int .i64 0), x20, x22] H4 (fun x23 H5 =>
 Gt (exV 0 x23) fun x24 =>
 Gt (exV 1 x23) fun x25 =>
 Nw (.cells z67.cells 67 (0, 0)) H5 fun b3 H6 =>
 Gt (stV 10 (.pointer (some ⟨b3, 0, none⟩)) x24 H6) fun H7 =>
 I1 (.pointer (some ⟨b3, 0, none⟩)) x25 H7) X) ∧
 (Nw (.cells z67.cells 67 (0, 0)) H4 fun b3_1 H8 =>
 Ca Tryz.prog 19 [x19, (.int .i64 0), x20, x22] H8 (fun x23_1 H9 =>
 Gt (exV 0 x23_1) fun x24_1 =>
 Gt (exV 1 x23_1) fun x25_1 =>
 Gt (stV 10 (.pointer (some ⟨b3_1, 0, none⟩)) x24_1 H9) fun H10 =>
 I1 (.pointer (some ⟨b3_1, 0, none⟩)) x25_1 H10) X))) X) X
theorem l8 (h : i8 H R X) : Runs Tryz.prog 8 [] H R X := runs_e tbOk mixed Tryz.func8 (A := [(30, [3, 4]), (254, [4, 6]), (1022, [4, 7])]) (by kernel_rfl) h

-- cloister/cloisterlaw21.begun
def i10 (x0 : Value) (H : Heap) (R : Value → Heap → Prop) (X : List PanicEntry → Heap → Prop) : Prop :=
 Nw (.cells x0.cells 26 (0, 0)) H fun b1 H1 =>
 Nw (.cells z37.cells 37 (0, 0)) H1 fun b2 H2 =>
 Gt (faV 0 (.pointer (some ⟨b1, 0, none⟩))) fun x8 =>
 Gt (rdv x8 H2) fun x9 =>
 Gt (lnV x9) fun x10 =>
 Ca Tryz.prog 39 [x10] H2 (fun x11 H3 =>
 Gt (exV 0 x11) fun x12 =>
 Gt (exV 1 x11) fun x13 =>
 Gt (binI .neq x13 (.int .i64 0)) fun x15 =>
 Gt (ifO x15 ((some (.bool true))) (((ptrEq 2 x12 (.pointer none) H3).map Value.bool).bind fun x18 =>
 (some x18))) fun x19 =>
 If x19
 (Gt (bdV z37 [(0, 3), (3, 1), (4, 1), (5, 6)] []) fun x20 =>
 Gt (stV 11 (.pointer (some ⟨b2, 0, none⟩)) x20 H3) fun H4 =>
 Gt (rda 11 (.pointer (some ⟨b2, 0, none⟩)) H4) fun u1 =>
 R (.tuple #[u1, (.bool false)]) H4)
 (Gt (rda 3 (.pointer (some ⟨b1, 0, none⟩)) H3) fun x22 =>
 Ca Tryz.prog 30 [x22, (.int .i64 1), x12] H3 (fun x24 H5 =>
 Gt (exV 0 x24) fun x25 =>
 Gt (exV 1 x24) fun x26 =>
 Gt (rda 3 (.pointer (some ⟨b1, 0, none⟩)) H5) fun x27 =>
 Gt (rda 3 (.pointer (some ⟨b1, 0, none⟩)) H5) fun x30 =>
 Gt (binI .eql x26 (.int .i64 0)) fun x34 =>
 Ca Tryz.prog 40 [x30, (.int .i64 1)] H5 (fun x31 H6 =>
 Sm (rda 3 (.pointer (some ⟨b1, 0, none⟩)) H6) x27 <|
 Gt (bdV z37 [(0, 3), (3, 1), (4, 1), (5, 6)] [(0, x27), (1, x12), (2, x25), (3, x31)]) fun x32 =>
 Gt (stV 11 (.pointer (some ⟨b2, 0, none⟩)) x32 H6) fun H7 =>
 Gt (rda 11 (.pointer (some ⟨b2, 0, none⟩)) H7) fun u2 =>
 R (.tuple #[u2, x34]) H7) X) X)) X
theorem l10 (h : i10 x0 H R X) : Runs Tryz.prog 10 [x0] H R X := runs_e tbOk mixed Tryz.func10 (A := []) (by kernel_rfl) h

-- cloister/cloisterlaw21.vacuumed
def i14 (x0 x1 : Value) (H : Heap) (R : Value → Heap → Prop) (X : List PanicEntry → Heap → Prop) : Prop :=
 Gt (bsV 2 0 z63 []) fun c12 =>
 Nw (.cells c12.toArray 63 (0, 0)) H fun b12_1 H1 =>
 Gt (lnV x0) fun x14 =>
 Lp fun (I1 : Value → Value → Heap → Prop) (M1 : Value → Value → Heap → Nat) => I1 (.slice (some ⟨b12_1, 0, none⟩) 0 0) (.int .i64 0) H1 ∧ ∀ (H2 : Heap) (x6 : Value) (x15 : Value), I1 x6 x15 H2 →
 Gt (binI .lss x15 x14) fun x16 =>
 If x16
 (Gt (iaV 2 x0 x15) fun x18 =>
 Gt (rda 2 x18 H2) fun x19 =>
 Nw (.cells z63.cells 63 (0, 0)) H2 fun b8 H3 =>
 Gt (stV 2 (.pointer (some ⟨b8, 0, none⟩)) x19 H3) fun H4 =>
 Gt (binI .add x15 (.int .i64 1)) fun x22 =>
 Gt (slV 2 x0 (some x22) none) fun x23 =>
 Gt (lnV x23) fun x24 =>
 Lp fun (I2 : Value → Value → Heap → Prop) (M2 : Value → Value → Heap → Nat) => I2 (.bool false) (.int .i64 0) H4 ∧ ∀ (H5 : Heap) (x9 : Value) (x25 : Value), I2 x9 x25 H5 →
 Gt (binI .lss x25 x24) fun x26 =>
 If x26
 (Gt (iaV 2 x23 x25) fun x27 =>
 Gt (rda 2 x27 H5) fun x28 =>
 Nw (.cells z63.cells 63 (0, 0)) H5 fun b11 H6 =>
 Gt (stV 2 (.pointer (some ⟨b11, 0, none⟩)) x28 H6) fun H7 =>
 Gt (faV 0 (.pointer (some ⟨b11, 0, none⟩))) fun x29 =>
 Gt (rdv x29 H7) fun x30 =>
 Gt (faV 0 (.pointer (some ⟨b8, 0, none⟩))) fun x31 =>
 Gt (rdv x31 H7) fun x32 =>
 Gt (binS .eql x30 x32) fun x33 =>
 Gt (ifO x33 ((faV 1 (.pointer (some ⟨b11, 0, none⟩))).bind fun x35 =>
 (rdv x35 H7).bind fun x36 =>
 (binI .leq x36 x1).bind fun x38 =>
 (some x38)) ((some (.bool false)))) fun x39 =>
 If x39
 (Gt (binI .add x25 (.int .i64 1)) fun x40 =>
 I2 (.bool true) x40 H7 ∧ Nat.lt (M2 (.bool true) x40 H7) (M2 x9 x25 H5))
 (Gt (binI .add x25 (.int .i64 1)) fun x40_1 =>
 I2 x9 x40_1 H7 ∧ Nat.lt (M2 x9 x40_1 H7) (M2 x9 x25 H5)))
 (Gt (unV .not x9) fun x42 =>
 If x42
 (Gt (rda 2 (.pointer (some ⟨b8, 0, none⟩)) H5) fun x44 =>
 Gt (bsV 2 1 z63 [(0, x44)]) fun c45 =>
 Nw (.cells c45.toArray 63 (0, 0)) H5 fun b45_1 H8 =>
 Ap 63 2 24 z63 x6 (.slice (some ⟨b45_1, 0, none⟩) 1 1) H8 (fun x46 H9 =>
 Gt (binI .add x15 (.int .i64 1)) fun x47 =>
 I1 x46 x47 H9 ∧ Nat.lt (M1 x46 x47 H9) (M1 x6 x15 H2)))
 (Gt (binI .add x15 (.int .i64 1)) fun x47_1 =>
 I1 x6 x47_1 H5 ∧ Nat.lt (M1 x6 x47_1 H5) (M1 x6 x15 H2))))
 (Gt (lnV x0) fun x50 =>
 Gt (lnV x6) fun x52 =>
 Gt (binI .sub x50 x52) fun x53 =>
 R (.tuple #[x6, x53]) H2)
theorem l14 (h : i14 x0 x1 H R X) : Runs Tryz.prog 14 [x0, x1] H R X := runs_e tbOk mixed Tryz.func14 (A := [(58, [6, 15]), (59802, [9, 25])]) (by kernel_rfl) h

-- (*cloister/cell.Cell).Vacuum
def i16 (x0 : Value) (H : Heap) (R : Value → Heap → Prop) (X : List PanicEntry → Heap → Prop) : Prop :=
 Gt ((ptrEq 10 x0 (.pointer none) H).map Value.bool) fun x4 =>
 If x4
 (R (.int .i64 0) H)
 (Gt (ncV tb x0) fun x6 =>
 Gt (faV 5 x6) fun x7 =>
 Gt (rdv x7 H) fun x8 =>
 Ca Tryz.prog 27 [x0] H (fun x10 H1 =>
 Sm (rdv x7 H1) x8 <|
 Ca Tryz.prog 42 [x8, x10] H1 (fun x11 H2 =>
 R x11 H2) X) X)
theorem l16 (h : i16 x0 H R X) : Runs Tryz.prog 16 [x0] H R X := runs_e tbOk mixed Tryz.func16 (A := []) (by kernel_rfl) h

-- (*cloister/cell.Cell).Do
def i19 (x0 x1 x2 x3 : Value) (H : Heap) (R : Value → Heap → Prop) (X : List PanicEntry → Heap → Prop) : Prop :=
 Nw (.cells x2.cells 47 (0, 0)) H fun b6 H1 =>
 Nw (.cells z67.cells 67 (0, 0)) H1 fun b8 H2 =>
 Gt ((ptrEq 10 x0 (.pointer none) H2).map Value.bool) fun x13 =>
 If x13
 (Gt (bdV z67 [(0, 1), (1, 1), (2, 1), (3, 2), (5, 1), (6, 1), (7, 1), (8, 1), (9, 1)] []) fun x14 =>
 Gt (stV 10 (.pointer (some ⟨b8, 0, none⟩)) x14 H2) fun H3 =>
 Gt (rda 10 (.pointer (some ⟨b8, 0, none⟩)) H3) fun u1 =>
 R (.tuple #[u1, (.int .i64 1)]) H3)
 (Ca Tryz.prog 46 [x0, x1, x3] H2 (fun x18 H4 =>
 Gt (unV .not x18) fun x19 =>
 If x19
 (Gt (bdV z67 [(0, 1), (1, 1), (2, 1), (3, 2), (5, 1), (6, 1), (7, 1), (8, 1), (9, 1)] []) fun x20 =>
 Gt (stV 10 (.pointer (some ⟨b8, 0, none⟩)) x20 H4) fun H5 =>
 Gt (rda 10 (.pointer (some ⟨b8, 0, none⟩)) H5) fun u2 =>
 R (.tuple #[u2, (.int .i64 2)]) H5)
 (Gt (rda 8 (.pointer (some ⟨b6, 0, none⟩)) H4) fun x24 =>
 Gt (bdV z121 [(0, 1), (1, 8), (9, 1), (10, 1)] [(0, x1), (1, x24), (3, x3)]) fun x26 =>
 Ca Tryz.prog 47 [x0, x26] H4 (fun x27 H6 =>
 Gt (exV 0 x27) fun x28 =>
 Gt (exV 1 x27) fun x29 =>
 Nw (.cells z67.cells 67 (0, 0)) H6 fun b10 H7 =>
 Gt (stV 10 (.pointer (some ⟨b10, 0, none⟩)) x28 H7) fun H8 =>
 Gt (binI .neq x29 (.int .i64 0)) fun x31 =>
 If x31
 (Gt (bdV z67 [(0, 1), (1, 1), (2, 1), (3, 2), (5, 1), (6, 1), (7, 1), (8, 1), (9, 1)] []) fun x32 =>
 Gt (stV 10 (.pointer (some ⟨b8, 0, none⟩)) x32 H8) fun H9 =>
 Gt (rda 10 (.pointer (some ⟨b8, 0, none⟩)) H9) fun u3 =>
 R (.tuple #[u3, x29]) H9)
 (Gt (faV 1 (.pointer (some ⟨b10, 0, none⟩))) fun x35 =>
 Gt (stV 1 x35 x1 H8) fun H10 =>
 Gt (rda 10 (.pointer (some ⟨b10, 0, none⟩)) H10) fun x36 =>
 Gt (stV 10 (.pointer (some ⟨b8, 0, none⟩)) x36 H10) fun H11 =>
 Gt (rda 10 (.pointer (some ⟨b8, 0, none⟩)) H11) fun u4 =>
 R (.tuple #[u4, (.int .i64 0)]) H11)) X)) X)
theorem l19 (h : i19 x0 x1 x2 x3 H R X) : Runs Tryz.prog 19 [x0, x1, x2, x3] H R X := runs_e tbOk mixed Tryz.func19 (A := []) (by kernel_rfl) h

-- (*cloister/cell.Cell).Checkpoint
def i20 (x0 : Value) (H : Heap) (R : Value → Heap → Prop) (X : List PanicEntry → Heap → Prop) : Prop :=
 Gt ((ptrEq 10 x0 (.pointer none) H).map Value.bool) fun x9 =>
 If x9
 (R (.int .i64 1) H)
 (Gt (ncV tb x0) fun x12 =>
 Gt (faV 8 x12) fun x13 =>
 Gt (rdv x13 H) fun x14 =>
 Ca Tryz.prog 48 [x14] H (fun x15 H1 =>
 Gt (exV 0 x15) fun x16 =>
 Gt (exV 1 x15) fun x17 =>
 Gt (exV 2 x15) fun x18 =>
 Gt (ncV tb x0) fun x20 =>
 Gt (faV 8 x20) fun x21 =>
 Gt (rdv x21 H1) fun x22 =>
 Gt (ncV tb x0) fun x24 =>
 Gt (faV 5 x24) fun x25 =>
 Gt (rdv x25 H1) fun x26 =>
 Ca Tryz.prog 26 [x0] H1 (fun x28 H2 =>
 Sm (rdv x25 H2) x26 <|
 Sm (rdv x21 H2) x22 <|
 Ca Tryz.prog 50 [x26, x28] H2 (fun x29 H3 =>
 Sm (rdv x21 H3) x22 <|
 Ca Tryz.prog 49 [x22, x29] H3 (fun x30 H4 =>
 Gt (binI .neq x30 (.int .i64 0)) fun x32 =>
 If x32
 (R x30 H4)
 (Gt (ncV tb x0) fun x35 =>
 Gt (faV 8 x35) fun x36 =>
 Gt (rdv x36 H4) fun x37 =>
 Ca Tryz.prog 51 [x37] H4 (fun x38 H5 =>
 Gt (binI .neq x38 (.int .i64 0)) fun x40 =>
 If x40
 (R x38 H5)
 (Gt (ncV tb x0) fun x43 =>
 Gt (faV 8 x43) fun x44 =>
 Gt (rdv x44 H5) fun x45 =>
 Ca Tryz.prog 52 [x45, x18] H5 (fun x47 H6 =>
 R x47 H6) X)) X)) X) X) X) X)
theorem l20 (h : i20 x0 H R X) : Runs Tryz.prog 20 [x0] H R X := runs_e tbOk mixed Tryz.func20 (A := []) (by kernel_rfl) h

-- (*cloister/cell.Cell).Get
def i21 (x0 x1 x2 : Value) (H : Heap) (R : Value → Heap → Prop) (X : List PanicEntry → Heap → Prop) : Prop :=
 Gt ((ptrEq 10 x0 (.pointer none) H).map Value.bool) fun x9 =>
 If x9
 (R (.tuple #[(.slice none 0 0), (.bool false)]) H)
 (Gt (ncV tb x0) fun x11 =>
 Gt (faV 5 x11) fun x12 =>
 Gt (rdv x12 H) fun x13 =>
 Ca Tryz.prog 53 [x13, x1, x2] H (fun x16 H1 =>
 Gt (exV 0 x16) fun x17 =>
 Gt (exV 1 x16) fun x18 =>
 R (.tuple #[x17, x18]) H1) X)
theorem l21 (h : i21 x0 x1 x2 H R X) : Runs Tryz.prog 21 [x0, x1, x2] H R X := runs_e tbOk mixed Tryz.func21 (A := []) (by kernel_rfl) h

-- (*cloister/cell.Cell).Use
def i22 (x0 : Value) (H : Heap) (R : Value → Heap → Prop) (X : List PanicEntry → Heap → Prop) : Prop :=
 Gt ((ptrEq 10 x0 (.pointer none) H).map Value.bool) fun x5 =>
 If x5
 (R (.tuple #[(.int .i64 0), (.int .i64 0)]) H)
 (Gt (ncV tb x0) fun x7 =>
 Gt (faV 7 x7) fun x8 =>
 Gt (rdv x8 H) fun x9 =>
 Gt (ncV tb x0) fun x12 =>
 Gt (faV 7 x12) fun x13 =>
 Gt (rdv x13 H) fun x14 =>
 Ca Tryz.prog 54 [x9] H (fun x10 H1 =>
 Sm (rdv x13 H1) x14 <|
 Ca Tryz.prog 55 [x14] H1 (fun x15 H2 =>
 R (.tuple #[x10, x15]) H2) X) X)
theorem l22 (h : i22 x0 H R X) : Runs Tryz.prog 22 [x0] H R X := runs_e tbOk mixed Tryz.func22 (A := []) (by kernel_rfl) h

-- (*cloister/cell.Cell).Scan
def i23 (x0 x1 x2 x3 : Value) (H : Heap) (R : Value → Heap → Prop) (X : List PanicEntry → Heap → Prop) : Prop :=
 Gt ((ptrEq 10 x0 (.pointer none) H).map Value.bool) fun x10 =>
 If x10
 (R (.func (.func 56) #[] #[]) H)
 (Gt (ncV tb x0) fun x12 =>
 Gt (faV 5 x12) fun x13 =>
 Gt (rdv x13 H) fun x14 =>
 Ca Tryz.prog 57 [x14, x1, x2, x3] H (fun x18 H1 =>
 R x18 H1) X)
theorem l23 (h : i23 x0 x1 x2 x3 H R X) : Runs Tryz.prog 23 [x0, x1, x2, x3] H R X := runs_e tbOk mixed Tryz.func23 (A := []) (by kernel_rfl) h

-- (*cloister/cell.Cell).State
def i24 (x0 : Value) (H : Heap) (R : Value → Heap → Prop) (X : List PanicEntry → Heap → Prop) : Prop :=
 Nw (.cells z79.cells 79 (0, 0)) H fun b2 H1 =>
 Gt ((ptrEq 10 x0 (.pointer none) H1).map Value.bool) fun x4 =>
 If x4
 (Gt (bdV z79 [(0, 1), (1, 1)] []) fun x5 =>
 Gt (stV 2 (.pointer (some ⟨b2, 0, none⟩)) x5 H1) fun H2 =>
 Gt (rda 2 (.pointer (some ⟨b2, 0, none⟩)) H2) fun u1 =>
 R u1 H2)
 (Ca Tryz.prog 26 [x0] H1 (fun x7 H3 =>
 Ca Tryz.prog 26 [x0] H3 (fun x10 H4 =>
 Ca Tryz.prog 23 [x0, (.string ⟨#[]⟩), (.string ⟨#[]⟩), x10] H4 (fun x11 H5 =>
 Ca Tryz.prog 58 [x11] H5 (fun x12 H6 =>
 Gt (bdV z79 [(0, 1), (1, 1)] [(0, x7), (1, x12)]) fun x13 =>
 Gt (stV 2 (.pointer (some ⟨b2, 0, none⟩)) x13 H6) fun H7 =>
 Gt (rda 2 (.pointer (some ⟨b2, 0, none⟩)) H7) fun u2 =>
 R u2 H7) X) X) X) X)
theorem l24 (h : i24 x0 H R X) : Runs Tryz.prog 24 [x0] H R X := runs_e tbOk mixed Tryz.func24 (A := []) (by kernel_rfl) h

-- cloister/cloisterlaw21.zero
def i25 (x0 : Value) (H : Heap) (R : Value → Heap → Prop) (X : List PanicEntry → Heap → Prop) : Prop :=
 Nw (.cells x0.cells 67 (0, 0)) H fun b1 H1 =>
 Gt (rda 10 (.pointer (some ⟨b1, 0, none⟩)) H1) fun x3 =>
 Gt (bdV z67 [(0, 1), (1, 1), (2, 1), (3, 2), (5, 1), (6, 1), (7, 1), (8, 1), (9, 1)] []) fun x4 =>
 Ca Tryz.prog 59 [x3, x4] H1 (fun x5 H2 =>
 R x5 H2) X
theorem l25 (h : i25 x0 H R X) : Runs Tryz.prog 25 [x0] H R X := runs_e tbOk mixed Tryz.func25 (A := []) (by kernel_rfl) h

-- (*cloister/cell.Cell).Now
def i26 (x0 : Value) (H : Heap) (R : Value → Heap → Prop) (X : List PanicEntry → Heap → Prop) : Prop :=
 Gt ((ptrEq 10 x0 (.pointer none) H).map Value.bool) fun x4 =>
 If x4
 (R (.int .i64 0) H)
 (Gt (ncV tb x0) fun x6 =>
 Gt (faV 6 x6) fun x7 =>
 Gt (rdv x7 H) fun x8 =>
 Ca Tryz.prog 60 [x8] H (fun x9 H1 =>
 R x9 H1) X)
theorem l26 (h : i26 x0 H R X) : Runs Tryz.prog 26 [x0] H R X := runs_e tbOk mixed Tryz.func26 (A := []) (by kernel_rfl) h

-- (*cloister/cell.Cell).Horizon
def i27 (x0 : Value) (H : Heap) (R : Value → Heap → Prop) (X : List PanicEntry → Heap → Prop) : Prop :=
 Gt ((ptrEq 10 x0 (.pointer none) H).map Value.bool) fun x4 =>
 If x4
 (R (.int .i64 0) H)
 (Gt (ncV tb x0) fun x6 =>
 Gt (faV 6 x6) fun x7 =>
 Gt (rdv x7 H) fun x8 =>
 Ca Tryz.prog 61 [x8] H (fun x9 H1 =>
 R x9 H1) X)
theorem l27 (h : i27 x0 H R X) : Runs Tryz.prog 27 [x0] H R X := runs_e tbOk mixed Tryz.func27 (A := []) (by kernel_rfl) h

-- cloister/cloisterlaw21.opened
def i30 (x0 x1 x2 : Value) (H : Heap) (R : Value → Heap → Prop) (X : List PanicEntry → Heap → Prop) : Prop :=
 Nw (.cells x0.cells 26 (0, 0)) H fun b3 H1 =>
 Gt (bsV 1 0 z55 []) fun c12 =>
 Nw (.cells c12.toArray 55 (0, 0)) H1 fun b12_1 H2 =>
 Gt (faV 0 (.pointer (some ⟨b3, 0, none⟩))) fun x13 =>
 Gt (rdv x13 H2) fun x14 =>
 Gt (lnV x14) fun x15 =>
 Lp fun (I1 : Value → Value → Heap → Prop) (M1 : Value → Value → Heap → Nat) => I1 (.slice (some ⟨b12_1, 0, none⟩) 0 0) (.int .i64 0) H2 ∧ ∀ (H3 : Heap) (x8 : Value) (x16 : Value), I1 x8 x16 H3 →
 Gt (binI .lss x16 x15) fun x17 =>
 If x17
 (Gt (rda 3 (.pointer (some ⟨b3, 0, none⟩)) H3) fun x20 =>
 Ca Tryz.prog 64 [x20, x16, x1, x2] H3 (fun x24 H4 =>
 Gt (exV 0 x24) fun x25 =>
 Gt (exV 1 x24) fun x26 =>
 Gt (binI .neq x26 (.int .i64 0)) fun x28 =>
 If x28
 (R (.tuple #[(.slice none 0 0), x26]) H4)
 (Gt ((ptrEq 10 x25 (.pointer none) H4).map Value.bool) fun x31 =>
 If x31
 (R (.tuple #[(.slice none 0 0), (.int .i64 1)]) H4)
 (Gt (bsV 1 1 z55 [(0, x25)]) fun c34 =>
 Nw (.cells c34.toArray 55 (0, 0)) H4 fun b34_1 H5 =>
 Ap 55 1 8 z55 x8 (.slice (some ⟨b34_1, 0, none⟩) 1 1) H5 (fun x35 H6 =>
 Gt (binI .add x16 (.int .i64 1)) fun x36 =>
 I1 x35 x36 H6 ∧ Nat.lt (M1 x35 x36 H6) (M1 x8 x16 H3))))) X)
 (R (.tuple #[x8, (.int .i64 0)]) H3)
theorem l30 (h : i30 x0 x1 x2 H R X) : Runs Tryz.prog 30 [x0, x1, x2] H R X := runs_e tbOk mixed Tryz.func30 (A := [(58, [8, 16])]) (by kernel_rfl) h

-- cloister/cloisterlaw21.fixed
def i36 (H : Heap) (R : Value → Heap → Prop) (X : List PanicEntry → Heap → Prop) : Prop :=
 Nw (.cells z26.cells 26 (0, 0)) H fun b0 H1 =>
 Gt (bsV 1 1 z155 [(0, (.int .u64 0))]) fun c1 =>
 Nw (.cells c1.toArray 155 (0, 0)) H1 fun b1_1 H2 =>
 Gt (bdV z104 [(0, 1), (1, 1), (2, 1), (3, 1), (4, 1)] [(0, (.int .i64 100)), (1, (.int .i64 2)), (2, (.int .i64 1)), (3, (.int .i64 1)), (4, (.int .i64 7))]) fun x2 =>
 Gt (bsV 5 1 z104 [(0, x2)]) fun c3 =>
 Nw (.cells c3.toArray 104 (0, 0)) H2 fun b3_1 H3 =>
 Gt (bsV 1 1 z3 [(0, (.int .i64 0))]) fun c4 =>
 Nw (.cells c4.toArray 3 (0, 0)) H3 fun b4_1 H4 =>
 Gt (bdV z26 [(0, 1), (1, 1), (2, 1)] [(0, (.slice (some ⟨b1_1, 0, none⟩) 1 1)), (1, (.slice (some ⟨b3_1, 0, none⟩) 1 1)), (2, (.slice (some ⟨b4_1, 0, none⟩) 1 1))]) fun x5 =>
 Gt (stV 3 (.pointer (some ⟨b0, 0, none⟩)) x5 H4) fun H5 =>
 Gt (rda 3 (.pointer (some ⟨b0, 0, none⟩)) H5) fun u1 =>
 R u1 H5
theorem l36 (h : i36 H R X) : Runs Tryz.prog 36 [] H R X := runs_e tbOk mixed Tryz.func36 (A := []) (by kernel_rfl) h

-- cloister/disk.New
def i39 (x0 : Value) (H : Heap) (R : Value → Heap → Prop) (X : List PanicEntry → Heap → Prop) : Prop :=
 Gt (binI .lss x0 (.int .i64 1)) fun x7 =>
 Gt (ifO x7 ((some (.bool true))) ((binI .gtr x0 (.int .i64 16)).bind fun x10 =>
 (some x10))) fun x11 =>
 If x11
 (R (.tuple #[(.pointer none), (.int .i64 2)]) H)
 (Gt (mkV 40 x0 x0) fun m13 =>
 Nw (.cells (mkC 5 z141 m13.2) 141 (0, 0)) H fun b13_1 H1 =>
 Gt (bdV z144 [(0, 1), (1, 1)] [(0, (.slice (some ⟨b13_1, 0, none⟩) m13.1 m13.2))]) fun x14 =>
 Nw (.cells x14.cells 144 (0, 0)) H1 fun b15 H2 =>
 Gt (ncV tb (.pointer (some ⟨b15, 0, none⟩))) fun x17 =>
 Gt (faV 0 x17) fun x18 =>
 Gt (rdv x18 H2) fun x19 =>
 Gt (lnV x19) fun x20 =>
 Lp fun (I1 : Value → Heap → Prop) (M1 : Value → Heap → Nat) => I1 (.int .i64 0) H2 ∧ ∀ (H3 : Heap) (x21 : Value), I1 x21 H3 →
 Gt (binI .lss x21 x20) fun x22 =>
 If x22
 (Gt (ncV tb (.pointer (some ⟨b15, 0, none⟩))) fun x25 =>
 Gt (faV 0 x25) fun x26 =>
 Gt (rdv x26 H3) fun x27 =>
 Ca Tryz.prog 72 [] H3 (fun x29 H4 =>
 Sm (rdv x26 H4) x27 <|
 Gt (iaV 5 x27 x21) fun x30 =>
 Gt (faV 0 x30) fun x31 =>
 Gt (stV 1 x31 x29 H4) fun H5 =>
 Gt (binI .add x21 (.int .i64 1)) fun x32 =>
 I1 x32 H5 ∧ Nat.lt (M1 x32 H5) (M1 x21 H3)) X)
 (R (.tuple #[(.pointer (some ⟨b15, 0, none⟩)), (.int .i64 0)]) H3))
theorem l39 (h : i39 x0 H R X) : Runs Tryz.prog 39 [x0] H R X := runs_e tbOk mixed Tryz.func39 (A := [(122, [21])]) (by kernel_rfl) h

-- cloister/cloisterref21.Empty
def i40 (x0 x1 : Value) (H : Heap) (R : Value → Heap → Prop) (X : List PanicEntry → Heap → Prop) : Prop :=
 Nw (.cells x0.cells 26 (0, 0)) H fun b2 H1 =>
 Nw (.cells z35.cells 35 (0, 0)) H1 fun b4 H2 =>
 Gt (rda 3 (.pointer (some ⟨b2, 0, none⟩)) H2) fun x5 =>
 Gt (faV 0 (.pointer (some ⟨b2, 0, none⟩))) fun x7 =>
 Gt (rdv x7 H2) fun x8 =>
 Gt (lnV x8) fun x9 =>
 Gt (mkV 24 x9 x9) fun m10 =>
 Nw (.cells (mkC 1 z58 m10.2) 58 (0, 0)) H2 fun b10_1 H3 =>
 Gt (bdV z35 [(0, 3), (3, 1), (4, 1), (5, 1)] [(0, x5), (1, x1), (2, (.slice (some ⟨b10_1, 0, none⟩) m10.1 m10.2))]) fun x11 =>
 Gt (stV 6 (.pointer (some ⟨b4, 0, none⟩)) x11 H3) fun H4 =>
 Gt (rda 6 (.pointer (some ⟨b4, 0, none⟩)) H4) fun u1 =>
 R u1 H4
theorem l40 (h : i40 x0 x1 H R X) : Runs Tryz.prog 40 [x0, x1] H R X := runs_e tbOk mixed Tryz.func40 (A := []) (by kernel_rfl) h

-- (*cloister/cell.Cell).may
def i46 (x0 x1 x2 : Value) (H : Heap) (R : Value → Heap → Prop) (X : List PanicEntry → Heap → Prop) : Prop :=
 Jo (fun (I1 : Value → Heap → Prop) => ∀ (H1 : Heap) (x35 : Value), I1 x35 H1 →
 If x35
 (R (.bool false) H1)
 (Gt (lnV x2) fun x37_3 =>
 Gt (ncV tb x0) fun x39_3 =>
 Gt (faV 0 x39_3) fun x40_3 =>
 Gt (faV 0 x40_3) fun x41_3 =>
 Gt (rdv x41_3 H1) fun x42_3 =>
 Gt (lnV x42_3) fun x43_3 =>
 Gt (binI .neq x37_3 x43_3) fun x44_3 =>
 Gt (ifO x44_3 ((some (.bool true))) ((ncV tb x0).bind fun x48_3 =>
 (faV 3 x48_3).bind fun x49_3 =>
 (rdv x49_3 H1).bind fun x50_3 =>
 (iaV 1 x2 x50_3).bind fun x51_3 =>
 (rdv x51_3 H1).bind fun x52_3 =>
 ((ptrEq 10 x52_3 x0 H1).map fun t => Value.bool !t).bind fun x54_3 =>
 (some x54_3))) fun x55_3 =>
 If x55_3
 (R (.bool false) H1)
 (Gt (ncV tb x0) fun x57_3 =>
 Gt (faV 4 x57_3) fun x58_3 =>
 Gt (rdv x58_3 H1) fun x59_3 =>
 Gt (lnV x59_3) fun x60_3 =>
 Lp fun (I2 : Value → Heap → Prop) (M2 : Value → Heap → Nat) => I2 (.int .i64 0) H1 ∧ ∀ (H2 : Heap) (x61_3 : Value), I2 x61_3 H2 →
 Gt (binI .lss x61_3 x60_3) fun x62_3 =>
 If x62_3
 (Gt (iaV 1 x59_3 x61_3) fun x63_3 =>
 Gt (rdv x63_3 H2) fun x64_3 =>
 Gt (iaV 1 x2 x64_3) fun x67_3 =>
 Gt (rdv x67_3 H2) fun x68_3 =>
 Gt ((ptrEq 10 x68_3 (.pointer none) H2).map Value.bool) fun x69_3 =>
 If x69_3
 (R (.bool false) H2)
 (Gt (binI .add x61_3 (.int .i64 1)) fun x70_3 =>
 I2 x70_3 H2 ∧ Nat.lt (M2 x70_3 H2) (M2 x61_3 H2)))
 (R (.bool true) H2)))) fun (I1 : Value → Heap → Prop) =>
 Gt (binI .lss x1 (.int .i64 0)) fun x10 =>
 If x10 (I1 (.bool true) H) (Gt (ncV tb x0) fun x14 =>
 Gt (faV 0 x14) fun x15 =>
 Gt (faV 2 x15) fun x16 =>
 Gt (rdv x16 H) fun x17 =>
 Gt (lnV x17) fun x18 =>
 Gt (binI .geq x1 x18) fun x19 =>
 If x19 (I1 (.bool true) H) (Gt (ncV tb x0) fun x23 =>
 Gt (faV 0 x23) fun x24 =>
 Gt (faV 2 x24) fun x25 =>
 Gt (rdv x25 H) fun x26 =>
 Gt (iaV 1 x26 x1) fun x28 =>
 Gt (rdv x28 H) fun x29 =>
 Gt (ncV tb x0) fun x31 =>
 Gt (faV 3 x31) fun x32 =>
 Gt (rdv x32 H) fun x33 =>
 Gt (binI .neq x29 x33) fun x34 =>
 I1 x34 H))
theorem l46 (h : i46 x0 x1 x2 H R X) : Runs Tryz.prog 46 [x0, x1, x2] H R X := runs_e tbOk mixed Tryz.func46 (A := [(12, [35]), (122, [61])]) (by kernel_rfl) h

-- (*cloister/cell.Cell).answer
def i47 (x0 x1 : Value) (H : Heap) (R : Value → Heap → Prop) (X : List PanicEntry → Heap → Prop) : Prop :=
 Nw (.cells x1.cells 121 (0, 0)) H fun b3 H1 =>
 Nw (.cells z67.cells 67 (0, 0)) H1 fun b4 H2 =>
 Gt (faV 1 (.pointer (some ⟨b3, 0, none⟩))) fun x9 =>
 Gt (rda 8 x9 H2) fun x10 =>
 Nw (.cells z47.cells 47 (0, 0)) H2 fun b6 H3 =>
 Gt (stV 8 (.pointer (some ⟨b6, 0, none⟩)) x10 H3) fun H4 =>
 Gt (faV 0 (.pointer (some ⟨b6, 0, none⟩))) fun x12 =>
 Gt (rdv x12 H4) fun x13 =>
 Gt (binI .eql x13 (.int .i64 1)) fun x14 =>
 If x14
 (Gt (rda 11 (.pointer (some ⟨b3, 0, none⟩)) H4) fun x16 =>
 Ca Tryz.prog 81 [x0, x16] H4 (fun x17 H5 =>
 Gt (stV 10 (.pointer (some ⟨b4, 0, none⟩)) x17 H5) fun H6 =>
 Gt (rda 10 (.pointer (some ⟨b4, 0, none⟩)) H6) fun u1 =>
 R (.tuple #[u1, (.int .i64 0)]) H6) X)
 (Gt (faV 0 (.pointer (some ⟨b6, 0, none⟩))) fun x19 =>
 Gt (rdv x19 H4) fun x20 =>
 Gt (binI .lss x20 (.int .i64 1)) fun x21 =>
 Gt (ifO x21 ((some (.bool true))) ((faV 0 (.pointer (some ⟨b6, 0, none⟩))).bind fun x23 =>
 (rdv x23 H4).bind fun x24 =>
 (binI .gtr x24 (.int .i64 7)).bind fun x25 =>
 (some x25))) fun x26 =>
 If x26
 (Ca Tryz.prog 82 [(.int .i64 210)] H4 (fun x27 H7 =>
 Gt (stV 10 (.pointer (some ⟨b4, 0, none⟩)) x27 H7) fun H8 =>
 Gt (rda 10 (.pointer (some ⟨b4, 0, none⟩)) H8) fun u2 =>
 R (.tuple #[u2, (.int .i64 0)]) H8) X)
 (Gt (ncV tb x0) fun x30 =>
 Gt (faV 9 x30) fun x31 =>
 Gt (rdv x31 H4) fun x32 =>
 Gt (faV 0 (.pointer (some ⟨b3, 0, none⟩))) fun x33 =>
 Gt (rdv x33 H4) fun x34 =>
 Gt (faV 1 (.pointer (some ⟨b6, 0, none⟩))) fun x35 =>
 Gt (rda 2 x35 H4) fun x36 =>
 Ca Tryz.prog 83 [x32, x34, x36] H4 (fun x37 H9 =>
 Gt (exV 0 x37) fun x38 =>
 Gt (exV 1 x37) fun x39 =>
 Gt (binI .neq x39 (.int .i64 0)) fun x41 =>
 If x41
 (Ca Tryz.prog 82 [x39] H9 (fun x43 H10 =>
 Gt (stV 10 (.pointer (some ⟨b4, 0, none⟩)) x43 H10) fun H11 =>
 Gt (rda 10 (.pointer (some ⟨b4, 0, none⟩)) H11) fun u3 =>
 R (.tuple #[u3, (.int .i64 0)]) H11) X)
 (Gt (faV 9 (.pointer (some ⟨b3, 0, none⟩))) fun x45 =>
 Gt (stV 1 x45 x38 H9) fun H12 =>
 Gt (faV 0 (.pointer (some ⟨b6, 0, none⟩))) fun x47 =>
 Gt (rdv x47 H12) fun x48 =>
 Gt (rda 11 (.pointer (some ⟨b3, 0, none⟩)) H12) fun x52 =>
 Ca Tryz.prog 84 [] H12 (fun x46 H13 =>
 Sm (rda 11 (.pointer (some ⟨b3, 0, none⟩)) H13) x52 <|
 Sm (rdv x47 H13) x48 <|
 Gt (iaV 1 x46 x48) fun x49 =>
 Gt (rdv x49 H13) fun x50 =>
 Cv Tryz.prog tb x50 [x0, x52] H13 (fun x53 H14 =>
 Gt (exV 0 x53) fun x54 =>
 Gt (exV 1 x53) fun x55 =>
 Gt (stV 10 (.pointer (some ⟨b4, 0, none⟩)) x54 H14) fun H15 =>
 Gt (rda 10 (.pointer (some ⟨b4, 0, none⟩)) H15) fun u4 =>
 R (.tuple #[u4, x55]) H15) X) X)) X))
theorem l47 (h : i47 x0 x1 H R X) : Runs Tryz.prog 47 [x0, x1] H R X := runs_e tbOk mixed Tryz.func47 (A := []) (by kernel_rfl) h

-- (*cloister/wal.Log).Bounds
def i48 (x0 : Value) (H : Heap) (R : Value → Heap → Prop) (X : List PanicEntry → Heap → Prop) : Prop :=
 Gt ((ptrEq 2 x0 (.pointer none) H).map Value.bool) fun x10 =>
 If x10
 (R (.tuple #[(.int .i64 0), (.int .i64 0), (.int .i64 0)]) H)
 (Gt (ncV tb x0) fun x13 =>
 Gt (faV 0 x13) fun x14 =>
 Gt (rdv x14 H) fun x15 =>
 Gt (ncV tb x0) fun x17 =>
 Gt (faV 1 x17) fun x18 =>
 Gt (rdv x18 H) fun x19 =>
 Ca Tryz.prog 85 [x15, x19] H (fun x20 H1 =>
 Gt (exV 0 x20) fun x21 =>
 Gt (exV 1 x20) fun x22 =>
 Gt (exV 2 x20) fun x23 =>
 Gt (exV 3 x20) fun x24 =>
 R (.tuple #[x21, x22, x23]) H1) X)
theorem l48 (h : i48 x0 H R X) : Runs Tryz.prog 48 [x0] H R X := runs_e tbOk mixed Tryz.func48 (A := []) (by kernel_rfl) h

-- (*cloister/wal.Log).Write
def i49 (x0 x1 : Value) (H : Heap) (R : Value → Heap → Prop) (X : List PanicEntry → Heap → Prop) : Prop :=
 Gt ((ptrEq 2 x0 (.pointer none) H).map Value.bool) fun x12 =>
 If x12
 (R (.int .i64 1) H)
 (Gt (lnV x1) fun x14 =>
 Lp fun (I1 : Value → Heap → Prop) (M1 : Value → Heap → Nat) => I1 (.int .i64 0) H ∧ ∀ (H1 : Heap) (x15 : Value), I1 x15 H1 →
 Gt (binI .lss x15 x14) fun x16 =>
 If x16
 (Gt (iaV 6 x1 x15) fun x17 =>
 Gt (rda 6 x17 H1) fun x18 =>
 Nw (.cells z182.cells 182 (0, 0)) H1 fun b6 H2 =>
 Gt (stV 6 (.pointer (some ⟨b6, 0, none⟩)) x18 H2) fun H3 =>
 Gt (rda 6 (.pointer (some ⟨b6, 0, none⟩)) H3) fun x20 =>
 Ca Tryz.prog 86 [x20] H3 (fun x21 H4 =>
 Gt (exV 0 x21) fun x22 =>
 Gt (exV 1 x21) fun x23 =>
 Gt (binI .neq x23 (.int .i64 0)) fun x25 =>
 If x25
 (R x23 H4)
 (Ca Tryz.prog 87 [x22] H4 (fun x29 H5 =>
 Gt (exV 0 x29) fun x30 =>
 Gt (exV 1 x29) fun x31 =>
 Gt (binI .neq x31 (.int .i64 0)) fun x33 =>
 If x33
 (R x31 H5)
 (Gt (ncV tb x0) fun x36 =>
 Gt (faV 0 x36) fun x37 =>
 Gt (rdv x37 H5) fun x38 =>
 Gt (ncV tb x0) fun x40 =>
 Gt (faV 1 x40) fun x41 =>
 Gt (rdv x41 H5) fun x42 =>
 Ca Tryz.prog 88 [x38, x42, x30] H5 (fun x44 H6 =>
 Gt (binI .neq x44 (.int .i64 0)) fun x46 =>
 If x46
 (R x44 H6)
 (Gt (binI .add x15 (.int .i64 1)) fun x48 =>
 I1 x48 H6 ∧ Nat.lt (M1 x48 H6) (M1 x15 H1))) X)) X)) X)
 (R (.int .i64 0) H1))
theorem l49 (h : i49 x0 x1 H R X) : Runs Tryz.prog 49 [x0, x1] H R X := runs_e tbOk mixed Tryz.func49 (A := [(58, [15])]) (by kernel_rfl) h

-- (*cloister/wal.Log).Sync
def i51 (x0 : Value) (H : Heap) (R : Value → Heap → Prop) (X : List PanicEntry → Heap → Prop) : Prop :=
 Gt ((ptrEq 2 x0 (.pointer none) H).map Value.bool) fun x4 =>
 If x4
 (R (.int .i64 1) H)
 (Gt (ncV tb x0) fun x6 =>
 Gt (faV 0 x6) fun x7 =>
 Gt (rdv x7 H) fun x8 =>
 Gt (ncV tb x0) fun x10 =>
 Gt (faV 1 x10) fun x11 =>
 Gt (rdv x11 H) fun x12 =>
 Ca Tryz.prog 91 [x8, x12] H (fun x13 H1 =>
 R x13 H1) X)
theorem l51 (h : i51 x0 H R X) : Runs Tryz.prog 51 [x0] H R X := runs_e tbOk mixed Tryz.func51 (A := []) (by kernel_rfl) h

-- (*cloister/quota.Account).Used
def i54 (x0 : Value) (H : Heap) (R : Value → Heap → Prop) (X : List PanicEntry → Heap → Prop) : Prop :=
 Gt ((ptrEq 5 x0 (.pointer none) H).map Value.bool) fun x4 =>
 If x4
 (R (.int .i64 0) H)
 (Gt (ncV tb x0) fun x6 =>
 Gt (faV 2 x6) fun x7 =>
 Gt (rdv x7 H) fun x8 =>
 Gt (ncV tb x0) fun x10 =>
 Gt (faV 3 x10) fun x11 =>
 Gt (rdv x11 H) fun x12 =>
 Gt (binI .add x8 x12) fun x13 =>
 R x13 H)
theorem l54 (h : i54 x0 H R X) : Runs Tryz.prog 54 [x0] H R X := runs_e tbOk mixed Tryz.func54 (A := []) (by kernel_rfl) h

-- (*cloister/quota.Account).Open
def i55 (x0 : Value) (H : Heap) (R : Value → Heap → Prop) (X : List PanicEntry → Heap → Prop) : Prop :=
 Gt ((ptrEq 5 x0 (.pointer none) H).map Value.bool) fun x4 =>
 If x4
 (R (.int .i64 0) H)
 (Gt (ncV tb x0) fun x6 =>
 Gt (faV 4 x6) fun x7 =>
 Gt (rdv x7 H) fun x8 =>
 R x8 H)
theorem l55 (h : i55 x0 H R X) : Runs Tryz.prog 55 [x0] H R X := runs_e tbOk mixed Tryz.func55 (A := []) (by kernel_rfl) h

-- (*cloister/cell.Cell).Scan$1
def i56 (x0 : Value) (H : Heap) (R : Value → Heap → Prop) (X : List PanicEntry → Heap → Prop) : Prop :=
 R (.tuple #[]) H
theorem l56 (h : i56 x0 H R X) : Runs Tryz.prog 56 [x0] H R X := runs_e tbOk mixed Tryz.func56 (A := []) (by kernel_rfl) h

-- cloister/cloisterref21.SameResponse
def i59 (x0 x1 : Value) (H : Heap) (R : Value → Heap → Prop) (X : List PanicEntry → Heap → Prop) : Prop :=
 Nw (.cells x0.cells 67 (0, 0)) H fun b2 H1 =>
 Nw (.cells x1.cells 67 (0, 0)) H1 fun b3 H2 =>
 Gt (faV 0 (.pointer (some ⟨b2, 0, none⟩))) fun x5 =>
 Gt (rdv x5 H2) fun x6 =>
 Gt (faV 0 (.pointer (some ⟨b3, 0, none⟩))) fun x7 =>
 Gt (rdv x7 H2) fun x8 =>
 Gt (binI .neq x6 x8) fun x9 =>
 Gt (ifO x9 ((some (.bool true))) ((faV 1 (.pointer (some ⟨b2, 0, none⟩))).bind fun x11 =>
 (rdv x11 H2).bind fun x12 =>
 (faV 1 (.pointer (some ⟨b3, 0, none⟩))).bind fun x13 =>
 (rdv x13 H2).bind fun x14 =>
 (binI .neq x12 x14).bind fun x15 =>
 (some x15))) fun x16 =>
 Gt (ifO x16 ((some (.bool true))) ((faV 2 (.pointer (some ⟨b2, 0, none⟩))).bind fun x18 =>
 (rdv x18 H2).bind fun x19 =>
 (faV 2 (.pointer (some ⟨b3, 0, none⟩))).bind fun x20 =>
 (rdv x20 H2).bind fun x21 =>
 (binI .neq x19 x21).bind fun x22 =>
 (some x22))) fun x23 =>
 Gt (ifO x23 ((some (.bool true))) ((faV 3 (.pointer (some ⟨b2, 0, none⟩))).bind fun x25 =>
 (rda 2 x25 H2).bind fun x26 =>
 (faV 3 (.pointer (some ⟨b3, 0, none⟩))).bind fun x27 =>
 (rda 2 x27 H2).bind fun x28 =>
 ((pairV x26 x28).map fun t => Value.bool !t).bind fun x29 =>
 (some x29))) fun x30 =>
 Gt (ifO x30 ((some (.bool true))) ((faV 5 (.pointer (some ⟨b2, 0, none⟩))).bind fun x32 =>
 (rdv x32 H2).bind fun x33 =>
 (faV 5 (.pointer (some ⟨b3, 0, none⟩))).bind fun x34 =>
 (rdv x34 H2).bind fun x35 =>
 ((nilEq .bool x33 x35).map fun t => Value.bool !t).bind fun x36 =>
 (some x36))) fun x37 =>
 If x37
 (R (.bool false) H2)
 (Gt (faV 6 (.pointer (some ⟨b2, 0, none⟩))) fun x38 =>
 Gt (rdv x38 H2) fun x39 =>
 Gt (bsS x39 H2) fun x40 =>
 Gt (faV 6 (.pointer (some ⟨b3, 0, none⟩))) fun x41 =>
 Gt (rdv x41 H2) fun x42 =>
 Gt (bsS x42 H2) fun x43 =>
 Gt (binS .eql x40 x43) fun x44 =>
 If x44 (Gt (faV 7 (.pointer (some ⟨b2, 0, none⟩))) fun x46 =>
 Gt (rdv x46 H2) fun x47 =>
 Gt (faV 7 (.pointer (some ⟨b3, 0, none⟩))) fun x48 =>
 Gt (rdv x48 H2) fun x49 =>
 Ca Tryz.prog 77 [x47, x49] H2 (fun x50 H3 =>
 Gt (ifO x50 ((faV 8 (.pointer (some ⟨b2, 0, none⟩))).bind fun x53 =>
 (rdv x53 H3).bind fun x54 =>
 (faV 8 (.pointer (some ⟨b3, 0, none⟩))).bind fun x55 =>
 (rdv x55 H3).bind fun x56 =>
 ((nilEq .bool x54 x56).map Value.bool).bind fun x57 =>
 (some x57)) ((some (.bool false)))) fun x58 =>
 Gt (ifO x58 ((faV 9 (.pointer (some ⟨b2, 0, none⟩))).bind fun x60 =>
 (rdv x60 H3).bind fun x61 =>
 (faV 9 (.pointer (some ⟨b3, 0, none⟩))).bind fun x62 =>
 (rdv x62 H3).bind fun x63 =>
 (binI .eql x61 x63).bind fun x64 =>
 (some x64)) ((some (.bool false)))) fun x65 =>
 R x65 H3) X) (R (.bool false) H2))
theorem l59 (h : i59 x0 x1 H R X) : Runs Tryz.prog 59 [x0, x1] H R X := runs_e tbOk mixed Tryz.func59 (A := []) (by kernel_rfl) h

-- (*cloister/stamp.Clock).Now
def i60 (x0 : Value) (H : Heap) (R : Value → Heap → Prop) (X : List PanicEntry → Heap → Prop) : Prop :=
 Gt ((ptrEq 2 x0 (.pointer none) H).map Value.bool) fun x4 =>
 If x4
 (R (.int .i64 0) H)
 (Gt (ncV tb x0) fun x6 =>
 Gt (faV 0 x6) fun x7 =>
 Gt (rdv x7 H) fun x8 =>
 R x8 H)
theorem l60 (h : i60 x0 H R X) : Runs Tryz.prog 60 [x0] H R X := runs_e tbOk mixed Tryz.func60 (A := []) (by kernel_rfl) h

-- (*cloister/stamp.Clock).Horizon
def i61 (x0 : Value) (H : Heap) (R : Value → Heap → Prop) (X : List PanicEntry → Heap → Prop) : Prop :=
 Gt ((ptrEq 2 x0 (.pointer none) H).map Value.bool) fun x4 =>
 If x4
 (R (.int .i64 0) H)
 (Gt (ncV tb x0) fun x6 =>
 Gt (faV 0 x6) fun x7 =>
 Gt (rdv x7 H) fun x8 =>
 Gt (ncV tb x0) fun x10 =>
 Gt (faV 1 x10) fun x11 =>
 Gt (rdv x11 H) fun x12 =>
 Gt (binI .sub x8 x12) fun x13 =>
 R x13 H)
theorem l61 (h : i61 x0 H R X) : Runs Tryz.prog 61 [x0] H R X := runs_e tbOk mixed Tryz.func61 (A := []) (by kernel_rfl) h

-- cloister/cell.Open
def i64 (x0 x1 x2 x3 : Value) (H : Heap) (R : Value → Heap → Prop) (X : List PanicEntry → Heap → Prop) : Prop :=
 Nw (.cells x0.cells 26 (0, 0)) H fun b4 H1 =>
 Jo (fun (I1 : Heap → Prop) => ∀ (H4 : Heap), I1 H4 →
 Gt (rda 3 (.pointer (some ⟨b4, 0, none⟩)) H4) fun x45_4 =>
 Gt (faV 0 (.pointer (some ⟨b4, 0, none⟩))) fun x48_4 =>
 Gt (rdv x48_4 H4) fun x49_4 =>
 Gt (faV 0 (.pointer (some ⟨b4, 0, none⟩))) fun x50_4 =>
 Gt (rdv x50_4 H4) fun x51_4 =>
 Gt (iaV 1 x51_4 x1) fun x53_4 =>
 Gt (rdv x53_4 H4) fun x54_4 =>
 Ca Tryz.prog 102 [x45_4] H4 (fun x46_4 H5 =>
 Sm (rdv x53_4 H5) x54_4 <|
 Sm (rdv x50_4 H5) x51_4 <|
 Sm (rdv x48_4 H5) x49_4 <|
 Ca Tryz.prog 103 [x49_4, x54_4] H5 (fun x55_4 H6 =>
 Gt (bdV z116 [(0, 3), (3, 1), (4, 1), (5, 1), (6, 1), (7, 1), (8, 1), (9, 1)] [(0, x46_4), (1, x1), (2, x55_4)]) fun x56_4 =>
 Nw (.cells x56_4.cells 116 (0, 0)) H6 fun b57_4 H7 =>
 Gt (faV 1 (.pointer (some ⟨b4, 0, none⟩))) fun x58_4 =>
 Gt (rdv x58_4 H7) fun x59_4 =>
 Gt (iaV 5 x59_4 x1) fun x61_4 =>
 Gt (rda 5 x61_4 H7) fun x62_4 =>
 Nw (.cells z104.cells 104 (0, 0)) H7 fun b11_4 H8 =>
 Gt (stV 5 (.pointer (some ⟨b11_4, 0, none⟩)) x62_4 H8) fun H9 =>
 Ca Tryz.prog 104 [x3, x1] H9 (fun x67_4 H10 =>
 Gt (exV 0 x67_4) fun x68_4 =>
 Gt (exV 1 x67_4) fun x69_4 =>
 Gt (ncV tb (.pointer (some ⟨b57_4, 0, none⟩))) fun x70_4 =>
 Gt (faV 8 x70_4) fun x71_4 =>
 Gt (stV 1 x71_4 x68_4 H10) fun H11 =>
 Gt (ncV tb (.pointer (some ⟨b57_4, 0, none⟩))) fun x74_4 =>
 Gt (faV 8 x74_4) fun x75_4 =>
 Gt (rdv x75_4 H11) fun x76_4 =>
 Gt (faV 4 (.pointer (some ⟨b11_4, 0, none⟩))) fun x77_4 =>
 Gt (rdv x77_4 H11) fun x78_4 =>
 Ca Tryz.prog 105 [x76_4, x78_4] H11 (fun x79_4 H12 =>
 Gt (exV 0 x79_4) fun x80_4 =>
 Gt (exV 1 x79_4) fun x81_4 =>
 Gt (exV 2 x79_4) fun x82_4 =>
 Gt (binI .neq x82_4 (.int .i64 0)) fun x84_4 =>
 If x84_4
 (R (.tuple #[(.pointer none), x82_4]) H12)
 (Gt (ncV tb (.pointer (some ⟨b57_4, 0, none⟩))) fun x88_4 =>
 Gt (faV 5 x88_4) fun x89_4 =>
 Gt (stV 1 x89_4 x80_4 H12) fun H13 =>
 Gt (faV 4 (.pointer (some ⟨b11_4, 0, none⟩))) fun x92_4 =>
 Gt (rdv x92_4 H13) fun x93_4 =>
 Gt (faV 3 (.pointer (some ⟨b11_4, 0, none⟩))) fun x94_4 =>
 Gt (rdv x94_4 H13) fun x95_4 =>
 Ca Tryz.prog 106 [x93_4, x95_4] H13 (fun x96_4 H14 =>
 Gt (exV 0 x96_4) fun x97_4 =>
 Gt (exV 1 x96_4) fun x98_4 =>
 Gt (ncV tb (.pointer (some ⟨b57_4, 0, none⟩))) fun x99_4 =>
 Gt (faV 6 x99_4) fun x100_4 =>
 Gt (stV 1 x100_4 x97_4 H14) fun H15 =>
 Gt (rda 5 (.pointer (some ⟨b11_4, 0, none⟩)) H15) fun x103_4 =>
 Ca Tryz.prog 107 [x103_4] H15 (fun x104_4 H16 =>
 Gt (exV 0 x104_4) fun x105_4 =>
 Gt (exV 1 x104_4) fun x106_4 =>
 Gt (ncV tb (.pointer (some ⟨b57_4, 0, none⟩))) fun x107_4 =>
 Gt (faV 7 x107_4) fun x108_4 =>
 Gt (stV 1 x108_4 x105_4 H16) fun H17 =>
 Gt (faV 2 (.pointer (some ⟨b4, 0, none⟩))) fun x111_4 =>
 Gt (rdv x111_4 H17) fun x112_4 =>
 Gt (lnV x112_4) fun x113_4 =>
 Ca Tryz.prog 108 [x113_4, x2] H17 (fun x115_4 H18 =>
 Gt (exV 0 x115_4) fun x116_4 =>
 Gt (exV 1 x115_4) fun x117_4 =>
 Gt (ncV tb (.pointer (some ⟨b57_4, 0, none⟩))) fun x118_4 =>
 Gt (faV 9 x118_4) fun x119_4 =>
 Gt (stV 1 x119_4 x116_4 H18) fun H19 =>
 Gt (ncV tb (.pointer (some ⟨b57_4, 0, none⟩))) fun x121_4 =>
 Gt (faV 6 x121_4) fun x122_4 =>
 Gt (rdv x122_4 H19) fun x123_4 =>
 Ca Tryz.prog 109 [x123_4, x81_4] H19 (fun x125_4 H20 =>
 Gt (binI .neq x125_4 (.int .i64 0)) fun x127_4 =>
 If x127_4
 (R (.tuple #[(.pointer none), x125_4]) H20)
 (Gt (ncV tb (.pointer (some ⟨b57_4, 0, none⟩))) fun x130_4 =>
 Gt (faV 7 x130_4) fun x131_4 =>
 Gt (rdv x131_4 H20) fun x132_4 =>
 Ca Tryz.prog 111 [x80_4] H20 (fun x134_4 H21 =>
 Sm (rdv x131_4 H21) x132_4 <|
 Ca Tryz.prog 110 [x132_4, x134_4] H21 (fun x135_4 H22 =>
 Gt (binI .neq x135_4 (.int .i64 0)) fun x137_4 =>
 If x137_4
 (R (.tuple #[(.pointer none), x135_4]) H22)
 (R (.tuple #[(.pointer (some ⟨b57_4, 0, none⟩)), (.int .i64 0)]) H22)) X) X)) X) X) X) X)) X) X) X) X) fun (I1 : Heap → Prop) =>
 Gt ((ptrEq 2 x3 (.pointer none) H1).map Value.bool) fun x19 =>
 If x19
 (R (.tuple #[(.pointer none), (.int .i64 1)]) H1)
 (Gt (rda 3 (.pointer (some ⟨b4, 0, none⟩)) H1) fun x21 =>
 Ca Tryz.prog 100 [x21] H1 (fun x22 H2 =>
 Gt (unV .not x22) fun x23 =>
 If x23
 (If x23
 (R (.tuple #[(.pointer none), (.int .i64 2)]) H2)
 (I1 H2))
 (Gt (binI .lss x1 (.int .i64 0)) fun x25 =>
 Gt (ifO x25 ((some (.bool true))) ((faV 0 (.pointer (some ⟨b4, 0, none⟩))).bind fun x28 =>
 (rdv x28 H2).bind fun x29 =>
 (lnV x29).bind fun x30 =>
 (binI .geq x1 x30).bind fun x31 =>
 (some x31))) fun x32 =>
 If x32
 (If x32
 (R (.tuple #[(.pointer none), (.int .i64 2)]) H2)
 (I1 H2))
 (Gt (binI .lss x2 (.int .i64 1)) fun x34 =>
 Gt (ifO x34 ((some (.bool true))) ((binI .gtr x2 (.int .i64 4611686018427387904)).bind fun x37 =>
 (some x37))) fun x38 =>
 If x38
 (If x38
 (R (.tuple #[(.pointer none), (.int .i64 2)]) H2)
 (I1 H2))
 (Gt (faV 0 (.pointer (some ⟨b4, 0, none⟩))) fun x41 =>
 Gt (rdv x41 H2) fun x42 =>
 Gt (lnV x42) fun x43 =>
 Ca Tryz.prog 101 [x3] H2 (fun x40 H3 =>
 Sm (rdv x41 H3) x42 <|
 Gt (binI .neq x40 x43) fun x44 =>
 If x44
 (R (.tuple #[(.pointer none), (.int .i64 2)]) H3)
 (I1 H3)) X)))) X)
theorem l64 (h : i64 x0 x1 x2 x3 H R X) : Runs Tryz.prog 64 [x0, x1, x2, x3] H R X := runs_e tbOk mixed Tryz.func64 (A := [(6, [])]) (by kernel_rfl) h

-- cloister/area.New
def i72 (H : Heap) (R : Value → Heap → Prop) (X : List PanicEntry → Heap → Prop) : Prop :=
 Gt (bdV z207 [(0, 1), (1, 1), (2, 1)] []) fun x1 =>
 Nw (.cells x1.cells 207 (0, 0)) H fun b2 H1 =>
 R (.pointer (some ⟨b2, 0, none⟩)) H1
theorem l72 (h : i72 H R X) : Runs Tryz.prog 72 [] H R X := runs_e tbOk mixed Tryz.func72 (A := []) (by kernel_rfl) h

-- cloister/cloisterref21.SamePairs
def i77 (x0 x1 : Value) (H : Heap) (R : Value → Heap → Prop) (X : List PanicEntry → Heap → Prop) : Prop :=
 Gt (lnV x0) fun x7 =>
 Gt (lnV x1) fun x9 =>
 Gt (binI .neq x7 x9) fun x10 =>
 If x10
 (R (.bool false) H)
 (Lp fun (I1 : Value → Heap → Prop) (M1 : Value → Heap → Nat) => I1 (.int .i64 0) H ∧ ∀ (H1 : Heap) (x5 : Value), I1 x5 H1 →
 Gt (lnV x0) fun x13 =>
 Gt (binI .lss x5 x13) fun x14 =>
 If x14
 (Gt (iaV 2 x0 x5) fun x19 =>
 Gt (faV 0 x19) fun x20 =>
 Gt (rdv x20 H1) fun x21 =>
 Gt (iaV 2 x1 x5) fun x24 =>
 Gt (faV 0 x24) fun x25 =>
 Gt (rdv x25 H1) fun x26 =>
 Gt (binS .neq x21 x26) fun x27 =>
 If x27 (If (.bool true)
 (R (.bool false) H1)
 (Gt (binI .add x5 (.int .i64 1)) fun x16 =>
 I1 x16 H1 ∧ Nat.lt (M1 x16 H1) (M1 x5 H1))) (Gt (iaV 2 x0 x5) fun x31 =>
 Gt (faV 1 x31) fun x32 =>
 Gt (rdv x32 H1) fun x33 =>
 Gt (bsS x33 H1) fun x34 =>
 Gt (iaV 2 x1 x5) fun x37 =>
 Gt (faV 1 x37) fun x38 =>
 Gt (rdv x38 H1) fun x39 =>
 Gt (bsS x39 H1) fun x40 =>
 Gt (binS .neq x34 x40) fun x41 =>
 If x41
 (R (.bool false) H1)
 (Gt (binI .add x5 (.int .i64 1)) fun x16_1 =>
 I1 x16_1 H1 ∧ Nat.lt (M1 x16_1 H1) (M1 x5 H1))))
 (R (.bool true) H1))
theorem l77 (h : i77 x0 x1 H R X) : Runs Tryz.prog 77 [x0, x1] H R X := runs_e tbOk mixed Tryz.func77 (A := [(58, [5])]) (by kernel_rfl) h

-- (*cloister/cell.Cell).begin
def i81 (x0 x1 : Value) (H : Heap) (R : Value → Heap → Prop) (X : List PanicEntry → Heap → Prop) : Prop :=
 Nw (.cells x1.cells 121 (0, 0)) H fun b3 H1 =>
 Nw (.cells z67.cells 67 (0, 0)) H1 fun b4 H2 =>
 Gt (ncV tb x0) fun x14 =>
 Gt (faV 7 x14) fun x15 =>
 Gt (rdv x15 H2) fun x16 =>
 Ca Tryz.prog 128 [x16] H2 (fun x17 H3 =>
 Gt (binI .neq x17 (.int .i64 0)) fun x19 =>
 If x19
 (Ca Tryz.prog 82 [x17] H3 (fun x21 H4 =>
 Gt (stV 10 (.pointer (some ⟨b4, 0, none⟩)) x21 H4) fun H5 =>
 Gt (rda 10 (.pointer (some ⟨b4, 0, none⟩)) H5) fun u1 =>
 R u1 H5) X)
 (Gt (faV 10 (.pointer (some ⟨b3, 0, none⟩))) fun x22 =>
 Gt (rdv x22 H3) fun x23 =>
 Gt (lnV x23) fun x24 =>
 Gt (mkV 8 x24 x24) fun m25 =>
 Nw (.cells (mkC 1 z111 m25.2) 111 (0, 0)) H3 fun b25_1 H6 =>
 Gt (ncV tb x0) fun x27 =>
 Gt (faV 4 x27) fun x28 =>
 Gt (rdv x28 H6) fun x29 =>
 Gt (lnV x29) fun x30 =>
 Lp fun (I2 : Value → Heap → Prop) (M2 : Value → Heap → Nat) => I2 (.int .i64 0) H6 ∧ ∀ (H7 : Heap) (x31 : Value), I2 x31 H7 →
 Gt (binI .lss x31 x30) fun x32 =>
 If x32
 (Gt (iaV 1 x29 x31) fun x33 =>
 Gt (rdv x33 H7) fun x34 =>
 Gt (faV 10 (.pointer (some ⟨b3, 0, none⟩))) fun x37 =>
 Gt (rdv x37 H7) fun x38 =>
 Gt (iaV 1 x38 x34) fun x40 =>
 Gt (rdv x40 H7) fun x41 =>
 Gt (ncV tb x41) fun x42 =>
 Gt (faV 6 x42) fun x43 =>
 Gt (rdv x43 H7) fun x44 =>
 Gt (iaV 1 (.slice (some ⟨b25_1, 0, none⟩) m25.1 m25.2) x34) fun x45 =>
 Gt (stV 1 x45 x44 H7) fun H8 =>
 Gt (binI .add x31 (.int .i64 1)) fun x46 =>
 I2 x46 H8 ∧ Nat.lt (M2 x46 H8) (M2 x31 H7))
 (Gt (ncV tb x0) fun x49 =>
 Gt (faV 3 x49) fun x50 =>
 Gt (rdv x50 H7) fun x51 =>
 Gt (ncV tb x0) fun x54 =>
 Gt (faV 4 x54) fun x55 =>
 Gt (rdv x55 H7) fun x56 =>
 Ca Tryz.prog 130 [(.slice (some ⟨b25_1, 0, none⟩) m25.1 m25.2), x56] H7 (fun x57 H9 =>
 Sm (rdv x50 H9) x51 <|
 Ca Tryz.prog 129 [x51, x57] H9 (fun x58 H10 =>
 Gt (exV 0 x58) fun x59 =>
 Gt (exV 1 x58) fun x60 =>
 Jo (fun (I3 : Value → Heap → Prop) => ∀ (H17 : Heap) (x11_2 : Value), I3 x11_2 H17 →
 Gt (rda 2 x11_2 H17) fun x72_2 =>
 Gt (bdV z67 [(0, 1), (1, 1), (2, 1), (3, 2), (5, 1), (6, 1), (7, 1), (8, 1), (9, 1)] [(3, x72_2)]) fun x73_2 =>
 Gt (stV 10 (.pointer (some ⟨b4, 0, none⟩)) x73_2 H17) fun H18 =>
 Gt (rda 10 (.pointer (some ⟨b4, 0, none⟩)) H18) fun u4 =>
 R u4 H18) fun (I3 : Value → Heap → Prop) =>
 Gt (ncV tb x0) fun x63 =>
 Gt (faV 9 x63) fun x64 =>
 Gt (rdv x64 H10) fun x65 =>
 Gt (faV 0 (.pointer (some ⟨b3, 0, none⟩))) fun x66 =>
 Gt (rdv x66 H10) fun x67 =>
 (Ca Tryz.prog 131 [x65, x67, x59] H10 (fun x69 H11 =>
 Gt (exV 0 x69) fun x70 =>
 Gt (exV 1 x69) fun x71 =>
 Nw (.cells z44.cells 44 (0, 0)) H11 fun b11 H12 =>
 Gt (stV 2 (.pointer (some ⟨b11, 0, none⟩)) x70 H12) fun H13 =>
 I3 (.pointer (some ⟨b11, 0, none⟩)) H13) X) ∧
 (Nw (.cells z44.cells 44 (0, 0)) H10 fun b11_1 H14 =>
 Ca Tryz.prog 131 [x65, x67, x59] H14 (fun x69_1 H15 =>
 Gt (exV 0 x69_1) fun x70_1 =>
 Gt (exV 1 x69_1) fun x71_1 =>
 Gt (stV 2 (.pointer (some ⟨b11_1, 0, none⟩)) x70_1 H15) fun H16 =>
 I3 (.pointer (some ⟨b11_1, 0, none⟩)) H16) X)) X) X))) X
theorem l81 (h : i81 x0 x1 H R X) : Runs Tryz.prog 81 [x0, x1] H R X := runs_e tbOk mixed Tryz.func81 (A := [(122, [31]), (126, [11])]) (by kernel_rfl) h

-- cloister/cell.refused
def i82 (x0 : Value) (H : Heap) (R : Value → Heap → Prop) (X : List PanicEntry → Heap → Prop) : Prop :=
 Nw (.cells z67.cells 67 (0, 0)) H fun b2 H1 =>
 Gt (bdV z67 [(0, 1), (1, 1), (2, 1), (3, 2), (5, 1), (6, 1), (7, 1), (8, 1), (9, 1)] [(2, x0)]) fun x4 =>
 Gt (stV 10 (.pointer (some ⟨b2, 0, none⟩)) x4 H1) fun H2 =>
 Gt (rda 10 (.pointer (some ⟨b2, 0, none⟩)) H2) fun u1 =>
 R u1 H2
theorem l82 (h : i82 x0 H R X) : Runs Tryz.prog 82 [x0] H R X := runs_e tbOk mixed Tryz.func82 (A := []) (by kernel_rfl) h

end Go.Proofs.YtdoimhpmnmmffaaGreat

/- The conditions on calls of this program's functions, printed by wip/tools/formulas.py; the kernel checks each against the loaded body. -/
namespace Go.Proofs.YtdoimhpmnmmffaaGreat
open Go
variable {x0 x1 x2 x3 x4 x5 x6 x7 x8 x9 : Value} {H : Heap} {R : Value → Heap → Prop} {X : List PanicEntry → Heap → Prop}

-- (*cloister/table.Table[*cloister/txn.Txn]).Find
def i83 (x0 x1 x2 : Value) (H : Heap) (R : Value → Heap → Prop) (X : List PanicEntry → Heap → Prop) : Prop :=
 Nw (.cells x2.cells 44 (0, 0)) H fun b5 H1 =>
 Jo (fun (I2 : Heap → Prop) => ∀ (H4 : Heap), I2 H4 →
 Gt (ncV tb x0) fun x63_3 =>
 Gt (faV 1 x63_3) fun x64_3 =>
 Gt (rdv x64_3 H4) fun x65_3 =>
 Gt (iaV 1 x65_3 x1) fun x67_3 =>
 Gt (rdv x67_3 H4) fun x68_3 =>
 Gt (faV 1 (.pointer (some ⟨b5, 0, none⟩))) fun x69_3 =>
 Gt (rdv x69_3 H4) fun x70_3 =>
 Gt (lkV (.int .i64) z119 true x68_3 x70_3 H4) fun x71_3 =>
 Gt (exV 0 x71_3) fun x72_3 =>
 Gt (exV 1 x71_3) fun x73_3 =>
 Gt (unV .not x73_3) fun x75_3 =>
 If x75_3
 (R (.tuple #[(.pointer none), (.int .i64 182)]) H4)
 (R (.tuple #[x72_3, (.int .i64 0)]) H4)) fun (I2 : Heap → Prop) =>
 Gt ((ptrEq 3 x0 (.pointer none) H1).map Value.bool) fun x13 =>
 If x13
 (R (.tuple #[(.pointer none), (.int .i64 1)]) H1)
 (Ca Tryz.prog 132 [x0, x1] H1 (fun x18 H2 =>
 Gt (unV .not x18) fun x19 =>
 If x19
 (R (.tuple #[(.pointer none), (.int .i64 2)]) H2)
 (Jo (fun (I1 : Value → Heap → Prop) => ∀ (H3 : Heap) (x21 : Value), I1 x21 H3 →
 If x21
 (R (.tuple #[(.pointer none), (.int .i64 180)]) H3)
 (Gt (faV 0 (.pointer (some ⟨b5, 0, none⟩))) fun x36_2 =>
 Gt (rdv x36_2 H3) fun x37_2 =>
 Gt (ncV tb x0) fun x39_2 =>
 Gt (faV 0 x39_2) fun x40_2 =>
 Gt (rdv x40_2 H3) fun x41_2 =>
 Gt (binI .neq x37_2 x41_2) fun x42_2 =>
 If x42_2 (If (.bool true)
 (R (.tuple #[(.pointer none), (.int .i64 181)]) H3)
 (I2 H3)) (Gt (faV 1 (.pointer (some ⟨b5, 0, none⟩))) fun x44_2 =>
 Gt (rdv x44_2 H3) fun x45_2 =>
 Gt (binI .lss x45_2 (.int .i64 1)) fun x46_2 =>
 If x46_2 (If (.bool true)
 (R (.tuple #[(.pointer none), (.int .i64 181)]) H3)
 (I2 H3)) (Gt (faV 1 (.pointer (some ⟨b5, 0, none⟩))) fun x49_2 =>
 Gt (rdv x49_2 H3) fun x50_2 =>
 Gt (ncV tb x0) fun x52_2 =>
 Gt (faV 2 x52_2) fun x53_2 =>
 Gt (rdv x53_2 H3) fun x54_2 =>
 Gt (iaV 1 x54_2 x1) fun x56_2 =>
 Gt (rdv x56_2 H3) fun x57_2 =>
 Gt (binI .gtr x50_2 x57_2) fun x58_2 =>
 If x58_2
 (R (.tuple #[(.pointer none), (.int .i64 181)]) H3)
 (I2 H3))))) fun (I1 : Value → Heap → Prop) =>
 Gt (faV 0 (.pointer (some ⟨b5, 0, none⟩))) fun x22 =>
 Gt (rdv x22 H2) fun x23 =>
 Gt (binI .geq x23 (.int .i64 1)) fun x24 =>
 If x24 (Gt (faV 0 (.pointer (some ⟨b5, 0, none⟩))) fun x26 =>
 Gt (rdv x26 H2) fun x27 =>
 Gt (ncV tb x0) fun x29 =>
 Gt (faV 0 x29) fun x30 =>
 Gt (rdv x30 H2) fun x31 =>
 Gt (binI .lss x27 x31) fun x32 =>
 I1 x32 H2) (I1 (.bool false) H2))) X)
theorem l83 (h : i83 x0 x1 x2 H R X) : Runs Tryz.prog 83 [x0, x1, x2] H R X := runs_e tbOk mixed Tryz.func83 (A := [(926, [21]), (14, [])]) (by kernel_rfl) h

-- cloister/cell.ways
def i84 (H : Heap) (R : Value → Heap → Prop) (X : List PanicEntry → Heap → Prop) : Prop :=
 Gt (bsV 1 8 z174 [(2, (.func (.func 133) #[] #[])), (3, (.func (.func 134) #[] #[])), (4, (.func (.func 135) #[] #[])), (5, (.func (.func 136) #[] #[])), (6, (.func (.func 137) #[] #[])), (7, (.func (.func 138) #[] #[]))]) fun c1 =>
 Nw (.cells c1.toArray 174 (0, 0)) H fun b1_1 H1 =>
 R (.slice (some ⟨b1_1, 0, none⟩) 8 8) H1
theorem l84 (h : i84 H R X) : Runs Tryz.prog 84 [] H R X := runs_e tbOk mixed Tryz.func84 (A := []) (by kernel_rfl) h

-- (*cloister/disk.Disk).Bounds
def i85 (x0 x1 : Value) (H : Heap) (R : Value → Heap → Prop) (X : List PanicEntry → Heap → Prop) : Prop :=
 Ca Tryz.prog 139 [x0, x1] H (fun x16 H1 =>
 Gt (exV 0 x16) fun x17 =>
 Gt (exV 1 x16) fun x18 =>
 Gt (binI .neq x18 (.int .i64 0)) fun x20 =>
 If x20
 (R (.tuple #[(.int .i64 0), (.int .i64 0), (.int .i64 0), x18]) H1)
 (Gt (ncV tb x17) fun x24 =>
 Gt (faV 0 x24) fun x25 =>
 Gt (rdv x25 H1) fun x26 =>
 Ca Tryz.prog 140 [x26] H1 (fun x27 H2 =>
 Gt (exV 0 x27) fun x28 =>
 Gt (exV 1 x27) fun x29 =>
 Gt (exV 2 x27) fun x30 =>
 R (.tuple #[x28, x29, x30, (.int .i64 0)]) H2) X)) X
theorem l85 (h : i85 x0 x1 H R X) : Runs Tryz.prog 85 [x0, x1] H R X := runs_e tbOk mixed Tryz.func85 (A := []) (by kernel_rfl) h

-- cloister/entry.Encode
def i86 (x0 : Value) (H : Heap) (R : Value → Heap → Prop) (X : List PanicEntry → Heap → Prop) : Prop :=
 Nw (.cells x0.cells 182 (0, 0)) H fun b1 H1 =>
 Gt (rda 6 (.pointer (some ⟨b1, 0, none⟩)) H1) fun x7 =>
 Ca Tryz.prog 141 [x7] H1 (fun x8 H2 =>
 Gt (binI .neq x8 (.int .i64 0)) fun x9 =>
 If x9
 (R (.tuple #[(.slice none 0 0), (.int .i64 100)]) H2)
 (Gt (faV 0 (.pointer (some ⟨b1, 0, none⟩))) fun x10 =>
 Gt (rdv x10 H2) fun x11 =>
 Gt (cvV .u8 x11) fun x12 =>
 Gt (faV 0 (.pointer (some ⟨b1, 0, none⟩))) fun x14 =>
 Gt (rdv x14 H2) fun x15 =>
 Ca Tryz.prog 142 [(.slice none 0 0), x12] H2 (fun x13 H3 =>
 Sm (rdv x14 H3) x15 <|
 Ca Tryz.prog 143 [x15] H3 (fun x16 H4 =>
 Gt (binI .and x16 (.int .i64 1)) fun x18 =>
 Gt (binI .neq x18 (.int .i64 0)) fun x19 =>
 Jo (fun (I1 : Value → Heap → Prop) => ∀ (H6 : Heap) (x4_26 : Value), I1 x4_26 H6 →
 Gt (binI .and x16 (.int .i64 2)) fun x25_2 =>
 Gt (binI .neq x25_2 (.int .i64 0)) fun x26_2 =>
 Jo (fun (I2 : Value → Heap → Prop) => ∀ (H8 : Heap) (x4_35 : Value), I2 x4_35 H8 →
 Gt (binI .and x16 (.int .i64 4)) fun x32_8 =>
 Gt (binI .neq x32_8 (.int .i64 0)) fun x33_8 =>
 Jo (fun (I3 : Value → Heap → Prop) => ∀ (H10 : Heap) (x4_38 : Value), I3 x4_38 H10 →
 Gt (binI .and x16 (.int .i64 8)) fun x39_26 =>
 Gt (binI .neq x39_26 (.int .i64 0)) fun x40_26 =>
 Jo (fun (I4 : Value → Heap → Prop) => ∀ (H13 : Heap) (x4_39 : Value), I4 x4_39 H13 →
 Gt (binI .and x16 (.int .i64 16)) fun x47_107 =>
 Gt (binI .neq x47_107 (.int .i64 0)) fun x48_107 =>
 If x48_107
 (Gt (faV 4 (.pointer (some ⟨b1, 0, none⟩))) fun x50_107 =>
 Gt (rdv x50_107 H13) fun x51_107 =>
 Ca Tryz.prog 146 [x4_39, x51_107] H13 (fun x52_107 H14 =>
 R (.tuple #[x52_107, (.int .i64 0)]) H14) X)
 (R (.tuple #[x4_39, (.int .i64 0)]) H13)) fun (I4 : Value → Heap → Prop) =>
 If x40_26
 (Gt (faV 5 (.pointer (some ⟨b1, 0, none⟩))) fun x41_26 =>
 Gt (rdv x41_26 H10) fun x42_26 =>
 If x42_26
 (Ca Tryz.prog 142 [x4_38, (.int .u8 1)] H10 (fun x45_52 H11 =>
 I4 x45_52 H11) X)
 (Ca Tryz.prog 142 [x4_38, (.int .u8 0)] H10 (fun x45_53 H12 =>
 I4 x45_53 H12) X))
 (I4 x4_38 H10)) fun (I3 : Value → Heap → Prop) =>
 If x33_8
 (Gt (faV 2 (.pointer (some ⟨b1, 0, none⟩))) fun x35_8 =>
 Gt (rdv x35_8 H8) fun x36_8 =>
 Ca Tryz.prog 145 [x4_35, x36_8] H8 (fun x37_8 H9 =>
 I3 x37_8 H9) X)
 (I3 x4_35 H8)) fun (I2 : Value → Heap → Prop) =>
 If x26_2
 (Gt (faV 1 (.pointer (some ⟨b1, 0, none⟩))) fun x28_2 =>
 Gt (rdv x28_2 H6) fun x29_2 =>
 Ca Tryz.prog 145 [x4_26, x29_2] H6 (fun x30_2 H7 =>
 I2 x30_2 H7) X)
 (I2 x4_26 H6)) fun (I1 : Value → Heap → Prop) =>
 If x19
 (Gt (faV 3 (.pointer (some ⟨b1, 0, none⟩))) fun x21 =>
 Gt (rdv x21 H4) fun x22 =>
 Ca Tryz.prog 144 [x13, x22] H4 (fun x23 H5 =>
 I1 x23 H5) X)
 (I1 x13 H4)) X) X)) X
theorem l86 (h : i86 x0 H R X) : Runs Tryz.prog 86 [x0] H R X := runs_e tbOk mixed Tryz.func86 (A := [(61, [4]), (125, [4]), (253, [4]), (509, [4])]) (by kernel_rfl) h

-- cloister/frame.Make
def i87 (x0 : Value) (H : Heap) (R : Value → Heap → Prop) (X : List PanicEntry → Heap → Prop) : Prop :=
 Gt (lnV x0) fun x6 =>
 Gt (binI .gtr x6 (.int .i64 65536)) fun x7 =>
 If x7
 (R (.tuple #[(.slice none 0 0), (.int .i64 3)]) H)
 (Gt (bsV 1 1 z5 [(0, (.int .u8 197))]) fun c8 =>
 Nw (.cells c8.toArray 5 (0, 0)) H fun b8_1 H1 =>
 Gt (lnV x0) fun x10 =>
 Gt (cvV .u32 x10) fun x11 =>
 Ca Tryz.prog 147 [(.slice (some ⟨b8_1, 0, none⟩) 1 1), x11] H1 (fun x12 H2 =>
 Ap 5 1 1 z5 x12 x0 H2 (fun x15 H3 =>
 Ca Tryz.prog 148 [x15] H3 (fun x18 H4 =>
 Ca Tryz.prog 147 [x15, x18] H4 (fun x19 H5 =>
 R (.tuple #[x19, (.int .i64 0)]) H5) X) X)) X)
theorem l87 (h : i87 x0 H R X) : Runs Tryz.prog 87 [x0] H R X := runs_e tbOk mixed Tryz.func87 (A := []) (by kernel_rfl) h

-- (*cloister/disk.Disk).Append
def i88 (x0 x1 x2 : Value) (H : Heap) (R : Value → Heap → Prop) (X : List PanicEntry → Heap → Prop) : Prop :=
 Nw (.cells x2.cells 45 (0, 0)) H fun b5 H1 =>
 Ca Tryz.prog 149 [x0, x1, (.func (.func 150) #[] #[(.pointer (some ⟨b5, 0, none⟩))])] H1 (fun x10 H2 =>
 R x10 H2) X
theorem l88 (h : i88 x0 x1 x2 H R X) : Runs Tryz.prog 88 [x0, x1, x2] H R X := runs_e tbOk mixed Tryz.func88 (A := []) (by kernel_rfl) h

-- (*cloister/disk.Disk).Sync
def i91 (x0 x1 : Value) (H : Heap) (R : Value → Heap → Prop) (X : List PanicEntry → Heap → Prop) : Prop :=
 Ca Tryz.prog 149 [x0, x1, (.func (.func 156) #[] #[])] H (fun x7 H1 =>
 R x7 H1) X
theorem l91 (h : i91 x0 x1 H R X) : Runs Tryz.prog 91 [x0, x1] H R X := runs_e tbOk mixed Tryz.func91 (A := []) (by kernel_rfl) h

-- (*cloister/store.Store).of
def i93 (x0 x1 : Value) (H : Heap) (R : Value → Heap → Prop) (X : List PanicEntry → Heap → Prop) : Prop :=
 Gt ((ptrEq 2 x0 (.pointer none) H).map Value.bool) fun x6 =>
 If x6
 (R (.pointer none) H)
 (Gt (ncV tb x0) fun x8 =>
 Gt (faV 0 x8) fun x9 =>
 Gt (rdv x9 H) fun x10 =>
 Gt (lkV .string z168 false x10 x1 H) fun x12 =>
 R x12 H)
theorem l93 (h : i93 x0 x1 H R X) : Runs Tryz.prog 93 [x0, x1] H R X := runs_e tbOk mixed Tryz.func93 (A := []) (by kernel_rfl) h

-- cloister/store.own
def i95 (x0 : Value) (H : Heap) (R : Value → Heap → Prop) (X : List PanicEntry → Heap → Prop) : Prop :=
 Ap 5 1 1 z5 (.slice none 0 0) x0 H (fun x4 H1 =>
 R x4 H1)
theorem l95 (h : i95 x0 H R X) : Runs Tryz.prog 95 [x0] H R X := runs_e tbOk mixed Tryz.func95 (A := []) (by kernel_rfl) h

-- cloister/area.own
def i99 (x0 : Value) (H : Heap) (R : Value → Heap → Prop) (X : List PanicEntry → Heap → Prop) : Prop :=
 Ap 5 1 1 z5 (.slice none 0 0) x0 H (fun x4 H1 =>
 R x4 H1)
theorem l99 (h : i99 x0 H R X) : Runs Tryz.prog 99 [x0] H R X := runs_e tbOk mixed Tryz.func99 (A := []) (by kernel_rfl) h

-- cloister/label.May
def i100 (x0 : Value) (H : Heap) (R : Value → Heap → Prop) (X : List PanicEntry → Heap → Prop) : Prop :=
 Nw (.cells x0.cells 26 (0, 0)) H fun b1 H1 =>
 Gt (faV 0 (.pointer (some ⟨b1, 0, none⟩))) fun x7 =>
 Gt (rdv x7 H1) fun x8 =>
 Ca Tryz.prog 161 [x8] H1 (fun x9 H2 =>
 Gt (binI .neq x9 (.int .i64 0)) fun x10 =>
 Gt (ifO x10 ((some (.bool true))) ((faV 1 (.pointer (some ⟨b1, 0, none⟩))).bind fun x12 =>
 (rdv x12 H2).bind fun x13 =>
 (lnV x13).bind fun x14 =>
 (faV 0 (.pointer (some ⟨b1, 0, none⟩))).bind fun x15 =>
 (rdv x15 H2).bind fun x16 =>
 (lnV x16).bind fun x17 =>
 (binI .neq x14 x17).bind fun x18 =>
 (some x18))) fun x19 =>
 Gt (ifO x19 ((some (.bool true))) ((faV 2 (.pointer (some ⟨b1, 0, none⟩))).bind fun x21 =>
 (rdv x21 H2).bind fun x22 =>
 (lnV x22).bind fun x23 =>
 (binI .gtr x23 (.int .i64 32)).bind fun x24 =>
 (some x24))) fun x25 =>
 If x25
 (R (.bool false) H2)
 (Gt (faV 1 (.pointer (some ⟨b1, 0, none⟩))) fun x26 =>
 Gt (rdv x26 H2) fun x27 =>
 Gt (lnV x27) fun x28 =>
 Lp fun (I1 : Value → Heap → Prop) (M1 : Value → Heap → Nat) => I1 (.int .i64 0) H2 ∧ ∀ (H3 : Heap) (x29 : Value), I1 x29 H3 →
 Gt (binI .lss x29 x28) fun x30 =>
 If x30
 (Gt (iaV 5 x27 x29) fun x31 =>
 Gt (rda 5 x31 H3) fun x32 =>
 Nw (.cells z104.cells 104 (0, 0)) H3 fun b4 H4 =>
 Gt (stV 5 (.pointer (some ⟨b4, 0, none⟩)) x32 H4) fun H5 =>
 Gt (faV 0 (.pointer (some ⟨b4, 0, none⟩))) fun x33 =>
 Gt (rdv x33 H5) fun x34 =>
 Ca Tryz.prog 162 [x34, (.int .i64 1048576)] H5 (fun x35 H6 =>
 Gt (unV .not x35) fun x36 =>
 If x36 (If (.bool true)
 (R (.bool false) H6)
 (Gt (binI .add x29 (.int .i64 1)) fun x61 =>
 I1 x61 H6 ∧ Nat.lt (M1 x61 H6) (M1 x29 H3))) (Gt (faV 1 (.pointer (some ⟨b4, 0, none⟩))) fun x38 =>
 Gt (rdv x38 H6) fun x39 =>
 Ca Tryz.prog 162 [x39, (.int .i64 32)] H6 (fun x40 H7 =>
 Gt (unV .not x40) fun x41 =>
 If x41 (If (.bool true)
 (R (.bool false) H7)
 (Gt (binI .add x29 (.int .i64 1)) fun x61_1 =>
 I1 x61_1 H7 ∧ Nat.lt (M1 x61_1 H7) (M1 x29 H3))) (Gt (faV 2 (.pointer (some ⟨b4, 0, none⟩))) fun x44 =>
 Gt (rdv x44 H7) fun x45 =>
 Ca Tryz.prog 162 [x45, (.int .i64 64)] H7 (fun x46 H8 =>
 Gt (unV .not x46) fun x47 =>
 If x47 (If (.bool true)
 (R (.bool false) H8)
 (Gt (binI .add x29 (.int .i64 1)) fun x61_2 =>
 I1 x61_2 H8 ∧ Nat.lt (M1 x61_2 H8) (M1 x29 H3))) (Gt (faV 3 (.pointer (some ⟨b4, 0, none⟩))) fun x50 =>
 Gt (rdv x50 H8) fun x51 =>
 Ca Tryz.prog 162 [x51, (.int .i64 1048576)] H8 (fun x52 H9 =>
 Gt (unV .not x52) fun x53 =>
 If x53 (If (.bool true)
 (R (.bool false) H9)
 (Gt (binI .add x29 (.int .i64 1)) fun x61_3 =>
 I1 x61_3 H9 ∧ Nat.lt (M1 x61_3 H9) (M1 x29 H3))) (Gt (faV 4 (.pointer (some ⟨b4, 0, none⟩))) fun x56 =>
 Gt (rdv x56 H9) fun x57 =>
 Ca Tryz.prog 162 [x57, (.int .i64 4611686018427387904)] H9 (fun x58 H10 =>
 Gt (unV .not x58) fun x59 =>
 If x59
 (R (.bool false) H10)
 (Gt (binI .add x29 (.int .i64 1)) fun x61_4 =>
 I1 x61_4 H10 ∧ Nat.lt (M1 x61_4 H10) (M1 x29 H3))) X)) X)) X)) X)) X)
 (Gt (faV 2 (.pointer (some ⟨b1, 0, none⟩))) fun x62 =>
 Gt (rdv x62 H3) fun x63 =>
 Gt (lnV x63) fun x64 =>
 Lp fun (I2 : Value → Heap → Prop) (M2 : Value → Heap → Nat) => I2 (.int .i64 0) H3 ∧ ∀ (H11 : Heap) (x65 : Value), I2 x65 H11 →
 Gt (binI .lss x65 x64) fun x66 =>
 If x66
 (Gt (iaV 1 x63 x65) fun x67 =>
 Gt (rdv x67 H11) fun x68 =>
 Gt (faV 0 (.pointer (some ⟨b1, 0, none⟩))) fun x70 =>
 Gt (rdv x70 H11) fun x71 =>
 Gt (lnV x71) fun x72 =>
 Gt (binI .sub x72 (.int .i64 1)) fun x73 =>
 Ca Tryz.prog 162 [x68, x73] H11 (fun x74 H12 =>
 Gt (unV .not x74) fun x75 =>
 If x75
 (R (.bool false) H12)
 (Gt (binI .add x65 (.int .i64 1)) fun x76 =>
 I2 x76 H12 ∧ Nat.lt (M2 x76 H12) (M2 x65 H11))) X)
 (R (.bool true) H11)))) X
theorem l100 (h : i100 x0 H R X) : Runs Tryz.prog 100 [x0] H R X := runs_e tbOk mixed Tryz.func100 (A := [(58, [29]), (122, [65])]) (by kernel_rfl) h

-- (*cloister/disk.Disk).Areas
def i101 (x0 : Value) (H : Heap) (R : Value → Heap → Prop) (X : List PanicEntry → Heap → Prop) : Prop :=
 Gt ((ptrEq 2 x0 (.pointer none) H).map Value.bool) fun x4 =>
 If x4
 (R (.int .i64 0) H)
 (Gt (ncV tb x0) fun x6 =>
 Gt (faV 0 x6) fun x7 =>
 Gt (rdv x7 H) fun x8 =>
 Gt (lnV x8) fun x9 =>
 R x9 H)
theorem l101 (h : i101 x0 H R X) : Runs Tryz.prog 101 [x0] H R X := runs_e tbOk mixed Tryz.func101 (A := []) (by kernel_rfl) h

-- cloister/cell.copied
def i102 (x0 : Value) (H : Heap) (R : Value → Heap → Prop) (X : List PanicEntry → Heap → Prop) : Prop :=
 Nw (.cells x0.cells 26 (0, 0)) H fun b1 H1 =>
 Nw (.cells z26.cells 26 (0, 0)) H1 fun b2 H2 =>
 Gt (faV 0 (.pointer (some ⟨b1, 0, none⟩))) fun x3 =>
 Gt (rdv x3 H2) fun x4 =>
 Gt (faV 1 (.pointer (some ⟨b1, 0, none⟩))) fun x6 =>
 Gt (rdv x6 H2) fun x7 =>
 Gt (faV 2 (.pointer (some ⟨b1, 0, none⟩))) fun x9 =>
 Gt (rdv x9 H2) fun x10 =>
 Ca Tryz.prog 163 [x4] H2 (fun x5 H3 =>
 Sm (rdv x9 H3) x10 <|
 Sm (rdv x6 H3) x7 <|
 Ca Tryz.prog 164 [x7] H3 (fun x8 H4 =>
 Sm (rdv x9 H4) x10 <|
 Ca Tryz.prog 165 [x10] H4 (fun x11 H5 =>
 Gt (bdV z26 [(0, 1), (1, 1), (2, 1)] [(0, x5), (1, x8), (2, x11)]) fun x12 =>
 Gt (stV 3 (.pointer (some ⟨b2, 0, none⟩)) x12 H5) fun H6 =>
 Gt (rda 3 (.pointer (some ⟨b2, 0, none⟩)) H6) fun u1 =>
 R u1 H6) X) X) X
theorem l102 (h : i102 x0 H R X) : Runs Tryz.prog 102 [x0] H R X := runs_e tbOk mixed Tryz.func102 (A := []) (by kernel_rfl) h

-- cloister/label.Down
def i103 (x0 x1 : Value) (H : Heap) (R : Value → Heap → Prop) (X : List PanicEntry → Heap → Prop) : Prop :=
 Nw (.cells x1.cells 155 (0, 0)) H fun b3 H1 =>
 Ca Tryz.prog 166 [x0, (.func (.func 167) #[] #[(.pointer (some ⟨b3, 0, none⟩))])] H1 (fun x7 H2 =>
 R x7 H2) X
theorem l103 (h : i103 x0 x1 H R X) : Runs Tryz.prog 103 [x0, x1] H R X := runs_e tbOk mixed Tryz.func103 (A := []) (by kernel_rfl) h

-- cloister/wal.Open
def i104 (x0 x1 : Value) (H : Heap) (R : Value → Heap → Prop) (X : List PanicEntry → Heap → Prop) : Prop :=
 Ca Tryz.prog 85 [x0, x1] H (fun x13 H1 =>
 Gt (exV 0 x13) fun x14 =>
 Gt (exV 1 x13) fun x15 =>
 Gt (exV 2 x13) fun x16 =>
 Gt (exV 3 x13) fun x17 =>
 Gt (binI .neq x17 (.int .i64 0)) fun x19 =>
 If x19
 (R (.tuple #[(.pointer none), x17]) H1)
 (Gt (bdV z179 [(0, 1), (1, 1)] [(0, x0), (1, x1)]) fun x23 =>
 Nw (.cells x23.cells 179 (0, 0)) H1 fun b24 H2 =>
 R (.tuple #[(.pointer (some ⟨b24, 0, none⟩)), (.int .i64 0)]) H2)) X
theorem l104 (h : i104 x0 x1 H R X) : Runs Tryz.prog 104 [x0, x1] H R X := runs_e tbOk mixed Tryz.func104 (A := []) (by kernel_rfl) h

-- cloister/rebuild.Rebuild
def i105 (x0 x1 : Value) (H : Heap) (R : Value → Heap → Prop) (X : List PanicEntry → Heap → Prop) : Prop :=
 Gt ((ptrEq 2 x0 (.pointer none) H).map Value.bool) fun x17 =>
 If x17
 (R (.tuple #[(.pointer none), (.int .i64 0), (.int .i64 1)]) H)
 (Gt (binI .lss x1 (.int .i64 0)) fun x19 =>
 Gt (ifO x19 ((some (.bool true))) ((binI .gtr x1 (.int .i64 4611686018427387904)).bind fun x22 =>
 (some x22))) fun x23 =>
 If x23
 (R (.tuple #[(.pointer none), (.int .i64 0), (.int .i64 2)]) H)
 (Ca Tryz.prog 169 [x0] H (fun x26 H1 =>
 Gt (exV 0 x26) fun x27 =>
 Gt (exV 1 x26) fun x28 =>
 Ca Tryz.prog 170 [x27, x1] H1 (fun x32 H2 =>
 Gt (exV 0 x32) fun x33 =>
 Gt (exV 1 x32) fun x34 =>
 Gt (exV 2 x32) fun x35 =>
 Ca Tryz.prog 48 [x0] H2 (fun x38 H3 =>
 Gt (exV 0 x38) fun x39 =>
 Gt (exV 1 x38) fun x40 =>
 Gt (exV 2 x38) fun x41 =>
 Gt (binI .gtr x35 (.int .i64 0)) fun x43 =>
 Jo (fun (I1 : Value → Heap → Prop) => ∀ (H4 : Heap) (x12 : Value), I1 x12 H4 →
 Gt (binI .gtr x41 x12) fun x51_2 =>
 If x51_2
 (Ca Tryz.prog 171 [x0, x12] H4 (fun x54_2 H5 =>
 Gt (binI .neq x54_2 (.int .i64 0)) fun x56_2 =>
 If x56_2
 (R (.tuple #[(.pointer none), (.int .i64 0), x54_2]) H5)
 (R (.tuple #[x33, x34, (.int .i64 0)]) H5)) X)
 (R (.tuple #[x33, x34, (.int .i64 0)]) H4)) fun (I1 : Value → Heap → Prop) =>
 If x43
 (Gt (binI .sub x35 (.int .i64 1)) fun x46 =>
 Gt (iaV 1 x28 x46) fun x47 =>
 Gt (rdv x47 H3) fun x48 =>
 I1 x48 H3)
 (I1 x39 H3)) X) X) X))
theorem l105 (h : i105 x0 x1 H R X) : Runs Tryz.prog 105 [x0, x1] H R X := runs_e tbOk mixed Tryz.func105 (A := [(509, [12])]) (by kernel_rfl) h

-- cloister/stamp.New
def i106 (x0 x1 : Value) (H : Heap) (R : Value → Heap → Prop) (X : List PanicEntry → Heap → Prop) : Prop :=
 Gt (binI .lss x0 (.int .i64 0)) fun x7 =>
 Gt (ifO x7 ((some (.bool true))) ((binI .gtr x0 (.int .i64 4611686018427387904)).bind fun x10 =>
 (some x10))) fun x11 =>
 Gt (ifO x11 ((some (.bool true))) ((binI .lss x1 (.int .i64 0)).bind fun x14 =>
 (some x14))) fun x15 =>
 Gt (ifO x15 ((some (.bool true))) ((binI .gtr x1 (.int .i64 1048576)).bind fun x18 =>
 (some x18))) fun x19 =>
 If x19
 (R (.tuple #[(.pointer none), (.int .i64 2)]) H)
 (Gt (bdV z205 [(0, 1), (1, 1)] [(0, x0), (1, x1)]) fun x22 =>
 Nw (.cells x22.cells 205 (0, 0)) H fun b23 H1 =>
 R (.tuple #[(.pointer (some ⟨b23, 0, none⟩)), (.int .i64 0)]) H1)
theorem l106 (h : i106 x0 x1 H R X) : Runs Tryz.prog 106 [x0, x1] H R X := runs_e tbOk mixed Tryz.func106 (A := []) (by kernel_rfl) h

-- cloister/quota.New
def i107 (x0 : Value) (H : Heap) (R : Value → Heap → Prop) (X : List PanicEntry → Heap → Prop) : Prop :=
 Nw (.cells x0.cells 104 (0, 0)) H fun b1 H1 =>
 Jo (fun (I1 : Value → Heap → Prop) => ∀ (H4 : Heap) (x13 : Value), I1 x13 H4 →
 If x13
 (R (.tuple #[(.pointer none), (.int .i64 2)]) H4)
 (Gt (faV 0 (.pointer (some ⟨b1, 0, none⟩))) fun x14_2 =>
 Gt (rdv x14_2 H4) fun x15_2 =>
 Gt (faV 1 (.pointer (some ⟨b1, 0, none⟩))) fun x16_2 =>
 Gt (rdv x16_2 H4) fun x17_2 =>
 Gt (bdV z200 [(0, 1), (1, 1), (2, 1), (3, 1), (4, 1)] [(0, x15_2), (1, x17_2)]) fun x18_2 =>
 Nw (.cells x18_2.cells 200 (0, 0)) H4 fun b19_2 H5 =>
 R (.tuple #[(.pointer (some ⟨b19_2, 0, none⟩)), (.int .i64 0)]) H5)) fun (I1 : Value → Heap → Prop) =>
 Gt (faV 0 (.pointer (some ⟨b1, 0, none⟩))) fun x4 =>
 Gt (rdv x4 H1) fun x5 =>
 Ca Tryz.prog 172 [x5, (.int .i64 1048576)] H1 (fun x6 H2 =>
 Gt (unV .not x6) fun x7 =>
 If x7 (I1 (.bool true) H2) (Gt (faV 1 (.pointer (some ⟨b1, 0, none⟩))) fun x9 =>
 Gt (rdv x9 H2) fun x10 =>
 Ca Tryz.prog 172 [x10, (.int .i64 32)] H2 (fun x11 H3 =>
 Gt (unV .not x11) fun x12 =>
 I1 x12 H3) X)) X
theorem l107 (h : i107 x0 H R X) : Runs Tryz.prog 107 [x0] H R X := runs_e tbOk mixed Tryz.func107 (A := [(12, [13])]) (by kernel_rfl) h

-- cloister/table.New[*cloister/txn.Txn]
def i108 (x0 x1 : Value) (H : Heap) (R : Value → Heap → Prop) (X : List PanicEntry → Heap → Prop) : Prop :=
 Gt (binI .lss x0 (.int .i64 0)) fun x8 =>
 Gt (ifO x8 ((some (.bool true))) ((binI .gtr x0 (.int .i64 32)).bind fun x11 =>
 (some x11))) fun x12 =>
 Gt (ifO x12 ((some (.bool true))) ((binI .lss x1 (.int .i64 1)).bind fun x15 =>
 (some x15))) fun x16 =>
 Gt (ifO x16 ((some (.bool true))) ((binI .gtr x1 (.int .i64 4611686018427387904)).bind fun x19 =>
 (some x19))) fun x20 =>
 If x20
 (R (.tuple #[(.pointer none), (.int .i64 2)]) H)
 (Gt (mkV 8 x0 x0) fun m23 =>
 Nw (.cells (mkC 1 z3 m23.2) 3 (0, 0)) H fun b23_1 H1 =>
 Gt (bdV z244 [(0, 1), (1, 1), (2, 1)] [(0, x1), (2, (.slice (some ⟨b23_1, 0, none⟩) m23.1 m23.2))]) fun x24 =>
 Nw (.cells x24.cells 244 (0, 0)) H1 fun b25 H2 =>
 Ca Tryz.prog 173 [(.pointer (some ⟨b25, 0, none⟩))] H2 (fun x27 H3 =>
 R (.tuple #[(.pointer (some ⟨b25, 0, none⟩)), (.int .i64 0)]) H3) X)
theorem l108 (h : i108 x0 x1 H R X) : Runs Tryz.prog 108 [x0, x1] H R X := runs_e tbOk mixed Tryz.func108 (A := []) (by kernel_rfl) h

-- (*cloister/stamp.Clock).Set
def i109 (x0 x1 : Value) (H : Heap) (R : Value → Heap → Prop) (X : List PanicEntry → Heap → Prop) : Prop :=
 Gt ((ptrEq 2 x0 (.pointer none) H).map Value.bool) fun x7 =>
 If x7
 (R (.int .i64 1) H)
 (Gt (binI .lss x1 (.int .i64 0)) fun x10 =>
 Gt (ifO x10 ((some (.bool true))) ((binI .gtr x1 (.int .i64 4611686018427387904)).bind fun x13 =>
 (some x13))) fun x14 =>
 If x14
 (R (.int .i64 2) H)
 (Gt (ncV tb x0) fun x17 =>
 Gt (faV 0 x17) fun x18 =>
 Gt (stV 1 x18 x1 H) fun H1 =>
 R (.int .i64 0) H1))
theorem l109 (h : i109 x0 x1 H R X) : Runs Tryz.prog 109 [x0, x1] H R X := runs_e tbOk mixed Tryz.func109 (A := []) (by kernel_rfl) h

-- (*cloister/quota.Account).Settle
def i110 (x0 x1 : Value) (H : Heap) (R : Value → Heap → Prop) (X : List PanicEntry → Heap → Prop) : Prop :=
 Gt ((ptrEq 5 x0 (.pointer none) H).map Value.bool) fun x7 =>
 If x7
 (R (.int .i64 1) H)
 (Ca Tryz.prog 172 [x1, (.int .i64 1048576)] H (fun x10 H1 =>
 Gt (unV .not x10) fun x11 =>
 If x11
 (R (.int .i64 2) H1)
 (Gt (ncV tb x0) fun x15 =>
 Gt (faV 3 x15) fun x16 =>
 Gt (rdv x16 H1) fun x17 =>
 Gt (binI .add x1 x17) fun x18 =>
 Gt (ncV tb x0) fun x20 =>
 Gt (faV 0 x20) fun x21 =>
 Gt (rdv x21 H1) fun x22 =>
 Gt (binI .gtr x18 x22) fun x23 =>
 If x23
 (R (.int .i64 150) H1)
 (Gt (ncV tb x0) fun x26 =>
 Gt (faV 2 x26) fun x27 =>
 Gt (stV 1 x27 x1 H1) fun H2 =>
 R (.int .i64 0) H2))) X)
theorem l110 (h : i110 x0 x1 H R X) : Runs Tryz.prog 110 [x0, x1] H R X := runs_e tbOk mixed Tryz.func110 (A := []) (by kernel_rfl) h

-- (*cloister/store.Store).Live
def i111 (x0 : Value) (H : Heap) (R : Value → Heap → Prop) (X : List PanicEntry → Heap → Prop) : Prop :=
 Gt ((ptrEq 2 x0 (.pointer none) H).map Value.bool) fun x4 =>
 If x4
 (R (.int .i64 0) H)
 (Gt (ncV tb x0) fun x6 =>
 Gt (faV 1 x6) fun x7 =>
 Gt (rdv x7 H) fun x8 =>
 R x8 H)
theorem l111 (h : i111 x0 H R X) : Runs Tryz.prog 111 [x0] H R X := runs_e tbOk mixed Tryz.func111 (A := []) (by kernel_rfl) h

-- slices.Clone[[]cloister/chain.Link[[]byte],cloister/chain.Link[[]byte]]
def i127 (x0 : Value) (H : Heap) (R : Value → Heap → Prop) (X : List PanicEntry → Heap → Prop) : Prop :=
 Gt ((nilEq (.slice 194) x0 (.slice none 0 0)).map Value.bool) fun x4 =>
 If x4
 (R (.slice none 0 0) H)
 (Gt (bsV 3 0 z194 []) fun c5 =>
 Nw (.cells c5.toArray 194 (0, 0)) H fun b5_1 H1 =>
 Ap 194 3 40 z194 (.slice (some ⟨b5_1, 0, none⟩) 0 0) x0 H1 (fun x7 H2 =>
 R x7 H2))
theorem l127 (h : i127 x0 H R X) : Runs Tryz.prog 127 [x0] H R X := runs_e tbOk mixed Tryz.func127 (A := []) (by kernel_rfl) h

-- (*cloister/quota.Account).Begin
def i128 (x0 : Value) (H : Heap) (R : Value → Heap → Prop) (X : List PanicEntry → Heap → Prop) : Prop :=
 Gt ((ptrEq 5 x0 (.pointer none) H).map Value.bool) fun x5 =>
 If x5
 (R (.int .i64 1) H)
 (Gt (ncV tb x0) fun x8 =>
 Gt (faV 4 x8) fun x9 =>
 Gt (rdv x9 H) fun x10 =>
 Gt (ncV tb x0) fun x12 =>
 Gt (faV 1 x12) fun x13 =>
 Gt (rdv x13 H) fun x14 =>
 Gt (binI .geq x10 x14) fun x15 =>
 If x15
 (R (.int .i64 151) H)
 (Gt (ncV tb x0) fun x17 =>
 Gt (faV 4 x17) fun x18 =>
 Gt (rdv x18 H) fun x19 =>
 Gt (binI .add x19 (.int .i64 1)) fun x20 =>
 Gt (ncV tb x0) fun x21 =>
 Gt (faV 4 x21) fun x22 =>
 Gt (stV 1 x22 x20 H) fun H1 =>
 R (.int .i64 0) H1))
theorem l128 (h : i128 x0 H R X) : Runs Tryz.prog 128 [x0] H R X := runs_e tbOk mixed Tryz.func128 (A := []) (by kernel_rfl) h

-- cloister/txn.New
def i129 (x0 x1 : Value) (H : Heap) (R : Value → Heap → Prop) (X : List PanicEntry → Heap → Prop) : Prop :=
 Gt (binI .lss x0 (.int .i64 0)) fun x7 =>
 Gt (ifO x7 ((some (.bool true))) ((lnV x1).bind fun x11 =>
 (binI .geq x0 x11).bind fun x12 =>
 (some x12))) fun x13 =>
 Gt (ifO x13 ((some (.bool true))) ((iaV 1 x1 x0).bind fun x17 =>
 (rdv x17 H).bind fun x18 =>
 (binI .lss x18 (.int .i64 0)).bind fun x19 =>
 (some x19))) fun x20 =>
 If x20
 (R (.tuple #[(.pointer none), (.int .i64 2)]) H)
 (Ca Tryz.prog 165 [x1] H (fun x23 H1 =>
 Ca Tryz.prog 181 [] H1 (fun x24 H2 =>
 Gt (bdV z290 [(0, 1), (1, 1), (2, 1), (3, 1)] [(0, x0), (1, x23), (2, x24)]) fun x25 =>
 Nw (.cells x25.cells 290 (0, 0)) H2 fun b26 H3 =>
 R (.tuple #[(.pointer (some ⟨b26, 0, none⟩)), (.int .i64 0)]) H3) X) X)
theorem l129 (h : i129 x0 x1 H R X) : Runs Tryz.prog 129 [x0, x1] H R X := runs_e tbOk mixed Tryz.func129 (A := []) (by kernel_rfl) h

-- cloister/stamp.Take
def i130 (x0 x1 : Value) (H : Heap) (R : Value → Heap → Prop) (X : List PanicEntry → Heap → Prop) : Prop :=
 Gt (lnV x0) fun x10 =>
 Gt (mkV 8 x10 x10) fun m11 =>
 Nw (.cells (mkC 1 z3 m11.2) 3 (0, 0)) H fun b11_1 H1 =>
 Gt (lnV (.slice (some ⟨b11_1, 0, none⟩) m11.1 m11.2)) fun x13 =>
 Lp fun (I1 : Value → Heap → Prop) (M1 : Value → Heap → Nat) => I1 (.int .i64 0) H1 ∧ ∀ (H2 : Heap) (x14 : Value), I1 x14 H2 →
 Gt (binI .lss x14 x13) fun x15 =>
 If x15
 (Gt (iaV 1 (.slice (some ⟨b11_1, 0, none⟩) m11.1 m11.2) x14) fun x19 =>
 Gt (stV 1 x19 (.int .i64 (-1)) H2) fun H3 =>
 Gt (binI .add x14 (.int .i64 1)) fun x20 =>
 I1 x20 H3 ∧ Nat.lt (M1 x20 H3) (M1 x14 H2))
 (Gt (lnV x1) fun x22 =>
 Lp fun (I2 : Value → Heap → Prop) (M2 : Value → Heap → Nat) => I2 (.int .i64 0) H2 ∧ ∀ (H4 : Heap) (x23 : Value), I2 x23 H4 →
 Gt (binI .lss x23 x22) fun x24 =>
 If x24
 (Gt (iaV 1 x1 x23) fun x25 =>
 Gt (rdv x25 H4) fun x26 =>
 Gt (binI .geq x26 (.int .i64 0)) fun x28 =>
 Gt (ifO x28 ((lnV x0).bind fun x32 =>
 (binI .lss x26 x32).bind fun x33 =>
 (some x33)) ((some (.bool false)))) fun x34 =>
 Gt (ifO x34 ((iaV 1 x0 x26).bind fun x38 =>
 (rdv x38 H4).bind fun x39 =>
 ((ptrEq 2 x39 (.pointer none) H4).map fun t => Value.bool !t).bind fun x40 =>
 (some x40)) ((some (.bool false)))) fun x41 =>
 If x41
 (Gt (iaV 1 x0 x26) fun x46 =>
 Gt (rdv x46 H4) fun x47 =>
 Ca Tryz.prog 60 [x47] H4 (fun x48 H5 =>
 Gt (iaV 1 (.slice (some ⟨b11_1, 0, none⟩) m11.1 m11.2) x26) fun x49 =>
 Gt (stV 1 x49 x48 H5) fun H6 =>
 Gt (binI .add x23 (.int .i64 1)) fun x50 =>
 I2 x50 H6 ∧ Nat.lt (M2 x50 H6) (M2 x23 H4)) X)
 (Gt (binI .add x23 (.int .i64 1)) fun x50_1 =>
 I2 x50_1 H4 ∧ Nat.lt (M2 x50_1 H4) (M2 x23 H4)))
 (R (.slice (some ⟨b11_1, 0, none⟩) m11.1 m11.2) H4))
theorem l130 (h : i130 x0 x1 H R X) : Runs Tryz.prog 130 [x0, x1] H R X := runs_e tbOk mixed Tryz.func130 (A := [(58, [14]), (122, [23])]) (by kernel_rfl) h

-- (*cloister/table.Table[*cloister/txn.Txn]).Add
def i131 (x0 x1 x2 : Value) (H : Heap) (R : Value → Heap → Prop) (X : List PanicEntry → Heap → Prop) : Prop :=
 Nw (.cells z44.cells 44 (0, 0)) H fun b6 H1 =>
 Gt ((ptrEq 3 x0 (.pointer none) H1).map Value.bool) fun x10 =>
 If x10
 (Gt (bdV z44 [(0, 1), (1, 1)] []) fun x11 =>
 Gt (stV 2 (.pointer (some ⟨b6, 0, none⟩)) x11 H1) fun H2 =>
 Gt (rda 2 (.pointer (some ⟨b6, 0, none⟩)) H2) fun u1 =>
 R (.tuple #[u1, (.int .i64 1)]) H2)
 (Ca Tryz.prog 132 [x0, x1] H1 (fun x14 H3 =>
 Gt (unV .not x14) fun x15 =>
 If x15
 (Gt (bdV z44 [(0, 1), (1, 1)] []) fun x16 =>
 Gt (stV 2 (.pointer (some ⟨b6, 0, none⟩)) x16 H3) fun H4 =>
 Gt (rda 2 (.pointer (some ⟨b6, 0, none⟩)) H4) fun u2 =>
 R (.tuple #[u2, (.int .i64 2)]) H4)
 (Gt (ncV tb x0) fun x18 =>
 Gt (faV 2 x18) fun x19 =>
 Gt (rdv x19 H3) fun x20 =>
 Gt (iaV 1 x20 x1) fun x22 =>
 Gt (rdv x22 H3) fun x23 =>
 Gt (binI .add x23 (.int .i64 1)) fun x24 =>
 Gt (iaV 1 x20 x1) fun x25 =>
 Gt (stV 1 x25 x24 H3) fun H5 =>
 Gt (ncV tb x0) fun x27 =>
 Gt (faV 2 x27) fun x28 =>
 Gt (rdv x28 H5) fun x29 =>
 Gt (iaV 1 x29 x1) fun x31 =>
 Gt (rdv x31 H5) fun x32 =>
 Gt (ncV tb x0) fun x34 =>
 Gt (faV 1 x34) fun x35 =>
 Gt (rdv x35 H5) fun x36 =>
 Gt (iaV 1 x36 x1) fun x38 =>
 Gt (rdv x38 H5) fun x39 =>
 Gt (muV (.int .i64) x39 x32 x2 H5) fun H6 =>
 Gt (ncV tb x0) fun x43 =>
 Gt (faV 0 x43) fun x44 =>
 Gt (rdv x44 H6) fun x45 =>
 Gt (bdV z44 [(0, 1), (1, 1)] [(0, x45), (1, x32)]) fun x47 =>
 Gt (stV 2 (.pointer (some ⟨b6, 0, none⟩)) x47 H6) fun H7 =>
 Gt (rda 2 (.pointer (some ⟨b6, 0, none⟩)) H7) fun u3 =>
 R (.tuple #[u3, (.int .i64 0)]) H7)) X)
theorem l131 (h : i131 x0 x1 x2 H R X) : Runs Tryz.prog 131 [x0, x1, x2] H R X := runs_e tbOk mixed Tryz.func131 (A := []) (by kernel_rfl) h

-- (*cloister/table.Table[*cloister/txn.Txn]).is
def i132 (x0 x1 : Value) (H : Heap) (R : Value → Heap → Prop) (X : List PanicEntry → Heap → Prop) : Prop :=
 Gt (binI .geq x1 (.int .i64 0)) fun x6 =>
 Gt (ifO x6 ((ncV tb x0).bind fun x10 =>
 (faV 2 x10).bind fun x11 =>
 (rdv x11 H).bind fun x12 =>
 (lnV x12).bind fun x13 =>
 (binI .lss x1 x13).bind fun x14 =>
 (some x14)) ((some (.bool false)))) fun x15 =>
 R x15 H
theorem l132 (h : i132 x0 x1 H R X) : Runs Tryz.prog 132 [x0, x1] H R X := runs_e tbOk mixed Tryz.func132 (A := []) (by kernel_rfl) h

-- (*cloister/cell.Cell).put
def i135 (x0 x1 : Value) (H : Heap) (R : Value → Heap → Prop) (X : List PanicEntry → Heap → Prop) : Prop :=
 Nw (.cells x1.cells 121 (0, 0)) H fun b3 H1 =>
 Nw (.cells z67.cells 67 (0, 0)) H1 fun b4 H2 =>
 Gt (faV 1 (.pointer (some ⟨b3, 0, none⟩))) fun x7 =>
 Gt (rda 8 x7 H2) fun x8 =>
 Nw (.cells z47.cells 47 (0, 0)) H2 fun b6 H3 =>
 Gt (stV 8 (.pointer (some ⟨b6, 0, none⟩)) x8 H3) fun H4 =>
 Gt (faV 3 (.pointer (some ⟨b6, 0, none⟩))) fun x10 =>
 Gt (rdv x10 H4) fun x11 =>
 Ca Tryz.prog 182 [x0, x11] H4 (fun x12 H5 =>
 Gt (unV .not x12) fun x13 =>
 If x13
 (Ca Tryz.prog 82 [(.int .i64 210)] H5 (fun x14 H6 =>
 Gt (stV 10 (.pointer (some ⟨b4, 0, none⟩)) x14 H6) fun H7 =>
 Gt (rda 10 (.pointer (some ⟨b4, 0, none⟩)) H7) fun u1 =>
 R (.tuple #[u1, (.int .i64 0)]) H7) X)
 (Gt (faV 9 (.pointer (some ⟨b3, 0, none⟩))) fun x15 =>
 Gt (rdv x15 H5) fun x16 =>
 Gt (faV 3 (.pointer (some ⟨b6, 0, none⟩))) fun x17 =>
 Gt (rdv x17 H5) fun x18 =>
 Gt (faV 4 (.pointer (some ⟨b6, 0, none⟩))) fun x19 =>
 Gt (rdv x19 H5) fun x20 =>
 Gt (faV 6 (.pointer (some ⟨b6, 0, none⟩))) fun x21 =>
 Gt (rdv x21 H5) fun x22 =>
 Gt (ncV tb x0) fun x24 =>
 Gt (faV 7 x24) fun x25 =>
 Gt (rdv x25 H5) fun x26 =>
 Ca Tryz.prog 186 [x16, x18, x20, x22, x26] H5 (fun x27 H8 =>
 Ca Tryz.prog 82 [x27] H8 (fun x28 H9 =>
 Gt (stV 10 (.pointer (some ⟨b4, 0, none⟩)) x28 H9) fun H10 =>
 Gt (rda 10 (.pointer (some ⟨b4, 0, none⟩)) H10) fun u2 =>
 R (.tuple #[u2, (.int .i64 0)]) H10) X) X)) X
theorem l135 (h : i135 x0 x1 H R X) : Runs Tryz.prog 135 [x0, x1] H R X := runs_e tbOk mixed Tryz.func135 (A := []) (by kernel_rfl) h

-- (*cloister/cell.Cell).commit
def i137 (x0 x1 : Value) (H : Heap) (R : Value → Heap → Prop) (X : List PanicEntry → Heap → Prop) : Prop :=
 Nw (.cells x1.cells 121 (0, 0)) H fun b3 H1 =>
 Nw (.cells z67.cells 67 (0, 0)) H1 fun b4 H2 =>
 Gt (ncV tb x0) fun x10 =>
 Gt (faV 5 x10) fun x11 =>
 Gt (rdv x11 H2) fun x12 =>
 Gt (ncV tb x0) fun x14 =>
 Gt (faV 6 x14) fun x15 =>
 Gt (rdv x15 H2) fun x16 =>
 Gt (ncV tb x0) fun x18 =>
 Gt (faV 8 x18) fun x19 =>
 Gt (rdv x19 H2) fun x20 =>
 Gt (faV 9 (.pointer (some ⟨b3, 0, none⟩))) fun x21 =>
 Gt (rdv x21 H2) fun x22 =>
 Gt (faV 9 (.pointer (some ⟨b3, 0, none⟩))) fun x24 =>
 Gt (rdv x24 H2) fun x25 =>
 Gt (ncV tb x0) fun x28 =>
 Gt (faV 3 x28) fun x29 =>
 Gt (rdv x29 H2) fun x30 =>
 Ca Tryz.prog 189 [x22] H2 (fun x23 H3 =>
 Sm (rdv x29 H3) x30 <|
 Sm (rdv x24 H3) x25 <|
 Sm (rdv x19 H3) x20 <|
 Sm (rdv x15 H3) x16 <|
 Sm (rdv x11 H3) x12 <|
 Ca Tryz.prog 190 [x25] H3 (fun x26 H4 =>
 Sm (rdv x29 H4) x30 <|
 Sm (rdv x19 H4) x20 <|
 Sm (rdv x15 H4) x16 <|
 Sm (rdv x11 H4) x12 <|
 Gt (iaV 1 x26 x30) fun x31 =>
 Gt (rdv x31 H4) fun x32 =>
 Ca Tryz.prog 188 [x12, x16, x20, x23, x32] H4 (fun x33 H5 =>
 Gt (exV 0 x33) fun x34 =>
 Gt (exV 1 x33) fun x35 =>
 Gt (binI .eql x35 (.int .i64 0)) fun x38 =>
 Jo (fun (I1 : Value → Heap → Prop) => ∀ (H6 : Heap) (x37 : Value), I1 x37 H6 →
 If x37
 (Gt (rda 11 (.pointer (some ⟨b3, 0, none⟩)) H6) fun x41_2 =>
 Ca Tryz.prog 191 [x0, x41_2] H6 (fun x42_2 H7 =>
 Gt (ncV tb x0) fun x44_2 =>
 Gt (faV 7 x44_2) fun x45_2 =>
 Gt (rdv x45_2 H7) fun x46_2 =>
 Gt (ncV tb x0) fun x48_2 =>
 Gt (faV 5 x48_2) fun x49_2 =>
 Gt (rdv x49_2 H7) fun x50_2 =>
 Ca Tryz.prog 111 [x50_2] H7 (fun x51_2 H8 =>
 Sm (rdv x45_2 H8) x46_2 <|
 Ca Tryz.prog 110 [x46_2, x51_2] H8 (fun x52_2 H9 =>
 Gt (bdV z67 [(0, 1), (1, 1), (2, 1), (3, 2), (5, 1), (6, 1), (7, 1), (8, 1), (9, 1)] [(2, x35), (8, x34)]) fun x55_2 =>
 Gt (stV 10 (.pointer (some ⟨b4, 0, none⟩)) x55_2 H9) fun H10 =>
 Gt (rda 10 (.pointer (some ⟨b4, 0, none⟩)) H10) fun u2 =>
 R (.tuple #[u2, (.int .i64 0)]) H10) X) X) X)
 (Gt (binI .eql x35 (.int .i64 120)) fun x57_2 =>
 If x57_2
 (Ca Tryz.prog 82 [x35] H6 (fun x59_2 H11 =>
 Gt (stV 10 (.pointer (some ⟨b4, 0, none⟩)) x59_2 H11) fun H12 =>
 Gt (rda 10 (.pointer (some ⟨b4, 0, none⟩)) H12) fun u3 =>
 R (.tuple #[u3, (.int .i64 0)]) H12) X)
 (Gt (bdV z67 [(0, 1), (1, 1), (2, 1), (3, 2), (5, 1), (6, 1), (7, 1), (8, 1), (9, 1)] []) fun x60 =>
 Gt (stV 10 (.pointer (some ⟨b4, 0, none⟩)) x60 H6) fun H13 =>
 Gt (rda 10 (.pointer (some ⟨b4, 0, none⟩)) H13) fun u4 =>
 R (.tuple #[u4, x35]) H13))) fun (I1 : Value → Heap → Prop) =>
 If x38
 (I1 x38 H5)
 (Gt (binI .eql x35 (.int .i64 190)) fun x39 =>
 I1 x39 H5)) X) X) X
theorem l137 (h : i137 x0 x1 H R X) : Runs Tryz.prog 137 [x0, x1] H R X := runs_e tbOk mixed Tryz.func137 (A := [(233, [37])]) (by kernel_rfl) h

-- (*cloister/disk.Disk).find
def i139 (x0 x1 : Value) (H : Heap) (R : Value → Heap → Prop) (X : List PanicEntry → Heap → Prop) : Prop :=
 Gt ((ptrEq 2 x0 (.pointer none) H).map Value.bool) fun x8 =>
 If x8
 (R (.tuple #[(.pointer none), (.int .i64 1)]) H)
 (Gt (binI .lss x1 (.int .i64 0)) fun x11 =>
 Gt (ifO x11 ((some (.bool true))) ((ncV tb x0).bind fun x15 =>
 (faV 0 x15).bind fun x16 =>
 (rdv x16 H).bind fun x17 =>
 (lnV x17).bind fun x18 =>
 (binI .geq x1 x18).bind fun x19 =>
 (some x19))) fun x20 =>
 If x20
 (R (.tuple #[(.pointer none), (.int .i64 81)]) H)
 (Gt (ncV tb x0) fun x22 =>
 Gt (faV 0 x22) fun x23 =>
 Gt (rdv x23 H) fun x24 =>
 Gt (iaV 5 x24 x1) fun x26 =>
 R (.tuple #[x26, (.int .i64 0)]) H))
theorem l139 (h : i139 x0 x1 H R X) : Runs Tryz.prog 139 [x0, x1] H R X := runs_e tbOk mixed Tryz.func139 (A := []) (by kernel_rfl) h

-- (*cloister/area.Area).Bounds
def i140 (x0 : Value) (H : Heap) (R : Value → Heap → Prop) (X : List PanicEntry → Heap → Prop) : Prop :=
 Gt ((ptrEq 3 x0 (.pointer none) H).map Value.bool) fun x6 =>
 If x6
 (R (.tuple #[(.int .i64 0), (.int .i64 0), (.int .i64 0)]) H)
 (Gt (ncV tb x0) fun x8 =>
 Gt (faV 0 x8) fun x9 =>
 Gt (rdv x9 H) fun x10 =>
 Gt (ncV tb x0) fun x12 =>
 Gt (faV 0 x12) fun x13 =>
 Gt (rdv x13 H) fun x14 =>
 Gt (ncV tb x0) fun x16 =>
 Gt (faV 2 x16) fun x17 =>
 Gt (rdv x17 H) fun x18 =>
 Gt (binI .add x14 x18) fun x19 =>
 Gt (ncV tb x0) fun x21 =>
 Gt (faV 0 x21) fun x22 =>
 Gt (rdv x22 H) fun x23 =>
 Gt (ncV tb x0) fun x25 =>
 Gt (faV 1 x25) fun x26 =>
 Gt (rdv x26 H) fun x27 =>
 Gt (lnV x27) fun x28 =>
 Gt (binI .add x23 x28) fun x29 =>
 R (.tuple #[x10, x19, x29]) H)
theorem l140 (h : i140 x0 H R X) : Runs Tryz.prog 140 [x0] H R X := runs_e tbOk mixed Tryz.func140 (A := []) (by kernel_rfl) h

-- cloister/entry.Check
def i141 (x0 : Value) (H : Heap) (R : Value → Heap → Prop) (X : List PanicEntry → Heap → Prop) : Prop :=
 Nw (.cells x0.cells 182 (0, 0)) H fun b1 H1 =>
 Gt (faV 0 (.pointer (some ⟨b1, 0, none⟩))) fun x5 =>
 Gt (rdv x5 H1) fun x6 =>
 Ca Tryz.prog 143 [x6] H1 (fun x7 H2 =>
 Gt (faV 3 (.pointer (some ⟨b1, 0, none⟩))) fun x8 =>
 Gt (rdv x8 H2) fun x9 =>
 Gt (lsV x9) fun x10 =>
 Gt (binI .geq x10 (.int .i64 1)) fun x11 =>
 Gt (ifO x11 ((faV 3 (.pointer (some ⟨b1, 0, none⟩))).bind fun x13 =>
 (rdv x13 H2).bind fun x14 =>
 (lsV x14).bind fun x15 =>
 (binI .leq x15 (.int .i64 255)).bind fun x16 =>
 (some x16)) ((some (.bool false)))) fun x17 =>
 Gt (binI .eql x7 (.int .i64 0)) fun x20 =>
 If x20
 (If x20
 (R (.int .i64 100) H2)
 (R (.int .i64 0) H2))
 (Gt (binI .and x7 (.int .i64 1)) fun x22 =>
 Gt (binI .neq x22 (.int .i64 0)) fun x23 =>
 Gt (ifO x23 ((unV .not x17).bind fun x26 =>
 (some x26)) ((some (.bool false)))) fun x27 =>
 If x27
 (If x27
 (R (.int .i64 100) H2)
 (R (.int .i64 0) H2))
 (Gt (binI .and x7 (.int .i64 1)) fun x29 =>
 Gt (binI .eql x29 (.int .i64 0)) fun x30 =>
 Gt (ifO x30 ((faV 3 (.pointer (some ⟨b1, 0, none⟩))).bind fun x32 =>
 (rdv x32 H2).bind fun x33 =>
 (binS .neq x33 (.string ⟨#[]⟩)).bind fun x34 =>
 (some x34)) ((some (.bool false)))) fun x35 =>
 If x35
 (If x35
 (R (.int .i64 100) H2)
 (R (.int .i64 0) H2))
 (Gt (binI .and x7 (.int .i64 2)) fun x37 =>
 Gt (binI .eql x37 (.int .i64 0)) fun x38 =>
 Gt (ifO x38 ((faV 1 (.pointer (some ⟨b1, 0, none⟩))).bind fun x40 =>
 (rdv x40 H2).bind fun x41 =>
 (binI .neq x41 (.int .i64 0)).bind fun x42 =>
 (some x42)) ((some (.bool false)))) fun x43 =>
 If x43
 (If x43
 (R (.int .i64 100) H2)
 (R (.int .i64 0) H2))
 (Gt (faV 1 (.pointer (some ⟨b1, 0, none⟩))) fun x44 =>
 Gt (rdv x44 H2) fun x45 =>
 Gt (binI .lss x45 (.int .i64 0)) fun x46 =>
 Gt (ifO x46 ((some (.bool true))) ((faV 1 (.pointer (some ⟨b1, 0, none⟩))).bind fun x48 =>
 (rdv x48 H2).bind fun x49 =>
 (binI .gtr x49 (.int .i64 4611686018427387904)).bind fun x50 =>
 (some x50))) fun x51 =>
 If x51
 (If x51
 (R (.int .i64 100) H2)
 (R (.int .i64 0) H2))
 (Gt (binI .and x7 (.int .i64 4)) fun x53 =>
 Gt (binI .eql x53 (.int .i64 0)) fun x54 =>
 Gt (ifO x54 ((faV 2 (.pointer (some ⟨b1, 0, none⟩))).bind fun x56 =>
 (rdv x56 H2).bind fun x57 =>
 (binI .neq x57 (.int .i64 0)).bind fun x58 =>
 (some x58)) ((some (.bool false)))) fun x59 =>
 If x59
 (If x59
 (R (.int .i64 100) H2)
 (R (.int .i64 0) H2))
 (Gt (faV 2 (.pointer (some ⟨b1, 0, none⟩))) fun x60 =>
 Gt (rdv x60 H2) fun x61 =>
 Gt (binI .lss x61 (.int .i64 0)) fun x62 =>
 Gt (ifO x62 ((some (.bool true))) ((faV 2 (.pointer (some ⟨b1, 0, none⟩))).bind fun x64 =>
 (rdv x64 H2).bind fun x65 =>
 (binI .gtr x65 (.int .i64 2147483647)).bind fun x66 =>
 (some x66))) fun x67 =>
 If x67
 (If x67
 (R (.int .i64 100) H2)
 (R (.int .i64 0) H2))
 (Gt (binI .and x7 (.int .i64 8)) fun x69 =>
 Gt (binI .eql x69 (.int .i64 0)) fun x70 =>
 Gt (ifO x70 ((faV 5 (.pointer (some ⟨b1, 0, none⟩))).bind fun x72 =>
 (rdv x72 H2).bind fun x73 =>
 (some x73)) ((some (.bool false)))) fun x74 =>
 If x74
 (If x74
 (R (.int .i64 100) H2)
 (R (.int .i64 0) H2))
 (Gt (binI .and x7 (.int .i64 16)) fun x76 =>
 Gt (binI .eql x76 (.int .i64 0)) fun x77 =>
 Gt (ifO x77 ((some (.bool true))) ((faV 5 (.pointer (some ⟨b1, 0, none⟩))).bind fun x79 =>
 (rdv x79 H2).bind fun x80 =>
 (some x80))) fun x81 =>
 Gt (ifO x81 ((faV 4 (.pointer (some ⟨b1, 0, none⟩))).bind fun x83 =>
 (rdv x83 H2).bind fun x84 =>
 (lnV x84).bind fun x85 =>
 (binI .gtr x85 (.int .i64 0)).bind fun x86 =>
 (some x86)) ((some (.bool false)))) fun x87 =>
 If x87
 (If x87
 (R (.int .i64 100) H2)
 (R (.int .i64 0) H2))
 (Gt (faV 4 (.pointer (some ⟨b1, 0, none⟩))) fun x88 =>
 Gt (rdv x88 H2) fun x89 =>
 Gt (lnV x89) fun x90 =>
 Gt (binI .gtr x90 (.int .i64 4096)) fun x91 =>
 If x91
 (R (.int .i64 100) H2)
 (R (.int .i64 0) H2))))))))))) X
theorem l141 (h : i141 x0 H R X) : Runs Tryz.prog 141 [x0] H R X := runs_e tbOk mixed Tryz.func141 (A := []) (by kernel_rfl) h

-- cloister/codec.Put[uint8]
def i142 (x0 x1 : Value) (H : Heap) (R : Value → Heap → Prop) (X : List PanicEntry → Heap → Prop) : Prop :=
 Ca Tryz.prog 192 [x0] H (fun x7 H1 =>
 Ca Tryz.prog 193 [] H1 (fun x8 H2 =>
 Gt (binI .sub x8 (.int .i64 1)) fun x9 =>
 Lp fun (I1 : Value → Value → Heap → Prop) (M1 : Value → Value → Heap → Nat) => I1 x7 x9 H2 ∧ ∀ (H3 : Heap) (x0_1 : Value) (x5 : Value), I1 x0_1 x5 H3 →
 Gt (binI .geq x5 (.int .i64 0)) fun x11 =>
 If x11
 (Gt (cvV .u64 x1) fun x16 =>
 Gt (binI .mul (.int .i64 8) x5) fun x18 =>
 Gt (binI .shr x16 x18) fun x19 =>
 Gt (cvV .u8 x19) fun x20 =>
 Gt (bsV 1 1 z5 [(0, x20)]) fun c21 =>
 Nw (.cells c21.toArray 5 (0, 0)) H3 fun b21_1 H4 =>
 Ap 5 1 1 z5 x0_1 (.slice (some ⟨b21_1, 0, none⟩) 1 1) H4 (fun x22 H5 =>
 Gt (binI .sub x5 (.int .i64 1)) fun x13 =>
 I1 x22 x13 H5 ∧ Nat.lt (M1 x22 x13 H5) (M1 x0_1 x5 H3)))
 (R x0_1 H3)) X) X
theorem l142 (h : i142 x0 x1 H R X) : Runs Tryz.prog 142 [x0, x1] H R X := runs_e tbOk mixed Tryz.func142 (A := [(58, [0, 5])]) (by kernel_rfl) h

-- cloister/entry.fields
def i143 (x0 : Value) (H : Heap) (R : Value → Heap → Prop) (X : List PanicEntry → Heap → Prop) : Prop :=
 Gt (binI .eql x0 (.int .i64 1)) fun x5 =>
 If x5
 (R (.int .i64 17) H)
 (Gt (binI .eql x0 (.int .i64 2)) fun x7 =>
 If x7
 (R (.int .i64 1) H)
 (Gt (binI .eql x0 (.int .i64 3)) fun x9 =>
 If x9
 (If x9
 (R (.int .i64 6) H)
 (Gt (binI .eql x0 (.int .i64 5)) fun x13 =>
 If x13
 (R (.int .i64 27) H)
 (R (.int .i64 0) H)))
 (Gt (binI .eql x0 (.int .i64 4)) fun x10 =>
 If x10
 (If x10
 (R (.int .i64 6) H)
 (Gt (binI .eql x0 (.int .i64 5)) fun x13_1 =>
 If x13_1
 (R (.int .i64 27) H)
 (R (.int .i64 0) H)))
 (Gt (binI .eql x0 (.int .i64 6)) fun x11 =>
 If x11
 (R (.int .i64 6) H)
 (Gt (binI .eql x0 (.int .i64 5)) fun x13_2 =>
 If x13_2
 (R (.int .i64 27) H)
 (R (.int .i64 0) H))))))
theorem l143 (h : i143 x0 H R X) : Runs Tryz.prog 143 [x0] H R X := runs_e tbOk mixed Tryz.func143 (A := []) (by kernel_rfl) h

-- cloister/codec.PutText
def i144 (x0 x1 : Value) (H : Heap) (R : Value → Heap → Prop) (X : List PanicEntry → Heap → Prop) : Prop :=
 Gt (lsV x1) fun x7 =>
 Ca Tryz.prog 145 [x0, x7] H (fun x8 H1 =>
 Ap 5 1 1 z5 x8 x1 H1 (fun x10 H2 =>
 R x10 H2)) X
theorem l144 (h : i144 x0 x1 H R X) : Runs Tryz.prog 144 [x0, x1] H R X := runs_e tbOk mixed Tryz.func144 (A := []) (by kernel_rfl) h

-- cloister/codec.PutInt
def i145 (x0 x1 : Value) (H : Heap) (R : Value → Heap → Prop) (X : List PanicEntry → Heap → Prop) : Prop :=
 Ca Tryz.prog 192 [x0] H (fun x6 H1 =>
 Ca Tryz.prog 194 [x6, x1] H1 (fun x8 H2 =>
 R x8 H2) X) X
theorem l145 (h : i145 x0 x1 H R X) : Runs Tryz.prog 145 [x0, x1] H R X := runs_e tbOk mixed Tryz.func145 (A := []) (by kernel_rfl) h

-- cloister/codec.PutBytes
def i146 (x0 x1 : Value) (H : Heap) (R : Value → Heap → Prop) (X : List PanicEntry → Heap → Prop) : Prop :=
 Gt (lnV x1) fun x7 =>
 Ca Tryz.prog 145 [x0, x7] H (fun x8 H1 =>
 Ap 5 1 1 z5 x8 x1 H1 (fun x10 H2 =>
 R x10 H2)) X
theorem l146 (h : i146 x0 x1 H R X) : Runs Tryz.prog 146 [x0, x1] H R X := runs_e tbOk mixed Tryz.func146 (A := []) (by kernel_rfl) h

-- cloister/codec.Put[uint32]
def i147 (x0 x1 : Value) (H : Heap) (R : Value → Heap → Prop) (X : List PanicEntry → Heap → Prop) : Prop :=
 Ca Tryz.prog 192 [x0] H (fun x7 H1 =>
 Ca Tryz.prog 195 [] H1 (fun x8 H2 =>
 Gt (binI .sub x8 (.int .i64 1)) fun x9 =>
 Lp fun (I1 : Value → Value → Heap → Prop) (M1 : Value → Value → Heap → Nat) => I1 x7 x9 H2 ∧ ∀ (H3 : Heap) (x0_1 : Value) (x5 : Value), I1 x0_1 x5 H3 →
 Gt (binI .geq x5 (.int .i64 0)) fun x11 =>
 If x11
 (Gt (cvV .u64 x1) fun x16 =>
 Gt (binI .mul (.int .i64 8) x5) fun x18 =>
 Gt (binI .shr x16 x18) fun x19 =>
 Gt (cvV .u8 x19) fun x20 =>
 Gt (bsV 1 1 z5 [(0, x20)]) fun c21 =>
 Nw (.cells c21.toArray 5 (0, 0)) H3 fun b21_1 H4 =>
 Ap 5 1 1 z5 x0_1 (.slice (some ⟨b21_1, 0, none⟩) 1 1) H4 (fun x22 H5 =>
 Gt (binI .sub x5 (.int .i64 1)) fun x13 =>
 I1 x22 x13 H5 ∧ Nat.lt (M1 x22 x13 H5) (M1 x0_1 x5 H3)))
 (R x0_1 H3)) X) X
theorem l147 (h : i147 x0 x1 H R X) : Runs Tryz.prog 147 [x0, x1] H R X := runs_e tbOk mixed Tryz.func147 (A := [(58, [0, 5])]) (by kernel_rfl) h

-- cloister/sum.Of
def i148 (x0 : Value) (H : Heap) (R : Value → Heap → Prop) (X : List PanicEntry → Heap → Prop) : Prop :=
 Ca Tryz.prog 196 [(.int .u32 0), x0] H (fun x4 H1 =>
 R x4 H1) X
theorem l148 (h : i148 x0 H R X) : Runs Tryz.prog 148 [x0] H R X := runs_e tbOk mixed Tryz.func148 (A := []) (by kernel_rfl) h

-- (*cloister/disk.Disk).operate
def i149 (x0 x1 x2 : Value) (H : Heap) (R : Value → Heap → Prop) (X : List PanicEntry → Heap → Prop) : Prop :=
 Ca Tryz.prog 139 [x0, x1] H (fun x12 H1 =>
 Gt (exV 0 x12) fun x13 =>
 Gt (exV 1 x12) fun x14 =>
 Gt (binI .neq x14 (.int .i64 0)) fun x16 =>
 If x16
 (R x14 H1)
 (Jo (fun (I1 : Value → Heap → Prop) => ∀ (H2 : Heap) (x33 : Value), I1 x33 H2 →
 If x33
 (R (.int .i64 80) H2)
 (Gt (ncV tb x13) fun x36_2 =>
 Gt (faV 0 x36_2) fun x37_2 =>
 Gt (rdv x37_2 H2) fun x38_2 =>
 Cv Tryz.prog tb x2 [x38_2] H2 (fun x39_2 H3 =>
 Gt (binI .eql x39_2 (.int .i64 0)) fun x41_2 =>
 If x41_2
 (Gt (ncV tb x13) fun x43_2 =>
 Gt (faV 4 x43_2) fun x44_2 =>
 Gt (rdv x44_2 H3) fun x45_2 =>
 Gt (binI .add x45_2 (.int .i64 1)) fun x46_2 =>
 Gt (ncV tb x13) fun x47_2 =>
 Gt (faV 4 x47_2) fun x48_2 =>
 Gt (stV 1 x48_2 x46_2 H3) fun H4 =>
 R x39_2 H4)
 (R x39_2 H3)) X)) fun (I1 : Value → Heap → Prop) =>
 Gt (ncV tb x0) fun x19 =>
 Gt (faV 1 x19) fun x20 =>
 Gt (rdv x20 H1) fun x21 =>
 If x21 (Gt (ncV tb x13) fun x24 =>
 Gt (faV 4 x24) fun x25 =>
 Gt (rdv x25 H1) fun x26 =>
 Gt (ncV tb x13) fun x28 =>
 Gt (faV 1 x28) fun x29 =>
 Gt (faV 0 x29) fun x30 =>
 Gt (rdv x30 H1) fun x31 =>
 Gt (binI .geq x26 x31) fun x32 =>
 I1 x32 H1) (I1 (.bool false) H1))) X
theorem l149 (h : i149 x0 x1 x2 H R X) : Runs Tryz.prog 149 [x0, x1, x2] H R X := runs_e tbOk mixed Tryz.func149 (A := [(60, [33])]) (by kernel_rfl) h

-- (*cloister/disk.Disk).Append$1
def i150 (x0 x1 : Value) (H : Heap) (R : Value → Heap → Prop) (X : List PanicEntry → Heap → Prop) : Prop :=
 Gt (rdv x1 H) fun x5 =>
 Ca Tryz.prog 151 [x0, x5] H (fun x6 H1 =>
 R x6 H1) X
theorem l150 (h : i150 x0 x1 H R X) : Runs Tryz.prog 150 [x0, x1] H R X := runs_e tbOk mixed Tryz.func150 (A := []) (by kernel_rfl) h

-- (*cloister/area.Area).Append
def i151 (x0 x1 : Value) (H : Heap) (R : Value → Heap → Prop) (X : List PanicEntry → Heap → Prop) : Prop :=
 Gt ((ptrEq 3 x0 (.pointer none) H).map Value.bool) fun x6 =>
 If x6
 (R (.int .i64 1) H)
 (Gt (ncV tb x0) fun x9 =>
 Gt (faV 1 x9) fun x10 =>
 Gt (rdv x10 H) fun x11 =>
 Ap 5 1 1 z5 x11 x1 H (fun x13 H1 =>
 Gt (ncV tb x0) fun x14 =>
 Gt (faV 1 x14) fun x15 =>
 Gt (stV 1 x15 x13 H1) fun H2 =>
 R (.int .i64 0) H2))
theorem l151 (h : i151 x0 x1 H R X) : Runs Tryz.prog 151 [x0, x1] H R X := runs_e tbOk mixed Tryz.func151 (A := []) (by kernel_rfl) h

-- cloister/entry.own
def i155 (x0 : Value) (H : Heap) (R : Value → Heap → Prop) (X : List PanicEntry → Heap → Prop) : Prop :=
 Ap 5 1 1 z5 (.slice none 0 0) x0 H (fun x4 H1 =>
 R x4 H1)
theorem l155 (h : i155 x0 H R X) : Runs Tryz.prog 155 [x0] H R X := runs_e tbOk mixed Tryz.func155 (A := []) (by kernel_rfl) h

-- (*cloister/area.Area).Sync
def i156 (x0 : Value) (H : Heap) (R : Value → Heap → Prop) (X : List PanicEntry → Heap → Prop) : Prop :=
 Gt ((ptrEq 3 x0 (.pointer none) H).map Value.bool) fun x4 =>
 If x4
 (R (.int .i64 1) H)
 (Gt (ncV tb x0) fun x7 =>
 Gt (faV 1 x7) fun x8 =>
 Gt (rdv x8 H) fun x9 =>
 Gt (lnV x9) fun x10 =>
 Gt (ncV tb x0) fun x11 =>
 Gt (faV 2 x11) fun x12 =>
 Gt (stV 1 x12 x10 H) fun H1 =>
 R (.int .i64 0) H1)
theorem l156 (h : i156 x0 H R X) : Runs Tryz.prog 156 [x0] H R X := runs_e tbOk mixed Tryz.func156 (A := []) (by kernel_rfl) h

-- slices.Sorted[string]
def i159 (x0 : Value) (H : Heap) (R : Value → Heap → Prop) (X : List PanicEntry → Heap → Prop) : Prop :=
 Ca Tryz.prog 200 [x0] H (fun x5 H1 =>
 Ca Tryz.prog 201 [x5] H1 (fun x7 H2 =>
 R x5 H2) X) X
theorem l159 (h : i159 x0 H R X) : Runs Tryz.prog 159 [x0] H R X := runs_e tbOk mixed Tryz.func159 (A := []) (by kernel_rfl) h

-- cloister/label.Check
def i161 (x0 : Value) (H : Heap) (R : Value → Heap → Prop) (X : List PanicEntry → Heap → Prop) : Prop :=
 Gt (lnV x0) fun x9 =>
 Gt (binI .lss x9 (.int .i64 1)) fun x10 =>
 Gt (ifO x10 ((some (.bool true))) ((lnV x0).bind fun x13 =>
 (binI .gtr x13 (.int .i64 16)).bind fun x14 =>
 (some x14))) fun x15 =>
 If x15
 (R (.int .i64 10) H)
 (Lp fun (I1 : Value → Heap → Prop) (M1 : Value → Heap → Nat) => I1 (.int .i64 1) H ∧ ∀ (H1 : Heap) (x3 : Value), I1 x3 H1 →
 Gt (lnV x0) fun x18 =>
 Gt (binI .lss x3 x18) fun x19 =>
 If x19
 (Gt (iaV 1 x0 x3) fun x24 =>
 Gt (rdv x24 H1) fun x25 =>
 Gt (binI .sub x3 (.int .i64 1)) fun x28 =>
 Gt (iaV 1 x0 x28) fun x29 =>
 Gt (rdv x29 H1) fun x30 =>
 Gt (binI .leq x25 x30) fun x31 =>
 If x31
 (R (.int .i64 11) H1)
 (Gt (binI .add x3 (.int .i64 1)) fun x21 =>
 I1 x21 H1 ∧ Nat.lt (M1 x21 H1) (M1 x3 H1)))
 (Gt (lnV x0) fun x33 =>
 Lp fun (I2 : Value → Heap → Prop) (M2 : Value → Heap → Nat) => I2 (.int .i64 0) H1 ∧ ∀ (H2 : Heap) (x34 : Value), I2 x34 H2 →
 Gt (binI .lss x34 x33) fun x35 =>
 If x35
 (Gt (iaV 1 x0 x34) fun x37 =>
 Gt (rdv x37 H2) fun x38 =>
 Gt (slV 1 x0 none (some x34)) fun x41 =>
 Gt (lnV x41) fun x42 =>
 Lp fun (I3 : Value → Heap → Prop) (M3 : Value → Heap → Nat) => I3 (.int .i64 0) H2 ∧ ∀ (H3 : Heap) (x43 : Value), I3 x43 H3 →
 Gt (binI .lss x43 x42) fun x44 =>
 If x44
 (Gt (iaV 1 x41 x43) fun x45 =>
 Gt (rdv x45 H3) fun x46 =>
 Ca Tryz.prog 204 [x38, x46] H3 (fun x50 H4 =>
 Ca Tryz.prog 203 [x0, x50] H4 (fun x51 H5 =>
 Gt (unV .not x51) fun x52 =>
 If x52 (If (.bool true)
 (R (.int .i64 12) H5)
 (Gt (binI .add x43 (.int .i64 1)) fun x61 =>
 I3 x61 H5 ∧ Nat.lt (M3 x61 H5) (M3 x43 H3))) (Ca Tryz.prog 205 [x38, x46] H5 (fun x57 H6 =>
 Ca Tryz.prog 203 [x0, x57] H6 (fun x58 H7 =>
 Gt (unV .not x58) fun x59 =>
 If x59
 (R (.int .i64 12) H7)
 (Gt (binI .add x43 (.int .i64 1)) fun x61_1 =>
 I3 x61_1 H7 ∧ Nat.lt (M3 x61_1 H7) (M3 x43 H3))) X) X)) X) X)
 (Gt (binI .add x34 (.int .i64 1)) fun x62 =>
 I2 x62 H3 ∧ Nat.lt (M2 x62 H3) (M2 x34 H2)))
 (R (.int .i64 0) H2)))
theorem l161 (h : i161 x0 H R X) : Runs Tryz.prog 161 [x0] H R X := runs_e tbOk mixed Tryz.func161 (A := [(58, [3]), (122, [34]), (31334, [43])]) (by kernel_rfl) h

-- cloister/label.within
def i162 (x0 x1 : Value) (H : Heap) (R : Value → Heap → Prop) (X : List PanicEntry → Heap → Prop) : Prop :=
 Gt (binI .geq x0 (.int .i64 0)) fun x6 =>
 Gt (ifO x6 ((binI .leq x0 x1).bind fun x10 =>
 (some x10)) ((some (.bool false)))) fun x11 =>
 R x11 H
theorem l162 (h : i162 x0 x1 H R X) : Runs Tryz.prog 162 [x0, x1] H R X := runs_e tbOk mixed Tryz.func162 (A := []) (by kernel_rfl) h

-- slices.Clone[[]cloister/api.Label,cloister/api.Label]
def i163 (x0 : Value) (H : Heap) (R : Value → Heap → Prop) (X : List PanicEntry → Heap → Prop) : Prop :=
 Gt ((nilEq (.slice 155) x0 (.slice none 0 0)).map Value.bool) fun x4 =>
 If x4
 (R (.slice none 0 0) H)
 (Gt (bsV 1 0 z155 []) fun c5 =>
 Nw (.cells c5.toArray 155 (0, 0)) H fun b5_1 H1 =>
 Ap 155 1 8 z155 (.slice (some ⟨b5_1, 0, none⟩) 0 0) x0 H1 (fun x7 H2 =>
 R x7 H2))
theorem l163 (h : i163 x0 H R X) : Runs Tryz.prog 163 [x0] H R X := runs_e tbOk mixed Tryz.func163 (A := []) (by kernel_rfl) h

-- slices.Clone[[]cloister/api.Account,cloister/api.Account]
def i164 (x0 : Value) (H : Heap) (R : Value → Heap → Prop) (X : List PanicEntry → Heap → Prop) : Prop :=
 Gt ((nilEq (.slice 104) x0 (.slice none 0 0)).map Value.bool) fun x4 =>
 If x4
 (R (.slice none 0 0) H)
 (Gt (bsV 5 0 z104 []) fun c5 =>
 Nw (.cells c5.toArray 104 (0, 0)) H fun b5_1 H1 =>
 Ap 104 5 40 z104 (.slice (some ⟨b5_1, 0, none⟩) 0 0) x0 H1 (fun x7 H2 =>
 R x7 H2))
theorem l164 (h : i164 x0 H R X) : Runs Tryz.prog 164 [x0] H R X := runs_e tbOk mixed Tryz.func164 (A := []) (by kernel_rfl) h

-- slices.Clone[[]int,int]
def i165 (x0 : Value) (H : Heap) (R : Value → Heap → Prop) (X : List PanicEntry → Heap → Prop) : Prop :=
 Gt ((nilEq (.slice 3) x0 (.slice none 0 0)).map Value.bool) fun x4 =>
 If x4
 (R (.slice none 0 0) H)
 (Gt (bsV 1 0 z3 []) fun c5 =>
 Nw (.cells c5.toArray 3 (0, 0)) H fun b5_1 H1 =>
 Ap 3 1 8 z3 (.slice (some ⟨b5_1, 0, none⟩) 0 0) x0 H1 (fun x7 H2 =>
 R x7 H2))
theorem l165 (h : i165 x0 H R X) : Runs Tryz.prog 165 [x0] H R X := runs_e tbOk mixed Tryz.func165 (A := []) (by kernel_rfl) h

-- cloister/label.places
def i166 (x0 x1 : Value) (H : Heap) (R : Value → Heap → Prop) (X : List PanicEntry → Heap → Prop) : Prop :=
 Gt (lnV x0) fun x9 =>
 Lp fun (I1 : Value → Value → Heap → Prop) (M1 : Value → Value → Heap → Nat) => I1 (.slice none 0 0) (.int .i64 0) H ∧ ∀ (H1 : Heap) (x5 : Value) (x10 : Value), I1 x5 x10 H1 →
 Gt (binI .lss x10 x9) fun x11 =>
 If x11
 (Gt (iaV 1 x0 x10) fun x13 =>
 Gt (rdv x13 H1) fun x14 =>
 Cv Tryz.prog tb x1 [x14] H1 (fun x17 H2 =>
 If x17
 (Gt (bsV 1 1 z3 [(0, x10)]) fun c20 =>
 Nw (.cells c20.toArray 3 (0, 0)) H2 fun b20_1 H3 =>
 Ap 3 1 8 z3 x5 (.slice (some ⟨b20_1, 0, none⟩) 1 1) H3 (fun x21 H4 =>
 Gt (binI .add x10 (.int .i64 1)) fun x22 =>
 I1 x21 x22 H4 ∧ Nat.lt (M1 x21 x22 H4) (M1 x5 x10 H1)))
 (Gt (binI .add x10 (.int .i64 1)) fun x22_1 =>
 I1 x5 x22_1 H2 ∧ Nat.lt (M1 x5 x22_1 H2) (M1 x5 x10 H1))) X)
 (R x5 H1)
theorem l166 (h : i166 x0 x1 H R X) : Runs Tryz.prog 166 [x0, x1] H R X := runs_e tbOk mixed Tryz.func166 (A := [(58, [5, 10])]) (by kernel_rfl) h

-- cloister/label.Down$1
def i167 (x0 x1 : Value) (H : Heap) (R : Value → Heap → Prop) (X : List PanicEntry → Heap → Prop) : Prop :=
 Gt (rdv x1 H) fun x5 =>
 Ca Tryz.prog 168 [x0, x5] H (fun x6 H1 =>
 R x6 H1) X
theorem l167 (h : i167 x0 x1 H R X) : Runs Tryz.prog 167 [x0, x1] H R X := runs_e tbOk mixed Tryz.func167 (A := []) (by kernel_rfl) h

-- cloister/label.Leq
def i168 (x0 x1 : Value) (H : Heap) (R : Value → Heap → Prop) (X : List PanicEntry → Heap → Prop) : Prop :=
 Gt (binI .andNot x0 x1) fun x7 =>
 Gt (binI .eql x7 (.int .u64 0)) fun x8 =>
 R x8 H
theorem l168 (h : i168 x0 x1 H R X) : Runs Tryz.prog 168 [x0, x1] H R X := runs_e tbOk mixed Tryz.func168 (A := []) (by kernel_rfl) h

-- cloister/rebuild.Read
def i170 (x0 x1 : Value) (H : Heap) (R : Value → Heap → Prop) (X : List PanicEntry → Heap → Prop) : Prop :=
 Ca Tryz.prog 209 [] H (fun x10 H1 =>
 Gt (bdV z317 [(0, 1), (1, 1), (2, 1)] [(0, x10), (1, x1)]) fun x12 =>
 Nw (.cells x12.cells 317 (0, 0)) H1 fun b13 H2 =>
 Jo (fun (I3 : Heap → Prop) => ∀ (H8 : Heap), I3 H8 →
 Gt (ncV tb (.pointer (some ⟨b13, 0, none⟩))) fun x49_2 =>
 Gt (faV 0 x49_2) fun x50_2 =>
 Gt (rdv x50_2 H8) fun x51_2 =>
 Gt (ncV tb (.pointer (some ⟨b13, 0, none⟩))) fun x53_2 =>
 Gt (faV 1 x53_2) fun x54_2 =>
 Gt (rdv x54_2 H8) fun x55_2 =>
 Gt (ncV tb (.pointer (some ⟨b13, 0, none⟩))) fun x57_2 =>
 Gt (faV 2 x57_2) fun x58_2 =>
 Gt (rdv x58_2 H8) fun x59_2 =>
 R (.tuple #[x51_2, x55_2, x59_2]) H8) fun (I3 : Heap → Prop) =>
 Lp fun (I1 : Heap → Prop) (M1 : Heap → Nat) => I1 H2 ∧ ∀ (H3 : Heap), I1 H3 →
 Gt (ncV tb (.pointer (some ⟨b13, 0, none⟩))) fun x15 =>
 Gt (faV 2 x15) fun x16 =>
 Gt (rdv x16 H3) fun x17 =>
 Gt (lnV x0) fun x19 =>
 Gt (binI .lss x17 x19) fun x20 =>
 If x20
 (Gt (ncV tb (.pointer (some ⟨b13, 0, none⟩))) fun x23 =>
 Gt (faV 2 x23) fun x24 =>
 Gt (rdv x24 H3) fun x25 =>
 Gt (slV 6 x0 (some x25) none) fun x26 =>
 Gt (iaV 6 x26 (.int .i64 0)) fun x28 =>
 Gt (faV 0 x28) fun x29 =>
 Gt (rdv x29 H3) fun x30 =>
 Gt (binI .eql x30 (.int .i64 4)) fun x31 =>
 Jo (fun (I2 : Value → Heap → Prop) => ∀ (H6 : Heap) (x9 : Value), I2 x9 H6 →
 Gt (binI .eql x9 (.int .i64 0)) fun x39_2 =>
 If x39_2
 (I3 H6)
 (Gt (ncV tb (.pointer (some ⟨b13, 0, none⟩))) fun x41_2 =>
 Gt (faV 2 x41_2) fun x42_2 =>
 Gt (rdv x42_2 H6) fun x43_2 =>
 Gt (binI .add x43_2 x9) fun x45_2 =>
 Gt (ncV tb (.pointer (some ⟨b13, 0, none⟩))) fun x46_2 =>
 Gt (faV 2 x46_2) fun x47_2 =>
 Gt (stV 1 x47_2 x45_2 H6) fun H7 =>
 I1 H7 ∧ Nat.lt (M1 H7) (M1 H3))) fun (I2 : Value → Heap → Prop) =>
 If x31
 (Ca Tryz.prog 210 [(.pointer (some ⟨b13, 0, none⟩)), x26] H3 (fun x34 H4 =>
 I2 x34 H4) X)
 (Ca Tryz.prog 211 [(.pointer (some ⟨b13, 0, none⟩)), x26] H3 (fun x37 H5 =>
 I2 x37 H5) X))
 (I3 H3)) X
theorem l170 (h : i170 x0 x1 H R X) : Runs Tryz.prog 170 [x0, x1] H R X := runs_e tbOk mixed Tryz.func170 (A := [(28, []), (1813, [9]), (14, [])]) (by kernel_rfl) h

-- cloister/quota.within
def i172 (x0 x1 : Value) (H : Heap) (R : Value → Heap → Prop) (X : List PanicEntry → Heap → Prop) : Prop :=
 Gt (binI .geq x0 (.int .i64 0)) fun x6 =>
 Gt (ifO x6 ((binI .leq x0 x1).bind fun x10 =>
 (some x10)) ((some (.bool false)))) fun x11 =>
 R x11 H
theorem l172 (h : i172 x0 x1 H R X) : Runs Tryz.prog 172 [x0, x1] H R X := runs_e tbOk mixed Tryz.func172 (A := []) (by kernel_rfl) h

-- (*cloister/table.Table[*cloister/txn.Txn]).clear
def i173 (x0 : Value) (H : Heap) (R : Value → Heap → Prop) (X : List PanicEntry → Heap → Prop) : Prop :=
 Gt (ncV tb x0) fun x5 =>
 Gt (faV 2 x5) fun x6 =>
 Gt (rdv x6 H) fun x7 =>
 Gt (lnV x7) fun x8 =>
 Gt (mkV 8 x8 x8) fun m9 =>
 Nw (.cells (mkC 1 z246 m9.2) 246 (0, 0)) H fun b9_1 H1 =>
 Gt (ncV tb x0) fun x10 =>
 Gt (faV 1 x10) fun x11 =>
 Gt (stV 1 x11 (.slice (some ⟨b9_1, 0, none⟩) m9.1 m9.2) H1) fun H2 =>
 Gt (ncV tb x0) fun x13 =>
 Gt (faV 1 x13) fun x14 =>
 Gt (rdv x14 H2) fun x15 =>
 Gt (lnV x15) fun x16 =>
 Lp fun (I1 : Value → Heap → Prop) (M1 : Value → Heap → Nat) => I1 (.int .i64 0) H2 ∧ ∀ (H3 : Heap) (x17 : Value), I1 x17 H3 →
 Gt (binI .lss x17 x16) fun x18 =>
 If x18
 (Gt (ncV tb x0) fun x21 =>
 Gt (faV 1 x21) fun x22 =>
 Gt (rdv x22 H3) fun x23 =>
 Gt (ncV tb x0) fun x26 =>
 Gt (faV 2 x26) fun x27 =>
 Gt (rdv x27 H3) fun x28 =>
 Nw (.map #[] 0) H3 fun b30 H4 =>
 Gt (iaV 1 x23 x17) fun x31 =>
 Gt (stV 1 x31 (.map (some b30)) H4) fun H5 =>
 Gt (iaV 1 x28 x17) fun x32 =>
 Gt (stV 1 x32 (.int .i64 0) H5) fun H6 =>
 Gt (binI .add x17 (.int .i64 1)) fun x33 =>
 I1 x33 H6 ∧ Nat.lt (M1 x33 H6) (M1 x17 H3))
 (R (.tuple #[]) H3)
theorem l173 (h : i173 x0 H R X) : Runs Tryz.prog 173 [x0] H R X := runs_e tbOk mixed Tryz.func173 (A := [(14, [17])]) (by kernel_rfl) h

-- cloister/wset.New
def i181 (H : Heap) (R : Value → Heap → Prop) (X : List PanicEntry → Heap → Prop) : Prop :=
 Nw (.map #[] 0) H fun b1 H1 =>
 Gt (bdV z322 [(0, 1), (1, 1)] [(0, (.map (some b1)))]) fun x2 =>
 Nw (.cells x2.cells 322 (0, 0)) H1 fun b3 H2 =>
 R (.pointer (some ⟨b3, 0, none⟩)) H2
theorem l181 (h : i181 H R X) : Runs Tryz.prog 181 [] H R X := runs_e tbOk mixed Tryz.func181 (A := []) (by kernel_rfl) h

-- (*cloister/cell.Cell).isPlace
def i182 (x0 x1 : Value) (H : Heap) (R : Value → Heap → Prop) (X : List PanicEntry → Heap → Prop) : Prop :=
 Gt (binI .geq x1 (.int .i64 0)) fun x6 =>
 Gt (ifO x6 ((ncV tb x0).bind fun x10 =>
 (faV 0 x10).bind fun x11 =>
 (faV 0 x11).bind fun x12 =>
 (rdv x12 H).bind fun x13 =>
 (lnV x13).bind fun x14 =>
 (binI .lss x1 x14).bind fun x15 =>
 (some x15)) ((some (.bool false)))) fun x16 =>
 R x16 H
theorem l182 (h : i182 x0 x1 H R X) : Runs Tryz.prog 182 [x0, x1] H R X := runs_e tbOk mixed Tryz.func182 (A := []) (by kernel_rfl) h

-- (*cloister/txn.Txn).Put
def i186 (x0 x1 x2 x3 x4 : Value) (H : Heap) (R : Value → Heap → Prop) (X : List PanicEntry → Heap → Prop) : Prop :=
 Nw (.cells x0.cells 119 (0, 0)) H fun b5 H1 =>
 Nw (.cells x2.cells 9 (0, 0)) H1 fun b7 H2 =>
 Nw (.cells x3.cells 45 (0, 0)) H2 fun b8 H3 =>
 Gt (rdv (.pointer (some ⟨b5, 0, none⟩)) H3) fun x11 =>
 Gt (rdv (.pointer (some ⟨b7, 0, none⟩)) H3) fun x13 =>
 Gt (rdv (.pointer (some ⟨b8, 0, none⟩)) H3) fun x14 =>
 Gt (rdv (.pointer (some ⟨b7, 0, none⟩)) H3) fun x17 =>
 Gt (lsV x17) fun x18 =>
 Gt (rdv (.pointer (some ⟨b8, 0, none⟩)) H3) fun x19 =>
 Gt (lnV x19) fun x20 =>
 Gt (binI .add x18 x20) fun x21 =>
 Ca Tryz.prog 218 [x11, x1, x13, x14, x4, (.func (.func 219) #[] #[(.pointer (some ⟨b5, 0, none⟩)), (.pointer (some ⟨b7, 0, none⟩)), (.pointer (some ⟨b8, 0, none⟩))]), x21] H3 (fun x22 H4 =>
 R x22 H4) X
theorem l186 (h : i186 x0 x1 x2 x3 x4 H R X) : Runs Tryz.prog 186 [x0, x1, x2, x3, x4] H R X := runs_e tbOk mixed Tryz.func186 (A := []) (by kernel_rfl) h

-- cloister/commit.Do
def i188 (x0 x1 x2 x3 x4 : Value) (H : Heap) (R : Value → Heap → Prop) (X : List PanicEntry → Heap → Prop) : Prop :=
 Gt ((ptrEq 2 x0 (.pointer none) H).map Value.bool) fun x20 =>
 Gt (ifO x20 ((some (.bool true))) (((ptrEq 2 x1 (.pointer none) H).map Value.bool).bind fun x23 =>
 (some x23))) fun x24 =>
 Gt (ifO x24 ((some (.bool true))) (((ptrEq 2 x2 (.pointer none) H).map Value.bool).bind fun x27 =>
 (some x27))) fun x28 =>
 If x28
 (R (.tuple #[(.int .i64 0), (.int .i64 1)]) H)
 (Gt (lnV x3) fun x30 =>
 Gt (binI .eql x30 (.int .i64 0)) fun x31 =>
 If x31
 (R (.tuple #[(.int .i64 0), (.int .i64 0)]) H)
 (Ca Tryz.prog 223 [x0, x1, x3, x4] H (fun x36 H1 =>
 Gt (binI .neq x36 (.int .i64 0)) fun x38 =>
 If x38
 (R (.tuple #[(.int .i64 0), x36]) H1)
 (Ca Tryz.prog 60 [x1] H1 (fun x43 H2 =>
 Gt (binI .add x43 (.int .i64 1)) fun x44 =>
 Ca Tryz.prog 225 [x3, x44] H2 (fun x45 H3 =>
 Ca Tryz.prog 224 [x2, x45] H3 (fun x46 H4 =>
 Gt (binI .neq x46 (.int .i64 0)) fun x48 =>
 If x48
 (R (.tuple #[(.int .i64 0), x46]) H4)
 (Ca Tryz.prog 226 [x1] H4 (fun x52 H5 =>
 Gt (exV 0 x52) fun x53 =>
 Gt (exV 1 x52) fun x54 =>
 Gt (binI .neq x54 (.int .i64 0)) fun x56 =>
 If x56
 (R (.tuple #[(.int .i64 0), x54]) H5)
 (Gt (lnV x3) fun x59 =>
 Lp fun (I1 : Value → Heap → Prop) (M1 : Value → Heap → Nat) => I1 (.int .i64 0) H5 ∧ ∀ (H6 : Heap) (x60 : Value), I1 x60 H6 →
 Gt (binI .lss x60 x59) fun x61 =>
 If x61
 (Gt (iaV 4 x3 x60) fun x62 =>
 Gt (rda 4 x62 H6) fun x63 =>
 Nw (.cells z190.cells 190 (0, 0)) H6 fun b17 H7 =>
 Gt (stV 4 (.pointer (some ⟨b17, 0, none⟩)) x63 H7) fun H8 =>
 Gt (faV 1 (.pointer (some ⟨b17, 0, none⟩))) fun x65 =>
 Gt (stV 1 x65 x53 H8) fun H9 =>
 Gt (rda 4 (.pointer (some ⟨b17, 0, none⟩)) H9) fun x67 =>
 Ca Tryz.prog 227 [x0, x67] H9 (fun x68 H10 =>
 Gt (binI .neq x68 (.int .i64 0)) fun x70 =>
 If x70
 (R (.tuple #[(.int .i64 0), x68]) H10)
 (Gt (binI .add x60 (.int .i64 1)) fun x72 =>
 I1 x72 H10 ∧ Nat.lt (M1 x72 H10) (M1 x60 H6))) X)
 (R (.tuple #[x53, (.int .i64 0)]) H6))) X)) X) X) X)) X))
theorem l188 (h : i188 x0 x1 x2 x3 x4 H R X) : Runs Tryz.prog 188 [x0, x1, x2, x3, x4] H R X := runs_e tbOk mixed Tryz.func188 (A := [(2042, [60])]) (by kernel_rfl) h

-- (*cloister/txn.Txn).Writes
def i189 (x0 : Value) (H : Heap) (R : Value → Heap → Prop) (X : List PanicEntry → Heap → Prop) : Prop :=
 Gt ((ptrEq 4 x0 (.pointer none) H).map Value.bool) fun x4 =>
 If x4
 (R (.slice none 0 0) H)
 (Gt (ncV tb x0) fun x6 =>
 Gt (faV 2 x6) fun x7 =>
 Gt (rdv x7 H) fun x8 =>
 Ca Tryz.prog 228 [x8] H (fun x9 H1 =>
 R x9 H1) X)
theorem l189 (h : i189 x0 H R X) : Runs Tryz.prog 189 [x0] H R X := runs_e tbOk mixed Tryz.func189 (A := []) (by kernel_rfl) h

-- (*cloister/txn.Txn).Snapshot
def i190 (x0 : Value) (H : Heap) (R : Value → Heap → Prop) (X : List PanicEntry → Heap → Prop) : Prop :=
 Gt ((ptrEq 4 x0 (.pointer none) H).map Value.bool) fun x4 =>
 If x4
 (R (.slice none 0 0) H)
 (Gt (ncV tb x0) fun x6 =>
 Gt (faV 1 x6) fun x7 =>
 Gt (rdv x7 H) fun x8 =>
 Ca Tryz.prog 165 [x8] H (fun x9 H1 =>
 R x9 H1) X)
theorem l190 (h : i190 x0 H R X) : Runs Tryz.prog 190 [x0] H R X := runs_e tbOk mixed Tryz.func190 (A := []) (by kernel_rfl) h

-- (*cloister/cell.Cell).end
def i191 (x0 x1 : Value) (H : Heap) (R : Value → Heap → Prop) (X : List PanicEntry → Heap → Prop) : Prop :=
 Nw (.cells x1.cells 121 (0, 0)) H fun b3 H1 =>
 Gt (faV 9 (.pointer (some ⟨b3, 0, none⟩))) fun x4 =>
 Gt (rdv x4 H1) fun x5 =>
 Gt (ncV tb x0) fun x7 =>
 Gt (faV 7 x7) fun x8 =>
 Gt (rdv x8 H1) fun x9 =>
 Ca Tryz.prog 229 [x5, x9] H1 (fun x10 H2 =>
 Gt (ncV tb x0) fun x12 =>
 Gt (faV 9 x12) fun x13 =>
 Gt (rdv x13 H2) fun x14 =>
 Gt (faV 0 (.pointer (some ⟨b3, 0, none⟩))) fun x15 =>
 Gt (rdv x15 H2) fun x16 =>
 Gt (faV 1 (.pointer (some ⟨b3, 0, none⟩))) fun x17 =>
 Gt (faV 1 x17) fun x18 =>
 Gt (rda 2 x18 H2) fun x19 =>
 Ca Tryz.prog 230 [x14, x16, x19] H2 (fun x20 H3 =>
 R (.tuple #[]) H3) X) X
theorem l191 (h : i191 x0 x1 H R X) : Runs Tryz.prog 191 [x0, x1] H R X := runs_e tbOk mixed Tryz.func191 (A := []) (by kernel_rfl) h

-- cloister/codec.own
def i192 (x0 : Value) (H : Heap) (R : Value → Heap → Prop) (X : List PanicEntry → Heap → Prop) : Prop :=
 Ap 5 1 1 z5 (.slice none 0 0) x0 H (fun x4 H1 =>
 R x4 H1)
theorem l192 (h : i192 x0 H R X) : Runs Tryz.prog 192 [x0] H R X := runs_e tbOk mixed Tryz.func192 (A := []) (by kernel_rfl) h

-- cloister/codec.width[uint8]
def i193 (H : Heap) (R : Value → Heap → Prop) (X : List PanicEntry → Heap → Prop) : Prop :=
 Gt (cvV .u8 (.int .i64 0)) fun x3 =>
 Gt (unV .xor x3) fun x4 =>
 Gt (cvV .u64 x4) fun x5 =>
 Lp fun (I1 : Value → Value → Heap → Prop) (M1 : Value → Value → Heap → Nat) => I1 (.int .i64 0) x5 H ∧ ∀ (H1 : Heap) (x1 : Value) (x2 : Value), I1 x1 x2 H1 →
 Gt (binI .gtr x2 (.int .u64 0)) fun x7 =>
 If x7
 (Gt (binI .add x1 (.int .i64 1)) fun x11 =>
 Gt (binI .shr x2 (.int .u64 8)) fun x9 =>
 I1 x11 x9 H1 ∧ Nat.lt (M1 x11 x9 H1) (M1 x1 x2 H1))
 (R x1 H1)
theorem l193 (h : i193 H R X) : Runs Tryz.prog 193 [] H R X := runs_e tbOk mixed Tryz.func193 (A := [(58, [1, 2])]) (by kernel_rfl) h

-- cloister/codec.short
def i194 (x0 x1 : Value) (H : Heap) (R : Value → Heap → Prop) (X : List PanicEntry → Heap → Prop) : Prop :=
 Gt (binI .shl x1 (.int .u64 1)) fun x7 =>
 Gt (cvV .u64 x7) fun x8 =>
 Gt (binI .shr x1 (.int .u64 63)) fun x10 =>
 Gt (cvV .u64 x10) fun x11 =>
 Gt (binI .xor x8 x11) fun x12 =>
 Lp fun (I1 : Value → Value → Heap → Prop) (M1 : Value → Value → Heap → Nat) => I1 x0 x12 H ∧ ∀ (H1 : Heap) (x0_1 : Value) (x5 : Value), I1 x0_1 x5 H1 →
 Gt (binI .geq x5 (.int .u64 128)) fun x14 =>
 If x14
 (Gt (cvV .u8 x5) fun x19 =>
 Gt (binI .or x19 (.int .u8 128)) fun x20 =>
 Gt (bsV 1 1 z5 [(0, x20)]) fun c21 =>
 Nw (.cells c21.toArray 5 (0, 0)) H1 fun b21_1 H2 =>
 Ap 5 1 1 z5 x0_1 (.slice (some ⟨b21_1, 0, none⟩) 1 1) H2 (fun x22 H3 =>
 Gt (binI .shr x5 (.int .u64 7)) fun x16 =>
 I1 x22 x16 H3 ∧ Nat.lt (M1 x22 x16 H3) (M1 x0_1 x5 H1)))
 (Gt (cvV .u8 x5) fun x25 =>
 Gt (bsV 1 1 z5 [(0, x25)]) fun c26 =>
 Nw (.cells c26.toArray 5 (0, 0)) H1 fun b26_1 H4 =>
 Ap 5 1 1 z5 x0_1 (.slice (some ⟨b26_1, 0, none⟩) 1 1) H4 (fun x27 H5 =>
 R x27 H5))
theorem l194 (h : i194 x0 x1 H R X) : Runs Tryz.prog 194 [x0, x1] H R X := runs_e tbOk mixed Tryz.func194 (A := [(28, [0, 5])]) (by kernel_rfl) h

-- cloister/codec.width[uint32]
def i195 (H : Heap) (R : Value → Heap → Prop) (X : List PanicEntry → Heap → Prop) : Prop :=
 Gt (cvV .u32 (.int .i64 0)) fun x3 =>
 Gt (unV .xor x3) fun x4 =>
 Gt (cvV .u64 x4) fun x5 =>
 Lp fun (I1 : Value → Value → Heap → Prop) (M1 : Value → Value → Heap → Nat) => I1 (.int .i64 0) x5 H ∧ ∀ (H1 : Heap) (x1 : Value) (x2 : Value), I1 x1 x2 H1 →
 Gt (binI .gtr x2 (.int .u64 0)) fun x7 =>
 If x7
 (Gt (binI .add x1 (.int .i64 1)) fun x11 =>
 Gt (binI .shr x2 (.int .u64 8)) fun x9 =>
 I1 x11 x9 H1 ∧ Nat.lt (M1 x11 x9 H1) (M1 x1 x2 H1))
 (R x1 H1)
theorem l195 (h : i195 H R X) : Runs Tryz.prog 195 [] H R X := runs_e tbOk mixed Tryz.func195 (A := [(58, [1, 2])]) (by kernel_rfl) h

-- cloister/sum.More
def i196 (x0 x1 : Value) (H : Heap) (R : Value → Heap → Prop) (X : List PanicEntry → Heap → Prop) : Prop :=
 Ca Tryz.prog 231 [] H (fun x9 H1 =>
 Nw (.cells z337.cells 337 (0, 0)) H1 fun b5 H2 =>
 Gt (stV 16 (.pointer (some ⟨b5, 0, none⟩)) x9 H2) fun H3 =>
 Gt (unV .xor x0) fun x11 =>
 Gt (lnV x1) fun x13 =>
 Lp fun (I1 : Value → Value → Heap → Prop) (M1 : Value → Value → Heap → Nat) => I1 x11 (.int .i64 0) H3 ∧ ∀ (H4 : Heap) (x6 : Value) (x14 : Value), I1 x6 x14 H4 →
 Gt (binI .lss x14 x13) fun x15 =>
 If x15
 (Gt (iaV 1 x1 x14) fun x16 =>
 Gt (rdv x16 H4) fun x17 =>
 Gt (cvV .u32 x17) fun x20 =>
 Gt (binI .xor x6 x20) fun x21 =>
 Gt (binI .shr x21 (.int .u64 4)) fun x23 =>
 Gt (binI .and x21 (.int .u32 15)) fun x25 =>
 Gt (aaV 16 1 (.pointer (some ⟨b5, 0, none⟩)) x25) fun x26 =>
 Gt (rdv x26 H4) fun x27 =>
 Gt (binI .xor x23 x27) fun x28 =>
 Gt (binI .shr x28 (.int .u64 4)) fun x30 =>
 Gt (binI .and x28 (.int .u32 15)) fun x32 =>
 Gt (aaV 16 1 (.pointer (some ⟨b5, 0, none⟩)) x32) fun x33 =>
 Gt (rdv x33 H4) fun x34 =>
 Gt (binI .xor x30 x34) fun x35 =>
 Gt (binI .add x14 (.int .i64 1)) fun x36 =>
 I1 x35 x36 H4 ∧ Nat.lt (M1 x35 x36 H4) (M1 x6 x14 H4))
 (Gt (unV .xor x6) fun x38 =>
 R x38 H4)) X
theorem l196 (h : i196 x0 x1 H R X) : Runs Tryz.prog 196 [x0, x1] H R X := runs_e tbOk mixed Tryz.func196 (A := [(122, [6, 14])]) (by kernel_rfl) h

-- slices.Collect[string]
def i200 (x0 : Value) (H : Heap) (R : Value → Heap → Prop) (X : List PanicEntry → Heap → Prop) : Prop :=
 Ca Tryz.prog 232 [(.slice none 0 0), x0] H (fun x4 H1 =>
 R x4 H1) X
theorem l200 (h : i200 x0 H R X) : Runs Tryz.prog 200 [x0] H R X := runs_e tbOk mixed Tryz.func200 (A := []) (by kernel_rfl) h

-- slices.Sort[[]string,string]
def i201 (x0 : Value) (H : Heap) (R : Value → Heap → Prop) (X : List PanicEntry → Heap → Prop) : Prop :=
 Gt (lnV x0) fun x4 =>
 Gt (cvV .u64 x4) fun x8 =>
 Ca Tryz.prog 234 [x8] H (fun x9 H1 =>
 Ca Tryz.prog 233 [x0, (.int .i64 0), x4, x9] H1 (fun x10 H2 =>
 R (.tuple #[]) H2) X) X
theorem l201 (h : i201 x0 H R X) : Runs Tryz.prog 201 [x0] H R X := runs_e tbOk mixed Tryz.func201 (A := []) (by kernel_rfl) h

end Go.Proofs.YtdoimhpmnmmffaaGreat

/- The conditions on calls of this program's functions, printed by wip/tools/formulas.py; the kernel checks each against the loaded body. -/
namespace Go.Proofs.YtdoimhpmnmmffaaGreat
open Go
variable {x0 x1 x2 x3 x4 x5 x6 x7 x8 x9 : Value} {H : Heap} {R : Value → Heap → Prop} {X : List PanicEntry → Heap → Prop}

-- slices.Contains[[]cloister/api.Label,cloister/api.Label]
def i203 (x0 x1 : Value) (H : Heap) (R : Value → Heap → Prop) (X : List PanicEntry → Heap → Prop) : Prop :=
 Ca Tryz.prog 235 [x0, x1] H (fun x7 H1 =>
 Gt (binI .geq x7 (.int .i64 0)) fun x8 =>
 R x8 H1) X
theorem l203 (h : i203 x0 x1 H R X) : Runs Tryz.prog 203 [x0, x1] H R X := runs_e tbOk mixed Tryz.func203 (A := []) (by kernel_rfl) h

-- (*cloister/disk.Disk).Read
def i206 (x0 x1 x2 x3 : Value) (H : Heap) (R : Value → Heap → Prop) (X : List PanicEntry → Heap → Prop) : Prop :=
 Ca Tryz.prog 139 [x0, x1] H (fun x15 H1 =>
 Gt (exV 0 x15) fun x16 =>
 Gt (exV 1 x15) fun x17 =>
 Gt (binI .neq x17 (.int .i64 0)) fun x19 =>
 If x19
 (R (.tuple #[(.slice none 0 0), x17]) H1)
 (Gt (ncV tb x16) fun x22 =>
 Gt (faV 0 x22) fun x23 =>
 Gt (rdv x23 H1) fun x24 =>
 Ca Tryz.prog 236 [x24, x2, x3] H1 (fun x27 H2 =>
 Gt (exV 0 x27) fun x28 =>
 Gt (exV 1 x27) fun x29 =>
 R (.tuple #[x28, x29]) H2) X)) X
theorem l206 (h : i206 x0 x1 x2 x3 H R X) : Runs Tryz.prog 206 [x0, x1, x2, x3] H R X := runs_e tbOk mixed Tryz.func206 (A := []) (by kernel_rfl) h

-- cloister/frame.All
def i207 (x0 : Value) (H : Heap) (R : Value → Heap → Prop) (X : List PanicEntry → Heap → Prop) : Prop :=
 Nw (.cells x0.cells 45 (0, 0)) H fun b1 H1 =>
 Gt (rdv (.pointer (some ⟨b1, 0, none⟩)) H1) fun x3 =>
 Ap 5 1 1 z5 (.slice none 0 0) x3 H1 (fun x4 H2 =>
 Gt (stV 1 (.pointer (some ⟨b1, 0, none⟩)) x4 H2) fun H3 =>
 R (.func (.func 237) #[] #[(.pointer (some ⟨b1, 0, none⟩))]) H3)
theorem l207 (h : i207 x0 H R X) : Runs Tryz.prog 207 [x0] H R X := runs_e tbOk mixed Tryz.func207 (A := []) (by kernel_rfl) h

-- cloister/store.New
def i209 (H : Heap) (R : Value → Heap → Prop) (X : List PanicEntry → Heap → Prop) : Prop :=
 Nw (.map #[] 0) H fun b1 H1 =>
 Gt (bdV z167 [(0, 1), (1, 1)] [(0, (.map (some b1)))]) fun x2 =>
 Nw (.cells x2.cells 167 (0, 0)) H1 fun b3 H2 =>
 R (.pointer (some ⟨b3, 0, none⟩)) H2
theorem l209 (h : i209 H R X) : Runs Tryz.prog 209 [] H R X := runs_e tbOk mixed Tryz.func209 (A := []) (by kernel_rfl) h

-- (*cloister/txn.Txn).open
def i213 (x0 x1 : Value) (H : Heap) (R : Value → Heap → Prop) (X : List PanicEntry → Heap → Prop) : Prop :=
 Ca Tryz.prog 251 [x0] H (fun x7 H1 =>
 If x7
 (R (.int .i64 173) H1)
 (Gt (binI .lss x1 (.int .i64 0)) fun x10 =>
 Gt (ifO x10 ((some (.bool true))) ((ncV tb x0).bind fun x14 =>
 (faV 1 x14).bind fun x15 =>
 (rdv x15 H1).bind fun x16 =>
 (lnV x16).bind fun x17 =>
 (binI .geq x1 x17).bind fun x18 =>
 (some x18))) fun x19 =>
 If x19
 (R (.int .i64 2) H1)
 (R (.int .i64 0) H1))) X
theorem l213 (h : i213 x0 x1 H R X) : Runs Tryz.prog 213 [x0, x1] H R X := runs_e tbOk mixed Tryz.func213 (A := []) (by kernel_rfl) h

-- cloister/txn.isKey
def i214 (x0 : Value) (H : Heap) (R : Value → Heap → Prop) (X : List PanicEntry → Heap → Prop) : Prop :=
 Gt (lsV x0) fun x4 =>
 Gt (binI .geq x4 (.int .i64 1)) fun x5 =>
 Gt (ifO x5 ((lsV x0).bind fun x8 =>
 (binI .leq x8 (.int .i64 255)).bind fun x9 =>
 (some x9)) ((some (.bool false)))) fun x10 =>
 R x10 H
theorem l214 (h : i214 x0 H R X) : Runs Tryz.prog 214 [x0] H R X := runs_e tbOk mixed Tryz.func214 (A := []) (by kernel_rfl) h

-- cloister/txn.own
def i216 (x0 : Value) (H : Heap) (R : Value → Heap → Prop) (X : List PanicEntry → Heap → Prop) : Prop :=
 Ap 5 1 1 z5 (.slice none 0 0) x0 H (fun x4 H1 =>
 R x4 H1)
theorem l216 (h : i216 x0 H R X) : Runs Tryz.prog 216 [x0] H R X := runs_e tbOk mixed Tryz.func216 (A := []) (by kernel_rfl) h

-- (*cloister/txn.Txn).write
def i218 (x0 x1 x2 x3 x4 x5 x6 : Value) (H : Heap) (R : Value → Heap → Prop) (X : List PanicEntry → Heap → Prop) : Prop :=
 Gt ((ptrEq 4 x0 (.pointer none) H).map Value.bool) fun x18 =>
 Gt (ifO x18 ((some (.bool true))) (((ptrEq 5 x4 (.pointer none) H).map Value.bool).bind fun x21 =>
 (some x21))) fun x22 =>
 If x22
 (R (.int .i64 1) H)
 (Ca Tryz.prog 213 [x0, x1] H (fun x25 H1 =>
 Gt (binI .neq x25 (.int .i64 0)) fun x27 =>
 If x27
 (R x25 H1)
 (Ca Tryz.prog 214 [x2] H1 (fun x31 H2 =>
 Gt (unV .not x31) fun x32 =>
 If x32
 (R (.int .i64 140) H2)
 (Gt (lnV x3) fun x35 =>
 Gt (binI .gtr x35 (.int .i64 4096)) fun x36 =>
 If x36
 (R (.int .i64 141) H2)
 (Gt (ncV tb x0) fun x40 =>
 Gt (faV 0 x40) fun x41 =>
 Gt (rdv x41 H2) fun x42 =>
 Gt (binI .neq x1 x42) fun x43 =>
 If x43
 (R (.int .i64 171) H2)
 (Gt (ncV tb x0) fun x46 =>
 Gt (faV 2 x46) fun x47 =>
 Gt (rdv x47 H2) fun x48 =>
 Ca Tryz.prog 261 [x48, x2] H2 (fun x50 H3 =>
 Ca Tryz.prog 260 [x4, x50, x6] H3 (fun x52 H4 =>
 Gt (binI .neq x52 (.int .i64 0)) fun x54 =>
 If x54
 (R x52 H4)
 (Cv Tryz.prog tb x5 [] H4 (fun x57 H5 =>
 R x57 H5) X)) X) X)))) X)) X)
theorem l218 (h : i218 x0 x1 x2 x3 x4 x5 x6 H R X) : Runs Tryz.prog 218 [x0, x1, x2, x3, x4, x5, x6] H R X := runs_e tbOk mixed Tryz.func218 (A := []) (by kernel_rfl) h

-- (*cloister/txn.Txn).Put$1
def i219 (x0 x1 x2 : Value) (H : Heap) (R : Value → Heap → Prop) (X : List PanicEntry → Heap → Prop) : Prop :=
 Gt (rdv x0 H) fun x4 =>
 Gt (ncV tb x4) fun x5 =>
 Gt (faV 2 x5) fun x6 =>
 Gt (rdv x6 H) fun x7 =>
 Gt (rdv x1 H) fun x8 =>
 Gt (rdv x2 H) fun x9 =>
 Ca Tryz.prog 220 [x7, x8, x9] H (fun x10 H1 =>
 R x10 H1) X
theorem l219 (h : i219 x0 x1 x2 H R X) : Runs Tryz.prog 219 [x0, x1, x2] H R X := runs_e tbOk mixed Tryz.func219 (A := []) (by kernel_rfl) h

-- (*cloister/wset.Set).Put
def i220 (x0 x1 x2 : Value) (H : Heap) (R : Value → Heap → Prop) (X : List PanicEntry → Heap → Prop) : Prop :=
 Ca Tryz.prog 263 [x2] H (fun x10 H1 =>
 Gt (bdV z359 [(0, 1), (1, 1)] [(0, x10)]) fun x11 =>
 Ca Tryz.prog 262 [x0, x1, x11] H1 (fun x12 H2 =>
 R x12 H2) X) X
theorem l220 (h : i220 x0 x1 x2 H R X) : Runs Tryz.prog 220 [x0, x1, x2] H R X := runs_e tbOk mixed Tryz.func220 (A := []) (by kernel_rfl) h

-- cloister/commit.asked
def i223 (x0 x1 x2 x3 : Value) (H : Heap) (R : Value → Heap → Prop) (X : List PanicEntry → Heap → Prop) : Prop :=
 Ca Tryz.prog 264 [x2] H (fun x12 H1 =>
 Gt (binI .neq x12 (.int .i64 0)) fun x14 =>
 If x14
 (R x12 H1)
 (Jo (fun (I1 : Value → Heap → Prop) => ∀ (H3 : Heap) (x23 : Value), I1 x23 H3 →
 If x23
 (R (.int .i64 2) H3)
 (Ca Tryz.prog 265 [x2] H3 (fun x25_2 H4 =>
 Gt (binI .neq x25_2 (.int .i64 0)) fun x27_2 =>
 If x27_2
 (R x25_2 H4)
 (Ca Tryz.prog 60 [x1] H4 (fun x33_2 H5 =>
 Ca Tryz.prog 266 [x0, x2, x33_2] H5 (fun x34_2 H6 =>
 If x34_2
 (R (.int .i64 130) H6)
 (Ca Tryz.prog 267 [x0, x2, x3] H6 (fun x39_2 H7 =>
 If x39_2
 (R (.int .i64 190) H7)
 (Ca Tryz.prog 268 [x1] H7 (fun x42_2 H8 =>
 If x42_2
 (R (.int .i64 120) H8)
 (R (.int .i64 0) H8)) X)) X)) X) X)) X)) fun (I1 : Value → Heap → Prop) =>
 Gt (binI .lss x3 (.int .i64 0)) fun x17 =>
 If x17 (I1 (.bool true) H1) (Ca Tryz.prog 60 [x1] H1 (fun x21 H2 =>
 Gt (binI .gtr x3 x21) fun x22 =>
 I1 x22 H2) X))) X
theorem l223 (h : i223 x0 x1 x2 x3 H R X) : Runs Tryz.prog 223 [x0, x1, x2, x3] H R X := runs_e tbOk mixed Tryz.func223 (A := [(28, [23])]) (by kernel_rfl) h

-- (*cloister/wal.Log).Group
def i224 (x0 x1 : Value) (H : Heap) (R : Value → Heap → Prop) (X : List PanicEntry → Heap → Prop) : Prop :=
 Gt ((ptrEq 2 x0 (.pointer none) H).map Value.bool) fun x10 =>
 If x10
 (R (.int .i64 1) H)
 (Gt (lnV x1) fun x12 =>
 Lp fun (I1 : Value → Heap → Prop) (M1 : Value → Heap → Nat) => I1 (.int .i64 0) H ∧ ∀ (H1 : Heap) (x13 : Value), I1 x13 H1 →
 Gt (binI .lss x13 x12) fun x14 =>
 If x14
 (Gt (iaV 6 x1 x13) fun x15 =>
 Gt (rda 6 x15 H1) fun x16 =>
 Nw (.cells z182.cells 182 (0, 0)) H1 fun b6 H2 =>
 Gt (stV 6 (.pointer (some ⟨b6, 0, none⟩)) x16 H2) fun H3 =>
 Gt (rda 6 (.pointer (some ⟨b6, 0, none⟩)) H3) fun x17 =>
 Ca Tryz.prog 141 [x17] H3 (fun x18 H4 =>
 Gt (binI .neq x18 (.int .i64 0)) fun x20 =>
 If x20
 (R x18 H4)
 (Gt (binI .add x13 (.int .i64 1)) fun x22 =>
 I1 x22 H4 ∧ Nat.lt (M1 x22 H4) (M1 x13 H1))) X)
 (Ca Tryz.prog 49 [x0, x1] H1 (fun x25 H5 =>
 Gt (binI .neq x25 (.int .i64 0)) fun x27 =>
 If x27
 (R x25 H5)
 (Ca Tryz.prog 51 [x0] H5 (fun x30 H6 =>
 R x30 H6) X)) X))
theorem l224 (h : i224 x0 x1 H R X) : Runs Tryz.prog 224 [x0, x1] H R X := runs_e tbOk mixed Tryz.func224 (A := [(58, [13])]) (by kernel_rfl) h

-- cloister/commit.Entries
def i225 (x0 x1 : Value) (H : Heap) (R : Value → Heap → Prop) (X : List PanicEntry → Heap → Prop) : Prop :=
 Gt (lnV x0) fun x9 =>
 Lp fun (I1 : Value → Value → Heap → Prop) (M1 : Value → Value → Heap → Nat) => I1 (.slice none 0 0) (.int .i64 0) H ∧ ∀ (H1 : Heap) (x5 : Value) (x10 : Value), I1 x5 x10 H1 →
 Gt (binI .lss x10 x9) fun x11 =>
 If x11
 (Gt (iaV 4 x0 x10) fun x12 =>
 Gt (rda 4 x12 H1) fun x13 =>
 Nw (.cells z190.cells 190 (0, 0)) H1 fun b7 H2 =>
 Gt (stV 4 (.pointer (some ⟨b7, 0, none⟩)) x13 H2) fun H3 =>
 Gt (rda 4 (.pointer (some ⟨b7, 0, none⟩)) H3) fun x15 =>
 Ca Tryz.prog 269 [x15] H3 (fun x16 H4 =>
 Gt (bsV 6 1 z182 [(0, x16)]) fun c17 =>
 Nw (.cells c17.toArray 182 (0, 0)) H4 fun b17_1 H5 =>
 Ap 182 6 72 z182 x5 (.slice (some ⟨b17_1, 0, none⟩) 1 1) H5 (fun x18 H6 =>
 Gt (binI .add x10 (.int .i64 1)) fun x19 =>
 I1 x18 x19 H6 ∧ Nat.lt (M1 x18 x19 H6) (M1 x5 x10 H1))) X)
 (Gt (lnV x0) fun x23 =>
 Gt (bdV z182 [(0, 1), (1, 1), (2, 1), (3, 1), (4, 1), (5, 1)] [(0, (.int .i64 3)), (1, x1), (2, x23)]) fun x24 =>
 Gt (bsV 6 1 z182 [(0, x24)]) fun c25 =>
 Nw (.cells c25.toArray 182 (0, 0)) H1 fun b25_1 H7 =>
 Ap 182 6 72 z182 x5 (.slice (some ⟨b25_1, 0, none⟩) 1 1) H7 (fun x26 H8 =>
 R x26 H8))
theorem l225 (h : i225 x0 x1 H R X) : Runs Tryz.prog 225 [x0, x1] H R X := runs_e tbOk mixed Tryz.func225 (A := [(58, [5, 10])]) (by kernel_rfl) h

-- (*cloister/stamp.Clock).Next
def i226 (x0 : Value) (H : Heap) (R : Value → Heap → Prop) (X : List PanicEntry → Heap → Prop) : Prop :=
 Gt ((ptrEq 2 x0 (.pointer none) H).map Value.bool) fun x6 =>
 If x6
 (R (.tuple #[(.int .i64 0), (.int .i64 1)]) H)
 (Ca Tryz.prog 268 [x0] H (fun x9 H1 =>
 If x9
 (R (.tuple #[(.int .i64 0), (.int .i64 120)]) H1)
 (Gt (ncV tb x0) fun x11 =>
 Gt (faV 0 x11) fun x12 =>
 Gt (rdv x12 H1) fun x13 =>
 Gt (binI .add x13 (.int .i64 1)) fun x14 =>
 Gt (ncV tb x0) fun x15 =>
 Gt (faV 0 x15) fun x16 =>
 Gt (stV 1 x16 x14 H1) fun H2 =>
 Gt (ncV tb x0) fun x18 =>
 Gt (faV 0 x18) fun x19 =>
 Gt (rdv x19 H2) fun x20 =>
 R (.tuple #[x20, (.int .i64 0)]) H2)) X)
theorem l226 (h : i226 x0 H R X) : Runs Tryz.prog 226 [x0] H R X := runs_e tbOk mixed Tryz.func226 (A := []) (by kernel_rfl) h

-- (*cloister/store.Store).Apply
def i227 (x0 x1 : Value) (H : Heap) (R : Value → Heap → Prop) (X : List PanicEntry → Heap → Prop) : Prop :=
 Nw (.cells x1.cells 190 (0, 0)) H fun b3 H1 =>
 Gt ((ptrEq 2 x0 (.pointer none) H1).map Value.bool) fun x10 =>
 If x10
 (R (.int .i64 1) H1)
 (Gt (rda 4 (.pointer (some ⟨b3, 0, none⟩)) H1) fun x11 =>
 Ca Tryz.prog 270 [x11] H1 (fun x12 H2 =>
 Gt (binI .neq x12 (.int .i64 0)) fun x14 =>
 If x14
 (R x12 H2)
 (Gt (faV 0 (.pointer (some ⟨b3, 0, none⟩))) fun x17 =>
 Gt (rdv x17 H2) fun x18 =>
 Ca Tryz.prog 93 [x0, x18] H2 (fun x19 H3 =>
 Gt ((ptrEq 1 x19 (.pointer none) H3).map Value.bool) fun x21 =>
 Jo (fun (I1 : Value → Heap → Prop) => ∀ (H5 : Heap) (x6 : Value), I1 x6 H5 →
 Gt (faV 0 (.pointer (some ⟨b3, 0, none⟩))) fun x25_2 =>
 Gt (rdv x25_2 H5) fun x26_2 =>
 Ca Tryz.prog 271 [x0, x26_2] H5 (fun x27_2 H6 =>
 Gt (faV 1 (.pointer (some ⟨b3, 0, none⟩))) fun x29_2 =>
 Gt (rdv x29_2 H6) fun x30_2 =>
 Gt (faV 2 (.pointer (some ⟨b3, 0, none⟩))) fun x31_2 =>
 Gt (rdv x31_2 H6) fun x32_2 =>
 Gt (faV 3 (.pointer (some ⟨b3, 0, none⟩))) fun x34_2 =>
 Gt (rdv x34_2 H6) fun x35_2 =>
 Ca Tryz.prog 95 [x32_2] H6 (fun x33_2 H7 =>
 Sm (rdv x34_2 H7) x35_2 <|
 Sm (rdv x29_2 H7) x30_2 <|
 Gt (bdV z194 [(0, 1), (1, 1), (2, 1)] [(0, x30_2), (1, x33_2), (2, x35_2)]) fun x36_2 =>
 Ca Tryz.prog 272 [x6, x36_2] H7 (fun x37_2 H8 =>
 Gt (binI .neq x37_2 (.int .i64 0)) fun x39_2 =>
 If x39_2
 (R x37_2 H8)
 (Gt (ncV tb x0) fun x42_2 =>
 Gt (faV 0 x42_2) fun x43_2 =>
 Gt (rdv x43_2 H8) fun x44_2 =>
 Gt ((nilEq (.map 9 168) x44_2 (.map none)).map Value.bool) fun x45_2 =>
 Jo (fun (I2 : Heap → Prop) => ∀ (H11 : Heap), I2 H11 →
 Gt (ncV tb x0) fun x51_8 =>
 Gt (faV 0 x51_8) fun x52_8 =>
 Gt (rdv x52_8 H11) fun x53_8 =>
 Gt (faV 0 (.pointer (some ⟨b3, 0, none⟩))) fun x54_8 =>
 Gt (rdv x54_8 H11) fun x55_8 =>
 Gt (muV .string x53_8 x55_8 x6 H11) fun H12 =>
 Gt (ncV tb x0) fun x58_8 =>
 Gt (faV 1 x58_8) fun x59_8 =>
 Gt (rdv x59_8 H12) fun x60_8 =>
 Gt (faV 0 (.pointer (some ⟨b3, 0, none⟩))) fun x62_8 =>
 Gt (rdv x62_8 H12) fun x63_8 =>
 Ca Tryz.prog 271 [x0, x63_8] H12 (fun x64_8 H13 =>
 Sm (rdv x59_8 H13) x60_8 <|
 Gt (binI .sub x64_8 x27_2) fun x66_8 =>
 Gt (binI .add x60_8 x66_8) fun x67_8 =>
 Gt (ncV tb x0) fun x68_8 =>
 Gt (faV 1 x68_8) fun x69_8 =>
 Gt (stV 1 x69_8 x67_8 H13) fun H14 =>
 R (.int .i64 0) H14) X) fun (I2 : Heap → Prop) =>
 If x45_2
 (Nw (.map #[] 0) H8 fun b47_2 H9 =>
 Gt (ncV tb x0) fun x48_2 =>
 Gt (faV 0 x48_2) fun x49_2 =>
 Gt (stV 1 x49_2 (.map (some b47_2)) H9) fun H10 =>
 I2 H10)
 (I2 H8))) X) X) X) fun (I1 : Value → Heap → Prop) =>
 If x21
 (Gt (bdV z236 [(0, 1)] []) fun x22 =>
 Nw (.cells x22.cells 236 (0, 0)) H3 fun b23 H4 =>
 I1 (.pointer (some ⟨b23, 0, none⟩)) H4)
 (I1 x19 H3)) X)) X)
theorem l227 (h : i227 x0 x1 H R X) : Runs Tryz.prog 227 [x0, x1] H R X := runs_e tbOk mixed Tryz.func227 (A := [(125, [6]), (1021, [])]) (by kernel_rfl) h

-- (*cloister/wset.Set).Writes
def i228 (x0 : Value) (H : Heap) (R : Value → Heap → Prop) (X : List PanicEntry → Heap → Prop) : Prop :=
 Gt ((ptrEq 2 x0 (.pointer none) H).map Value.bool) fun x7 =>
 If x7
 (R (.slice none 0 0) H)
 (Gt (ncV tb x0) fun x9 =>
 Gt (faV 0 x9) fun x10 =>
 Gt (rdv x10 H) fun x11 =>
 Ca Tryz.prog 273 [x11] H (fun x12 H1 =>
 Ca Tryz.prog 159 [x12] H1 (fun x13 H2 =>
 Gt (lnV x13) fun x14 =>
 Lp fun (I1 : Value → Value → Heap → Prop) (M1 : Value → Value → Heap → Nat) => I1 (.slice none 0 0) (.int .i64 0) H2 ∧ ∀ (H3 : Heap) (x3 : Value) (x15 : Value), I1 x3 x15 H3 →
 Gt (binI .lss x15 x14) fun x16 =>
 If x16
 (Gt (iaV 1 x13 x15) fun x17 =>
 Gt (rdv x17 H3) fun x18 =>
 Gt (ncV tb x0) fun x22 =>
 Gt (faV 0 x22) fun x23 =>
 Gt (rdv x23 H3) fun x24 =>
 Gt (lkV .string z359 false x24 x18 H3) fun x26 =>
 Ca Tryz.prog 253 [x18, x26] H3 (fun x27 H4 =>
 Gt (bsV 4 1 z190 [(0, x27)]) fun c28 =>
 Nw (.cells c28.toArray 190 (0, 0)) H4 fun b28_1 H5 =>
 Ap 190 4 56 z190 x3 (.slice (some ⟨b28_1, 0, none⟩) 1 1) H5 (fun x29 H6 =>
 Gt (binI .add x15 (.int .i64 1)) fun x30 =>
 I1 x29 x30 H6 ∧ Nat.lt (M1 x29 x30 H6) (M1 x3 x15 H3))) X)
 (R x3 H3)) X) X)
theorem l228 (h : i228 x0 H R X) : Runs Tryz.prog 228 [x0] H R X := runs_e tbOk mixed Tryz.func228 (A := [(122, [3, 15])]) (by kernel_rfl) h

-- (*cloister/txn.Txn).End
def i229 (x0 x1 : Value) (H : Heap) (R : Value → Heap → Prop) (X : List PanicEntry → Heap → Prop) : Prop :=
 Gt ((ptrEq 4 x0 (.pointer none) H).map Value.bool) fun x8 =>
 Gt (ifO x8 ((some (.bool true))) (((ptrEq 5 x1 (.pointer none) H).map Value.bool).bind fun x11 =>
 (some x11))) fun x12 =>
 If x12
 (R (.int .i64 1) H)
 (Ca Tryz.prog 251 [x0] H (fun x15 H1 =>
 If x15
 (R (.int .i64 173) H1)
 (Gt (ncV tb x0) fun x18 =>
 Gt (faV 2 x18) fun x19 =>
 Gt (rdv x19 H1) fun x20 =>
 Ca Tryz.prog 275 [x20] H1 (fun x21 H2 =>
 Ca Tryz.prog 274 [x1, x21] H2 (fun x22 H3 =>
 Gt (binI .neq x22 (.int .i64 0)) fun x24 =>
 If x24
 (R x22 H3)
 (Gt (ncV tb x0) fun x27 =>
 Gt (faV 3 x27) fun x28 =>
 Gt (stV 1 x28 (.bool true) H3) fun H4 =>
 R (.int .i64 0) H4)) X) X)) X)
theorem l229 (h : i229 x0 x1 H R X) : Runs Tryz.prog 229 [x0, x1] H R X := runs_e tbOk mixed Tryz.func229 (A := []) (by kernel_rfl) h

-- (*cloister/table.Table[*cloister/txn.Txn]).End
def i230 (x0 x1 x2 : Value) (H : Heap) (R : Value → Heap → Prop) (X : List PanicEntry → Heap → Prop) : Prop :=
 Nw (.cells x2.cells 44 (0, 0)) H fun b5 H1 =>
 Gt (rda 2 (.pointer (some ⟨b5, 0, none⟩)) H1) fun x12 =>
 Ca Tryz.prog 83 [x0, x1, x12] H1 (fun x13 H2 =>
 Gt (exV 0 x13) fun x14 =>
 Gt (exV 1 x13) fun x15 =>
 Gt (binI .neq x15 (.int .i64 0)) fun x17 =>
 If x17
 (R x15 H2)
 (Gt (ncV tb x0) fun x20 =>
 Gt (faV 1 x20) fun x21 =>
 Gt (rdv x21 H2) fun x22 =>
 Gt (iaV 1 x22 x1) fun x24 =>
 Gt (rdv x24 H2) fun x25 =>
 Gt (faV 1 (.pointer (some ⟨b5, 0, none⟩))) fun x26 =>
 Gt (rdv x26 H2) fun x27 =>
 Gt (dlV (.int .i64) x25 x27 H2) fun H3 =>
 R (.int .i64 0) H3)) X
theorem l230 (h : i230 x0 x1 x2 H R X) : Runs Tryz.prog 230 [x0, x1, x2] H R X := runs_e tbOk mixed Tryz.func230 (A := []) (by kernel_rfl) h

-- cloister/sum.steps
def i231 (H : Heap) (R : Value → Heap → Prop) (X : List PanicEntry → Heap → Prop) : Prop :=
 Nw (.cells z337.cells 337 (0, 0)) H fun b0 H1 =>
 Nw (.cells z337.cells 337 (0, 0)) H1 fun b1 H2 =>
 Lp fun (I1 : Value → Heap → Prop) (M1 : Value → Heap → Nat) => I1 (.int .i64 0) H2 ∧ ∀ (H3 : Heap) (x5 : Value), I1 x5 H3 →
 Gt (binI .lss x5 (.int .i64 16)) fun x6 =>
 If x6
 (Gt (cvV .u32 x5) fun x9 =>
 Lp fun (I2 : Value → Value → Heap → Prop) (M2 : Value → Value → Heap → Nat) => I2 x9 (.int .i64 0) H3 ∧ ∀ (H4 : Heap) (x3 : Value) (x10 : Value), I2 x3 x10 H4 →
 Gt (binI .lss x10 (.int .i64 4)) fun x11 =>
 If x11
 (Gt (binI .and x3 (.int .u32 1)) fun x13 =>
 Gt (binI .shr x3 (.int .u64 1)) fun x15 =>
 Gt (binI .eql x13 (.int .u32 1)) fun x17 =>
 If x17
 (Gt (binI .xor x15 (.int .u32 3988292384)) fun x19 =>
 Gt (binI .add x10 (.int .i64 1)) fun x20 =>
 I2 x19 x20 H4 ∧ Nat.lt (M2 x19 x20 H4) (M2 x3 x10 H4))
 (Gt (binI .add x10 (.int .i64 1)) fun x20_1 =>
 I2 x15 x20_1 H4 ∧ Nat.lt (M2 x15 x20_1 H4) (M2 x3 x10 H4)))
 (Gt (aaV 16 1 (.pointer (some ⟨b1, 0, none⟩)) x5) fun x23 =>
 Gt (stV 1 x23 x3 H4) fun H5 =>
 Gt (binI .add x5 (.int .i64 1)) fun x24 =>
 I1 x24 H5 ∧ Nat.lt (M1 x24 H5) (M1 x5 H3)))
 (Gt (rda 16 (.pointer (some ⟨b1, 0, none⟩)) H3) fun x25 =>
 Gt (stV 16 (.pointer (some ⟨b0, 0, none⟩)) x25 H3) fun H6 =>
 Gt (rda 16 (.pointer (some ⟨b0, 0, none⟩)) H6) fun u3 =>
 R u3 H6)
theorem l231 (h : i231 H R X) : Runs Tryz.prog 231 [] H R X := runs_e tbOk mixed Tryz.func231 (A := [(58, [5]), (59802, [3, 10])]) (by kernel_rfl) h

-- slices.pdqsortOrdered[string]
def i233 (x0 x1 x2 x3 : Value) (H : Heap) (R : Value → Heap → Prop) (X : List PanicEntry → Heap → Prop) : Prop :=
 Lp fun (I1 : Value → Value → Value → Value → Value → Heap → Prop) (M1 : Value → Value → Value → Value → Value → Heap → Nat) => I1 x1 x2 x3 (.bool true) (.bool true) H ∧ ∀ (H1 : Heap) (x1_1 : Value) (x2_1 : Value) (x3_1 : Value) (x8 : Value) (x9 : Value), I1 x1_1 x2_1 x3_1 x8 x9 H1 →
 Gt (binI .sub x2_1 x1_1) fun x21 =>
 Gt (binI .leq x21 (.int .i64 12)) fun x23 =>
 If x23
 (Ca Tryz.prog 276 [x0, x1_1, x2_1] H1 (fun x27 H2 =>
 R (.tuple #[]) H2) X)
 (Gt (binI .eql x3_1 (.int .i64 0)) fun x29 =>
 If x29
 (Ca Tryz.prog 277 [x0, x1_1, x2_1] H1 (fun x33 H3 =>
 R (.tuple #[]) H3) X)
 (Gt (unV .not x8) fun x35 =>
 Jo (fun (I2 : Value → Heap → Prop) => ∀ (H5 : Heap) (x3_2 : Value), I2 x3_2 H5 →
 Ca Tryz.prog 279 [x0, x1_1, x2_1] H5 (fun x46_2 H6 =>
 Gt (exV 0 x46_2) fun x47_2 =>
 Gt (exV 1 x46_2) fun x48_2 =>
 Gt (binI .eql x48_2 (.int .i64 2)) fun x50_2 =>
 Jo (fun (I3 : Value → Value → Heap → Prop) => ∀ (H8 : Heap) (x11_2 : Value) (x12_2 : Value), I3 x11_2 x12_2 H8 →
 Gt (ifO x8 ((some x9)) ((some (.bool false)))) fun x64_8 =>
 Gt (ifO x64_8 ((binI .eql x12_2 (.int .i64 1)).bind fun x67_8 =>
 (some x67_8)) ((some (.bool false)))) fun x68_8 =>
 Jo (fun (I4 : Heap → Prop) => ∀ (H10 : Heap), I4 H10 →
 Jo (fun (I5 : Value → Heap → Prop) => ∀ (H12 : Heap) (x87_26 : Value), I5 x87_26 H12 →
 If x87_26
 (Ca Tryz.prog 283 [x0, x1_1, x2_1, x11_2] H12 (fun x92_80 H13 =>
 I1 x92_80 x2_1 x3_2 x8 x9 H13 ∧ Nat.lt (M1 x92_80 x2_1 x3_2 x8 x9 H13) (M1 x1_1 x2_1 x3_1 x8 x9 H1)) X)
 (Ca Tryz.prog 284 [x0, x1_1, x2_1, x11_2] H12 (fun x99_80 H14 =>
 Gt (exV 0 x99_80) fun x100_80 =>
 Gt (exV 1 x99_80) fun x101_80 =>
 Gt (binI .sub x100_80 x1_1) fun x105_80 =>
 Gt (binI .sub x2_1 x100_80) fun x108_80 =>
 Gt (binI .quo x21 (.int .i64 8)) fun x110_80 =>
 Gt (binI .lss x105_80 x108_80) fun x113_80 =>
 If x113_80
 (Gt (binI .geq x105_80 x110_80) fun x116_80 =>
 Ca Tryz.prog 233 [x0, x1_1, x100_80, x3_2] H14 (fun x121_80 H15 =>
 Gt (binI .add x100_80 (.int .i64 1)) fun x123_80 =>
 I1 x123_80 x2_1 x3_2 x116_80 x101_80 H15 ∧ Nat.lt (M1 x123_80 x2_1 x3_2 x116_80 x101_80 H15) (M1 x1_1 x2_1 x3_1 x8 x9 H1)) X)
 (Gt (binI .geq x108_80 x110_80) fun x126_80 =>
 Gt (binI .add x100_80 (.int .i64 1)) fun x129_80 =>
 Ca Tryz.prog 233 [x0, x129_80, x2_1, x3_2] H14 (fun x132_80 H16 =>
 I1 x1_1 x100_80 x3_2 x126_80 x101_80 H16 ∧ Nat.lt (M1 x1_1 x100_80 x3_2 x126_80 x101_80 H16) (M1 x1_1 x2_1 x3_1 x8 x9 H1)) X)) X)) fun (I5 : Value → Heap → Prop) =>
 Gt (binI .gtr x1_1 (.int .i64 0)) fun x74_26 =>
 If x74_26 (Gt (binI .sub x1_1 (.int .i64 1)) fun x78_26 =>
 Gt (iaV 1 x0 x78_26) fun x79_26 =>
 Gt (rdv x79_26 H10) fun x80_26 =>
 Gt (iaV 1 x0 x11_2) fun x83_26 =>
 Gt (rdv x83_26 H10) fun x84_26 =>
 Ca Tryz.prog 282 [x80_26, x84_26] H10 (fun x85_26 H11 =>
 Gt (unV .not x85_26) fun x86_26 =>
 I5 x86_26 H11) X) (I5 (.bool false) H10)) fun (I4 : Heap → Prop) =>
 If x68_8
 (Ca Tryz.prog 281 [x0, x1_1, x2_1] H8 (fun x72_8 H9 =>
 If x72_8
 (R (.tuple #[]) H9)
 (I4 H9)) X)
 (I4 H8)) fun (I3 : Value → Value → Heap → Prop) =>
 If x50_2
 (Ca Tryz.prog 280 [x0, x1_1, x2_1] H6 (fun x54_2 H7 =>
 Gt (binI .sub x2_1 (.int .i64 1)) fun x56_2 =>
 Gt (binI .sub x47_2 x1_1) fun x59_2 =>
 Gt (binI .sub x56_2 x59_2) fun x60_2 =>
 I3 x60_2 (.int .i64 1) H7) X)
 (I3 x47_2 x48_2 H6)) X) fun (I2 : Value → Heap → Prop) =>
 If x35
 (Ca Tryz.prog 278 [x0, x1_1, x2_1] H1 (fun x39 H4 =>
 Gt (binI .sub x3_1 (.int .i64 1)) fun x41 =>
 I2 x41 H4) X)
 (I2 x3_1 H1)))
theorem l233 (h : i233 x0 x1 x2 x3 H R X) : Runs Tryz.prog 233 [x0, x1, x2, x3] H R X := runs_e tbOk mixed Tryz.func233 (A := [(14, [1, 2, 3, 8, 9]), (1821, [3]), (7293, [11, 12]), (14589, []), (29180, [87])]) (by kernel_rfl) h

-- math/bits.Len
def i234 (x0 : Value) (H : Heap) (R : Value → Heap → Prop) (X : List PanicEntry → Heap → Prop) : Prop :=
 If (.bool false)
 (Gt (cvV .u32 x0) fun x4 =>
 Ca Tryz.prog 285 [x4] H (fun x5 H1 =>
 R x5 H1) X)
 (Ca Tryz.prog 286 [x0] H (fun x7 H2 =>
 R x7 H2) X)
theorem l234 (h : i234 x0 H R X) : Runs Tryz.prog 234 [x0] H R X := runs_e tbOk mixed Tryz.func234 (A := []) (by kernel_rfl) h

-- slices.Index[[]cloister/api.Label,cloister/api.Label]
def i235 (x0 x1 : Value) (H : Heap) (R : Value → Heap → Prop) (X : List PanicEntry → Heap → Prop) : Prop :=
 Gt (lnV x0) fun x7 =>
 Lp fun (I1 : Value → Heap → Prop) (M1 : Value → Heap → Nat) => I1 (.int .i64 0) H ∧ ∀ (H1 : Heap) (x8 : Value), I1 x8 H1 →
 Gt (binI .lss x8 x7) fun x9 =>
 If x9
 (Gt (iaV 1 x0 x8) fun x14 =>
 Gt (rdv x14 H1) fun x15 =>
 Gt (binI .eql x1 x15) fun x16 =>
 If x16
 (R x8 H1)
 (Gt (binI .add x8 (.int .i64 1)) fun x18 =>
 I1 x18 H1 ∧ Nat.lt (M1 x18 H1) (M1 x8 H1)))
 (R (.int .i64 (-1)) H1)
theorem l235 (h : i235 x0 x1 H R X) : Runs Tryz.prog 235 [x0, x1] H R X := runs_e tbOk mixed Tryz.func235 (A := [(26, [8])]) (by kernel_rfl) h

-- (*cloister/area.Area).Read
def i236 (x0 x1 x2 : Value) (H : Heap) (R : Value → Heap → Prop) (X : List PanicEntry → Heap → Prop) : Prop :=
 Gt ((ptrEq 3 x0 (.pointer none) H).map Value.bool) fun x9 =>
 If x9
 (R (.tuple #[(.slice none 0 0), (.int .i64 1)]) H)
 (Jo (fun (I1 : Value → Heap → Prop) => ∀ (H1 : Heap) (x44 : Value), I1 x44 H1 →
 If x44
 (R (.tuple #[(.slice none 0 0), (.int .i64 70)]) H1)
 (Gt (ncV tb x0) fun x46_4 =>
 Gt (faV 1 x46_4) fun x47_4 =>
 Gt (rdv x47_4 H1) fun x48_4 =>
 Gt (ncV tb x0) fun x51_4 =>
 Gt (faV 0 x51_4) fun x52_4 =>
 Gt (rdv x52_4 H1) fun x53_4 =>
 Gt (binI .sub x1 x53_4) fun x54_4 =>
 Gt (slV 1 x48_4 (some x54_4) none) fun x55_4 =>
 Gt (slV 1 x55_4 none (some x2)) fun x57_4 =>
 Ca Tryz.prog 99 [x57_4] H1 (fun x58_4 H2 =>
 R (.tuple #[x58_4, (.int .i64 0)]) H2) X)) fun (I1 : Value → Heap → Prop) =>
 Gt (binI .lss x2 (.int .i64 0)) fun x11 =>
 If x11 (I1 (.bool true) H) (Gt (ncV tb x0) fun x15 =>
 Gt (faV 1 x15) fun x16 =>
 Gt (rdv x16 H) fun x17 =>
 Gt (lnV x17) fun x18 =>
 Gt (binI .gtr x2 x18) fun x19 =>
 If x19 (I1 (.bool true) H) (Gt (ncV tb x0) fun x24 =>
 Gt (faV 0 x24) fun x25 =>
 Gt (rdv x25 H) fun x26 =>
 Gt (binI .lss x1 x26) fun x27 =>
 If x27 (I1 (.bool true) H) (Gt (ncV tb x0) fun x32 =>
 Gt (faV 0 x32) fun x33 =>
 Gt (rdv x33 H) fun x34 =>
 Gt (ncV tb x0) fun x36 =>
 Gt (faV 1 x36) fun x37 =>
 Gt (rdv x37 H) fun x38 =>
 Gt (lnV x38) fun x39 =>
 Gt (binI .add x34 x39) fun x40 =>
 Gt (binI .sub x40 x2) fun x42 =>
 Gt (binI .gtr x1 x42) fun x43 =>
 I1 x43 H))))
theorem l236 (h : i236 x0 x1 x2 H R X) : Runs Tryz.prog 236 [x0, x1, x2] H R X := runs_e tbOk mixed Tryz.func236 (A := [(28, [44])]) (by kernel_rfl) h

-- cloister/frame.All$1
def i237 (x0 x1 : Value) (H : Heap) (R : Value → Heap → Prop) (X : List PanicEntry → Heap → Prop) : Prop :=
 Lp fun (I1 : Value → Heap → Prop) (M1 : Value → Heap → Nat) => I1 (.int .i64 0) H ∧ ∀ (H1 : Heap) (x3 : Value), I1 x3 H1 →
 Gt (rdv x1 H1) fun x8 =>
 Gt (slV 1 x8 (some x3) none) fun x10 =>
 Ca Tryz.prog 238 [x10] H1 (fun x11 H2 =>
 Gt (exV 0 x11) fun x12 =>
 Gt (exV 1 x11) fun x13 =>
 Gt (exV 2 x11) fun x14 =>
 Gt (binI .neq x14 (.int .i64 0)) fun x16 =>
 If x16
 (R (.tuple #[]) H2)
 (Gt (binI .add x3 x13) fun x19 =>
 Cv Tryz.prog tb x0 [x19, x12] H2 (fun x23 H3 =>
 Gt (unV .not x23) fun x24 =>
 If x24
 (R (.tuple #[]) H3)
 (I1 x19 H3 ∧ Nat.lt (M1 x19 H3) (M1 x3 H1))) X)) X
theorem l237 (h : i237 x0 x1 H R X) : Runs Tryz.prog 237 [x0, x1] H R X := runs_e tbOk mixed Tryz.func237 (A := [(6, [3])]) (by kernel_rfl) h

-- cloister/frame.Read
def i238 (x0 : Value) (H : Heap) (R : Value → Heap → Prop) (X : List PanicEntry → Heap → Prop) : Prop :=
 Gt (lnV x0) fun x8 =>
 Gt (binI .eql x8 (.int .i64 0)) fun x9 =>
 If x9
 (R (.tuple #[(.slice none 0 0), (.int .i64 0), (.int .i64 20)]) H)
 (Gt (iaV 1 x0 (.int .i64 0)) fun x11 =>
 Gt (rdv x11 H) fun x12 =>
 Gt (binI .neq x12 (.int .u8 197)) fun x13 =>
 If x13
 (R (.tuple #[(.slice none 0 0), (.int .i64 0), (.int .i64 90)]) H)
 (Gt (lnV x0) fun x15 =>
 Gt (binI .lss x15 (.int .i64 5)) fun x16 =>
 If x16
 (R (.tuple #[(.slice none 0 0), (.int .i64 0), (.int .i64 20)]) H)
 (Gt (slV 1 x0 (some (.int .i64 1)) none) fun x18 =>
 Ca Tryz.prog 287 [x18] H (fun x19 H1 =>
 Gt (binI .gtr x19 (.int .i64 65536)) fun x21 =>
 If x21
 (R (.tuple #[(.slice none 0 0), (.int .i64 0), (.int .i64 3)]) H1)
 (Gt (binI .add (.int .i64 5) x19) fun x23 =>
 Gt (lnV x0) fun x25 =>
 Gt (binI .add x23 (.int .i64 4)) fun x27 =>
 Gt (binI .lss x25 x27) fun x28 =>
 If x28
 (R (.tuple #[(.slice none 0 0), (.int .i64 0), (.int .i64 20)]) H1)
 (Gt (slV 1 x0 (some x23) none) fun x31 =>
 Gt (slV 1 x0 none (some x23)) fun x35 =>
 Ca Tryz.prog 287 [x31] H1 (fun x32 H2 =>
 Ca Tryz.prog 148 [x35] H2 (fun x36 H3 =>
 Gt (cvV .i64 x36) fun x37 =>
 Gt (binI .neq x32 x37) fun x38 =>
 If x38
 (R (.tuple #[(.slice none 0 0), (.int .i64 0), (.int .i64 91)]) H3)
 (Gt (slV 1 x0 (some (.int .i64 5)) (some x23)) fun x41 =>
 Ap 5 1 1 z5 (.slice none 0 0) x41 H3 (fun x42 H4 =>
 Gt (binI .add x23 (.int .i64 4)) fun x44 =>
 R (.tuple #[x42, x44, (.int .i64 0)]) H4))) X) X))) X)))
theorem l238 (h : i238 x0 H R X) : Runs Tryz.prog 238 [x0] H R X := runs_e tbOk mixed Tryz.func238 (A := []) (by kernel_rfl) h

-- (*cloister/txn.Txn).Ended
def i251 (x0 : Value) (H : Heap) (R : Value → Heap → Prop) (X : List PanicEntry → Heap → Prop) : Prop :=
 Gt ((ptrEq 4 x0 (.pointer none) H).map Value.bool) fun x4 =>
 Gt (ifO x4 ((some (.bool true))) ((ncV tb x0).bind fun x7 =>
 (faV 3 x7).bind fun x8 =>
 (rdv x8 H).bind fun x9 =>
 (some x9))) fun x10 =>
 R x10 H
theorem l251 (h : i251 x0 H R X) : Runs Tryz.prog 251 [x0] H R X := runs_e tbOk mixed Tryz.func251 (A := []) (by kernel_rfl) h

-- (*cloister/wset.Set).find
def i252 (x0 x1 : Value) (H : Heap) (R : Value → Heap → Prop) (X : List PanicEntry → Heap → Prop) : Prop :=
 Nw (.cells z359.cells 359 (0, 0)) H fun b4 H1 =>
 Gt ((ptrEq 2 x0 (.pointer none) H1).map Value.bool) fun x9 =>
 If x9
 (Gt (bdV z359 [(0, 1), (1, 1)] []) fun x10 =>
 Gt (stV 2 (.pointer (some ⟨b4, 0, none⟩)) x10 H1) fun H2 =>
 Gt (rda 2 (.pointer (some ⟨b4, 0, none⟩)) H2) fun u1 =>
 R (.tuple #[u1, (.bool false)]) H2)
 (Gt (ncV tb x0) fun x13 =>
 Gt (faV 0 x13) fun x14 =>
 Gt (rdv x14 H1) fun x15 =>
 Gt (lkV .string z359 true x15 x1 H1) fun x17 =>
 Gt (exV 0 x17) fun x18 =>
 Gt (exV 1 x17) fun x19 =>
 Nw (.cells z359.cells 359 (0, 0)) H1 fun b6 H3 =>
 Gt (stV 2 (.pointer (some ⟨b6, 0, none⟩)) x18 H3) fun H4 =>
 Gt (rda 2 (.pointer (some ⟨b6, 0, none⟩)) H4) fun x20 =>
 Gt (stV 2 (.pointer (some ⟨b4, 0, none⟩)) x20 H4) fun H5 =>
 Gt (rda 2 (.pointer (some ⟨b4, 0, none⟩)) H5) fun u2 =>
 R (.tuple #[u2, x19]) H5)
theorem l252 (h : i252 x0 x1 H R X) : Runs Tryz.prog 252 [x0, x1] H R X := runs_e tbOk mixed Tryz.func252 (A := []) (by kernel_rfl) h

-- cloister/wset.version
def i253 (x0 x1 : Value) (H : Heap) (R : Value → Heap → Prop) (X : List PanicEntry → Heap → Prop) : Prop :=
 Nw (.cells x1.cells 359 (0, 0)) H fun b3 H1 =>
 Nw (.cells z190.cells 190 (0, 0)) H1 fun b4 H2 =>
 Gt (faV 0 (.pointer (some ⟨b3, 0, none⟩))) fun x6 =>
 Gt (rdv x6 H2) fun x7 =>
 Gt (faV 1 (.pointer (some ⟨b3, 0, none⟩))) fun x9 =>
 Gt (rdv x9 H2) fun x10 =>
 Ca Tryz.prog 263 [x7] H2 (fun x8 H3 =>
 Sm (rdv x9 H3) x10 <|
 Gt (bdV z190 [(0, 1), (1, 1), (2, 1), (3, 1)] [(0, x0), (2, x8), (3, x10)]) fun x11 =>
 Gt (stV 4 (.pointer (some ⟨b4, 0, none⟩)) x11 H3) fun H4 =>
 Gt (rda 4 (.pointer (some ⟨b4, 0, none⟩)) H4) fun u1 =>
 R u1 H4) X
theorem l253 (h : i253 x0 x1 H R X) : Runs Tryz.prog 253 [x0, x1] H R X := runs_e tbOk mixed Tryz.func253 (A := []) (by kernel_rfl) h

-- (*cloister/quota.Account).Charge
def i260 (x0 x1 x2 : Value) (H : Heap) (R : Value → Heap → Prop) (X : List PanicEntry → Heap → Prop) : Prop :=
 Gt ((ptrEq 5 x0 (.pointer none) H).map Value.bool) fun x9 =>
 If x9
 (R (.int .i64 1) H)
 (Jo (fun (I1 : Value → Heap → Prop) => ∀ (H3 : Heap) (x10 : Value), I1 x10 H3 →
 If x10
 (R (.int .i64 2) H3)
 (Gt (ncV tb x0) fun x31_2 =>
 Gt (faV 0 x31_2) fun x32_2 =>
 Gt (rdv x32_2 H3) fun x33_2 =>
 Ca Tryz.prog 54 [x0] H3 (fun x25_2 H4 =>
 Sm (rdv x32_2 H4) x33_2 <|
 Gt (binI .sub x25_2 x1) fun x27_2 =>
 Gt (binI .add x27_2 x2) fun x29_2 =>
 Gt (binI .gtr x29_2 x33_2) fun x34_2 =>
 If x34_2
 (R (.int .i64 150) H4)
 (Gt (ncV tb x0) fun x36 =>
 Gt (faV 3 x36) fun x37 =>
 Gt (rdv x37 H4) fun x38 =>
 Gt (binI .sub x2 x1) fun x41 =>
 Gt (binI .add x38 x41) fun x42 =>
 Gt (ncV tb x0) fun x43 =>
 Gt (faV 3 x43) fun x44 =>
 Gt (stV 1 x44 x42 H4) fun H5 =>
 R (.int .i64 0) H5)) X)) fun (I1 : Value → Heap → Prop) =>
 Gt (ncV tb x0) fun x13 =>
 Gt (faV 3 x13) fun x14 =>
 Gt (rdv x14 H) fun x15 =>
 Ca Tryz.prog 172 [x1, x15] H (fun x16 H1 =>
 Gt (unV .not x16) fun x17 =>
 If x17 (I1 (.bool true) H1) (Ca Tryz.prog 172 [x2, (.int .i64 1048576)] H1 (fun x20 H2 =>
 Gt (unV .not x20) fun x21 =>
 I1 x21 H2) X)) X)
theorem l260 (h : i260 x0 x1 x2 H R X) : Runs Tryz.prog 260 [x0, x1, x2] H R X := runs_e tbOk mixed Tryz.func260 (A := [(102, [10])]) (by kernel_rfl) h

-- (*cloister/wset.Set).Weight
def i261 (x0 x1 : Value) (H : Heap) (R : Value → Heap → Prop) (X : List PanicEntry → Heap → Prop) : Prop :=
 Ca Tryz.prog 252 [x0, x1] H (fun x10 H1 =>
 Gt (exV 0 x10) fun x11 =>
 Gt (exV 1 x10) fun x12 =>
 Nw (.cells z359.cells 359 (0, 0)) H1 fun b5 H2 =>
 Gt (stV 2 (.pointer (some ⟨b5, 0, none⟩)) x11 H2) fun H3 =>
 Gt (unV .not x12) fun x14 =>
 If x14
 (R (.int .i64 0) H3)
 (Gt (lsV x1) fun x16 =>
 Gt (faV 0 (.pointer (some ⟨b5, 0, none⟩))) fun x17 =>
 Gt (rdv x17 H3) fun x18 =>
 Gt (lnV x18) fun x19 =>
 Gt (binI .add x16 x19) fun x20 =>
 R x20 H3)) X
theorem l261 (h : i261 x0 x1 H R X) : Runs Tryz.prog 261 [x0, x1] H R X := runs_e tbOk mixed Tryz.func261 (A := []) (by kernel_rfl) h

-- (*cloister/wset.Set).lay
def i262 (x0 x1 x2 : Value) (H : Heap) (R : Value → Heap → Prop) (X : List PanicEntry → Heap → Prop) : Prop :=
 Nw (.cells x2.cells 359 (0, 0)) H fun b5 H1 =>
 Gt ((ptrEq 2 x0 (.pointer none) H1).map Value.bool) fun x9 =>
 If x9
 (R (.int .i64 1) H1)
 (Gt (lsV x1) fun x12 =>
 Gt (binI .lss x12 (.int .i64 1)) fun x13 =>
 Gt (ifO x13 ((some (.bool true))) ((lsV x1).bind fun x16 =>
 (binI .gtr x16 (.int .i64 255)).bind fun x17 =>
 (some x17))) fun x18 =>
 If x18
 (R (.int .i64 140) H1)
 (Gt (faV 0 (.pointer (some ⟨b5, 0, none⟩))) fun x20 =>
 Gt (rdv x20 H1) fun x21 =>
 Gt (lnV x21) fun x22 =>
 Gt (binI .gtr x22 (.int .i64 4096)) fun x23 =>
 If x23
 (R (.int .i64 141) H1)
 (Gt (ncV tb x0) fun x25 =>
 Gt (faV 0 x25) fun x26 =>
 Gt (rdv x26 H1) fun x27 =>
 Gt ((nilEq (.map 9 359) x27 (.map none)).map Value.bool) fun x28 =>
 Jo (fun (I1 : Heap → Prop) => ∀ (H4 : Heap), I1 H4 →
 Gt (ncV tb x0) fun x34_2 =>
 Gt (faV 1 x34_2) fun x35_2 =>
 Gt (rdv x35_2 H4) fun x36_2 =>
 Ca Tryz.prog 261 [x0, x1] H4 (fun x39_2 H5 =>
 Sm (rdv x35_2 H5) x36_2 <|
 Gt (binI .sub x36_2 x39_2) fun x40_2 =>
 Gt (ncV tb x0) fun x41_2 =>
 Gt (faV 1 x41_2) fun x42_2 =>
 Gt (stV 1 x42_2 x40_2 H5) fun H6 =>
 Gt (ncV tb x0) fun x44_2 =>
 Gt (faV 0 x44_2) fun x45_2 =>
 Gt (rdv x45_2 H6) fun x46_2 =>
 Gt (rda 2 (.pointer (some ⟨b5, 0, none⟩)) H6) fun x48_2 =>
 Gt (muV .string x46_2 x1 x48_2 H6) fun H7 =>
 Gt (ncV tb x0) fun x50_2 =>
 Gt (faV 1 x50_2) fun x51_2 =>
 Gt (rdv x51_2 H7) fun x52_2 =>
 Ca Tryz.prog 261 [x0, x1] H7 (fun x55_2 H8 =>
 Sm (rdv x51_2 H8) x52_2 <|
 Gt (binI .add x52_2 x55_2) fun x56_2 =>
 Gt (ncV tb x0) fun x57_2 =>
 Gt (faV 1 x57_2) fun x58_2 =>
 Gt (stV 1 x58_2 x56_2 H8) fun H9 =>
 R (.int .i64 0) H9) X) X) fun (I1 : Heap → Prop) =>
 If x28
 (Nw (.map #[] 0) H1 fun b30 H2 =>
 Gt (ncV tb x0) fun x31 =>
 Gt (faV 0 x31) fun x32 =>
 Gt (stV 1 x32 (.map (some b30)) H2) fun H3 =>
 I1 H3)
 (I1 H1))))
theorem l262 (h : i262 x0 x1 x2 H R X) : Runs Tryz.prog 262 [x0, x1, x2] H R X := runs_e tbOk mixed Tryz.func262 (A := [(29, [])]) (by kernel_rfl) h

-- cloister/wset.own
def i263 (x0 : Value) (H : Heap) (R : Value → Heap → Prop) (X : List PanicEntry → Heap → Prop) : Prop :=
 Ap 5 1 1 z5 (.slice none 0 0) x0 H (fun x4 H1 =>
 R x4 H1)
theorem l263 (h : i263 x0 H R X) : Runs Tryz.prog 263 [x0] H R X := runs_e tbOk mixed Tryz.func263 (A := []) (by kernel_rfl) h

-- cloister/commit.may
def i264 (x0 : Value) (H : Heap) (R : Value → Heap → Prop) (X : List PanicEntry → Heap → Prop) : Prop :=
 Gt (lnV x0) fun x6 =>
 Lp fun (I1 : Value → Heap → Prop) (M1 : Value → Heap → Nat) => I1 (.int .i64 0) H ∧ ∀ (H1 : Heap) (x7 : Value), I1 x7 H1 →
 Gt (binI .lss x7 x6) fun x8 =>
 If x8
 (Gt (iaV 4 x0 x7) fun x10 =>
 Gt (rda 4 x10 H1) fun x11 =>
 Nw (.cells z190.cells 190 (0, 0)) H1 fun b4 H2 =>
 Gt (stV 4 (.pointer (some ⟨b4, 0, none⟩)) x11 H2) fun H3 =>
 Gt (binI .gtr x7 (.int .i64 0)) fun x13 =>
 If x13 (Gt (faV 0 (.pointer (some ⟨b4, 0, none⟩))) fun x15 =>
 Gt (rdv x15 H3) fun x16 =>
 Gt (binI .sub x7 (.int .i64 1)) fun x19 =>
 Gt (iaV 4 x0 x19) fun x20 =>
 Gt (faV 0 x20) fun x21 =>
 Gt (rdv x21 H3) fun x22 =>
 Gt (binS .leq x16 x22) fun x23 =>
 If x23
 (R (.int .i64 2) H3)
 (Gt (binI .add x7 (.int .i64 1)) fun x25 =>
 I1 x25 H3 ∧ Nat.lt (M1 x25 H3) (M1 x7 H1))) (If (.bool false)
 (R (.int .i64 2) H3)
 (Gt (binI .add x7 (.int .i64 1)) fun x25_1 =>
 I1 x25_1 H3 ∧ Nat.lt (M1 x25_1 H3) (M1 x7 H1))))
 (R (.int .i64 0) H1)
theorem l264 (h : i264 x0 H R X) : Runs Tryz.prog 264 [x0] H R X := runs_e tbOk mixed Tryz.func264 (A := [(26, [7])]) (by kernel_rfl) h

-- cloister/commit.fits
def i265 (x0 : Value) (H : Heap) (R : Value → Heap → Prop) (X : List PanicEntry → Heap → Prop) : Prop :=
 Gt (lnV x0) fun x6 =>
 Lp fun (I1 : Value → Heap → Prop) (M1 : Value → Heap → Nat) => I1 (.int .i64 0) H ∧ ∀ (H1 : Heap) (x7 : Value), I1 x7 H1 →
 Gt (binI .lss x7 x6) fun x8 =>
 If x8
 (Gt (iaV 4 x0 x7) fun x9 =>
 Gt (rda 4 x9 H1) fun x10 =>
 Nw (.cells z190.cells 190 (0, 0)) H1 fun b4 H2 =>
 Gt (stV 4 (.pointer (some ⟨b4, 0, none⟩)) x10 H2) fun H3 =>
 Gt (faV 0 (.pointer (some ⟨b4, 0, none⟩))) fun x11 =>
 Gt (rdv x11 H3) fun x12 =>
 Gt (lsV x12) fun x13 =>
 Gt (binI .lss x13 (.int .i64 1)) fun x14 =>
 Gt (ifO x14 ((some (.bool true))) ((faV 0 (.pointer (some ⟨b4, 0, none⟩))).bind fun x16 =>
 (rdv x16 H3).bind fun x17 =>
 (lsV x17).bind fun x18 =>
 (binI .gtr x18 (.int .i64 255)).bind fun x19 =>
 (some x19))) fun x20 =>
 If x20
 (R (.int .i64 140) H3)
 (Gt (faV 2 (.pointer (some ⟨b4, 0, none⟩))) fun x21 =>
 Gt (rdv x21 H3) fun x22 =>
 Gt (lnV x22) fun x23 =>
 Gt (binI .gtr x23 (.int .i64 4096)) fun x24 =>
 Gt (ifO x24 (ifO undef ((faV 2 (.pointer (some ⟨b4, 0, none⟩))).bind fun x29 =>
 (rdv x29 H3).bind fun x30 =>
 (lnV x30).bind fun x31 =>
 (binI .gtr x31 (.int .i64 0)).bind fun x32 =>
 (some (.bool true))) ((some (.bool true)))) ((faV 3 (.pointer (some ⟨b4, 0, none⟩))).bind fun x26 =>
 (rdv x26 H3).bind fun x27 =>
 ifO x27 ((faV 2 (.pointer (some ⟨b4, 0, none⟩))).bind fun x29_1 =>
 (rdv x29_1 H3).bind fun x30_1 =>
 (lnV x30_1).bind fun x31_1 =>
 (binI .gtr x31_1 (.int .i64 0)).bind fun x32_1 =>
 (some x32_1)) ((some (.bool false))))) fun x34 =>
 If x34
 (R (.int .i64 141) H3)
 (Gt (binI .add x7 (.int .i64 1)) fun x35 =>
 I1 x35 H3 ∧ Nat.lt (M1 x35 H3) (M1 x7 H1))))
 (R (.int .i64 0) H1)
theorem l265 (h : i265 x0 H R X) : Runs Tryz.prog 265 [x0] H R X := runs_e tbOk mixed Tryz.func265 (A := [(26, [7])]) (by kernel_rfl) h

-- cloister/commit.anyAbove
def i266 (x0 x1 x2 : Value) (H : Heap) (R : Value → Heap → Prop) (X : List PanicEntry → Heap → Prop) : Prop :=
 Gt (lnV x1) fun x12 =>
 Lp fun (I1 : Value → Heap → Prop) (M1 : Value → Heap → Nat) => I1 (.int .i64 0) H ∧ ∀ (H1 : Heap) (x13 : Value), I1 x13 H1 →
 Gt (binI .lss x13 x12) fun x14 =>
 If x14
 (Gt (iaV 4 x1 x13) fun x15 =>
 Gt (rda 4 x15 H1) fun x16 =>
 Nw (.cells z190.cells 190 (0, 0)) H1 fun b8 H2 =>
 Gt (stV 4 (.pointer (some ⟨b8, 0, none⟩)) x16 H2) fun H3 =>
 Gt (faV 0 (.pointer (some ⟨b8, 0, none⟩))) fun x19 =>
 Gt (rdv x19 H3) fun x20 =>
 Ca Tryz.prog 298 [x0, x20] H3 (fun x21 H4 =>
 Gt (exV 0 x21) fun x22 =>
 Gt (exV 1 x21) fun x23 =>
 Gt (ifO x23 ((binI .gtr x22 x2).bind fun x28 =>
 (some x28)) ((some (.bool false)))) fun x29 =>
 If x29
 (R (.bool true) H4)
 (Gt (binI .add x13 (.int .i64 1)) fun x30 =>
 I1 x30 H4 ∧ Nat.lt (M1 x30 H4) (M1 x13 H1))) X)
 (R (.bool false) H1)
theorem l266 (h : i266 x0 x1 x2 H R X) : Runs Tryz.prog 266 [x0, x1, x2] H R X := runs_e tbOk mixed Tryz.func266 (A := [(26, [13])]) (by kernel_rfl) h

-- cloister/commit.Conflict
def i267 (x0 x1 x2 : Value) (H : Heap) (R : Value → Heap → Prop) (X : List PanicEntry → Heap → Prop) : Prop :=
 Ca Tryz.prog 266 [x0, x1, x2] H (fun x10 H1 =>
 R x10 H1) X
theorem l267 (h : i267 x0 x1 x2 H R X) : Runs Tryz.prog 267 [x0, x1, x2] H R X := runs_e tbOk mixed Tryz.func267 (A := []) (by kernel_rfl) h

-- (*cloister/stamp.Clock).Worn
def i268 (x0 : Value) (H : Heap) (R : Value → Heap → Prop) (X : List PanicEntry → Heap → Prop) : Prop :=
 Gt ((ptrEq 2 x0 (.pointer none) H).map fun t => Value.bool !t) fun x4 =>
 Gt (ifO x4 ((ncV tb x0).bind fun x7 =>
 (faV 0 x7).bind fun x8 =>
 (rdv x8 H).bind fun x9 =>
 (binI .eql x9 (.int .i64 4611686018427387904)).bind fun x10 =>
 (some x10)) ((some (.bool false)))) fun x11 =>
 R x11 H
theorem l268 (h : i268 x0 H R X) : Runs Tryz.prog 268 [x0] H R X := runs_e tbOk mixed Tryz.func268 (A := []) (by kernel_rfl) h

-- cloister/entry.OfWrite
def i269 (x0 : Value) (H : Heap) (R : Value → Heap → Prop) (X : List PanicEntry → Heap → Prop) : Prop :=
 Nw (.cells x0.cells 190 (0, 0)) H fun b1 H1 =>
 Nw (.cells z182.cells 182 (0, 0)) H1 fun b2 H2 =>
 Gt (faV 3 (.pointer (some ⟨b1, 0, none⟩))) fun x3 =>
 Gt (rdv x3 H2) fun x4 =>
 If x4
 (Gt (faV 0 (.pointer (some ⟨b1, 0, none⟩))) fun x5 =>
 Gt (rdv x5 H2) fun x6 =>
 Gt (bdV z182 [(0, 1), (1, 1), (2, 1), (3, 1), (4, 1), (5, 1)] [(0, (.int .i64 2)), (3, x6)]) fun x7 =>
 Gt (stV 6 (.pointer (some ⟨b2, 0, none⟩)) x7 H2) fun H3 =>
 Gt (rda 6 (.pointer (some ⟨b2, 0, none⟩)) H3) fun u1 =>
 R u1 H3)
 (Gt (faV 0 (.pointer (some ⟨b1, 0, none⟩))) fun x8 =>
 Gt (rdv x8 H2) fun x9 =>
 Gt (faV 2 (.pointer (some ⟨b1, 0, none⟩))) fun x10 =>
 Gt (rdv x10 H2) fun x11 =>
 Ca Tryz.prog 155 [x11] H2 (fun x12 H4 =>
 Sm (rdv x8 H4) x9 <|
 Gt (bdV z182 [(0, 1), (1, 1), (2, 1), (3, 1), (4, 1), (5, 1)] [(0, (.int .i64 1)), (3, x9), (4, x12)]) fun x13 =>
 Gt (stV 6 (.pointer (some ⟨b2, 0, none⟩)) x13 H4) fun H5 =>
 Gt (rda 6 (.pointer (some ⟨b2, 0, none⟩)) H5) fun u2 =>
 R u2 H5) X)
theorem l269 (h : i269 x0 H R X) : Runs Tryz.prog 269 [x0] H R X := runs_e tbOk mixed Tryz.func269 (A := []) (by kernel_rfl) h

-- cloister/store.may
def i270 (x0 : Value) (H : Heap) (R : Value → Heap → Prop) (X : List PanicEntry → Heap → Prop) : Prop :=
 Nw (.cells x0.cells 190 (0, 0)) H fun b1 H1 =>
 Gt (faV 0 (.pointer (some ⟨b1, 0, none⟩))) fun x4 =>
 Gt (rdv x4 H1) fun x5 =>
 Gt (lsV x5) fun x6 =>
 Gt (binI .lss x6 (.int .i64 1)) fun x7 =>
 Gt (ifO x7 ((some (.bool true))) ((faV 0 (.pointer (some ⟨b1, 0, none⟩))).bind fun x9 =>
 (rdv x9 H1).bind fun x10 =>
 (lsV x10).bind fun x11 =>
 (binI .gtr x11 (.int .i64 255)).bind fun x12 =>
 (some x12))) fun x13 =>
 If x13
 (R (.int .i64 140) H1)
 (Gt (faV 2 (.pointer (some ⟨b1, 0, none⟩))) fun x15 =>
 Gt (rdv x15 H1) fun x16 =>
 Gt (lnV x16) fun x17 =>
 Gt (binI .gtr x17 (.int .i64 4096)) fun x18 =>
 Gt (ifO x18 (ifO undef ((faV 2 (.pointer (some ⟨b1, 0, none⟩))).bind fun x23 =>
 (rdv x23 H1).bind fun x24 =>
 (lnV x24).bind fun x25 =>
 (binI .gtr x25 (.int .i64 0)).bind fun x26 =>
 (some (.bool true))) ((some (.bool true)))) ((faV 3 (.pointer (some ⟨b1, 0, none⟩))).bind fun x20 =>
 (rdv x20 H1).bind fun x21 =>
 ifO x21 ((faV 2 (.pointer (some ⟨b1, 0, none⟩))).bind fun x23_1 =>
 (rdv x23_1 H1).bind fun x24_1 =>
 (lnV x24_1).bind fun x25_1 =>
 (binI .gtr x25_1 (.int .i64 0)).bind fun x26_1 =>
 (some x26_1)) ((some (.bool false))))) fun x28 =>
 If x28
 (R (.int .i64 141) H1)
 (Gt (faV 1 (.pointer (some ⟨b1, 0, none⟩))) fun x30 =>
 Gt (rdv x30 H1) fun x31 =>
 Gt (binI .lss x31 (.int .i64 0)) fun x32 =>
 Gt (ifO x32 ((some (.bool true))) ((faV 1 (.pointer (some ⟨b1, 0, none⟩))).bind fun x34 =>
 (rdv x34 H1).bind fun x35 =>
 (binI .gtr x35 (.int .i64 4611686018427387904)).bind fun x36 =>
 (some x36))) fun x37 =>
 If x37
 (R (.int .i64 2) H1)
 (R (.int .i64 0) H1)))
theorem l270 (h : i270 x0 H R X) : Runs Tryz.prog 270 [x0] H R X := runs_e tbOk mixed Tryz.func270 (A := []) (by kernel_rfl) h

-- (*cloister/store.Store).weight
def i271 (x0 x1 : Value) (H : Heap) (R : Value → Heap → Prop) (X : List PanicEntry → Heap → Prop) : Prop :=
 Ca Tryz.prog 93 [x0, x1] H (fun x10 H1 =>
 Ca Tryz.prog 299 [x10] H1 (fun x11 H2 =>
 Gt (exV 0 x11) fun x12 =>
 Gt (exV 1 x11) fun x13 =>
 Nw (.cells z194.cells 194 (0, 0)) H2 fun b5 H3 =>
 Gt (stV 3 (.pointer (some ⟨b5, 0, none⟩)) x12 H3) fun H4 =>
 Gt (unV .not x13) fun x15 =>
 Gt (ifO x15 ((some (.bool true))) ((faV 2 (.pointer (some ⟨b5, 0, none⟩))).bind fun x17 =>
 (rdv x17 H4).bind fun x18 =>
 (some x18))) fun x19 =>
 If x19
 (R (.int .i64 0) H4)
 (Gt (lsV x1) fun x21 =>
 Gt (faV 1 (.pointer (some ⟨b5, 0, none⟩))) fun x22 =>
 Gt (rdv x22 H4) fun x23 =>
 Gt (lnV x23) fun x24 =>
 Gt (binI .add x21 x24) fun x25 =>
 R x25 H4)) X) X
theorem l271 (h : i271 x0 x1 H R X) : Runs Tryz.prog 271 [x0, x1] H R X := runs_e tbOk mixed Tryz.func271 (A := []) (by kernel_rfl) h

-- (*cloister/chain.Chain[[]byte]).Add
def i272 (x0 x1 : Value) (H : Heap) (R : Value → Heap → Prop) (X : List PanicEntry → Heap → Prop) : Prop :=
 Nw (.cells x1.cells 194 (0, 0)) H fun b3 H1 =>
 Gt ((ptrEq 1 x0 (.pointer none) H1).map Value.bool) fun x8 =>
 If x8
 (R (.int .i64 1) H1)
 (Ca Tryz.prog 299 [x0] H1 (fun x11 H2 =>
 Gt (exV 0 x11) fun x12 =>
 Gt (exV 1 x11) fun x13 =>
 Nw (.cells z194.cells 194 (0, 0)) H2 fun b5 H3 =>
 Gt (stV 3 (.pointer (some ⟨b5, 0, none⟩)) x12 H3) fun H4 =>
 Gt (faV 0 (.pointer (some ⟨b3, 0, none⟩))) fun x14 =>
 Gt (rdv x14 H4) fun x15 =>
 Gt (binI .lss x15 (.int .i64 0)) fun x16 =>
 Gt (ifO x16 (ifO undef ((faV 0 (.pointer (some ⟨b3, 0, none⟩))).bind fun x20 =>
 (rdv x20 H4).bind fun x21 =>
 (faV 0 (.pointer (some ⟨b5, 0, none⟩))).bind fun x22 =>
 (rdv x22 H4).bind fun x23 =>
 (binI .leq x21 x23).bind fun x24 =>
 (some (.bool true))) ((some (.bool true)))) (ifO x13 ((faV 0 (.pointer (some ⟨b3, 0, none⟩))).bind fun x20_1 =>
 (rdv x20_1 H4).bind fun x21_1 =>
 (faV 0 (.pointer (some ⟨b5, 0, none⟩))).bind fun x22_1 =>
 (rdv x22_1 H4).bind fun x23_1 =>
 (binI .leq x21_1 x23_1).bind fun x24_1 =>
 (some x24_1)) ((some (.bool false))))) fun x26 =>
 If x26
 (R (.int .i64 130) H4)
 (Gt (ncV tb x0) fun x29 =>
 Gt (faV 0 x29) fun x30 =>
 Gt (rdv x30 H4) fun x31 =>
 Gt (rda 3 (.pointer (some ⟨b3, 0, none⟩)) H4) fun x32 =>
 Gt (bsV 3 1 z194 [(0, x32)]) fun c33 =>
 Nw (.cells c33.toArray 194 (0, 0)) H4 fun b33_1 H5 =>
 Ap 194 3 40 z194 x31 (.slice (some ⟨b33_1, 0, none⟩) 1 1) H5 (fun x34 H6 =>
 Gt (ncV tb x0) fun x35 =>
 Gt (faV 0 x35) fun x36 =>
 Gt (stV 1 x36 x34 H6) fun H7 =>
 R (.int .i64 0) H7))) X)
theorem l272 (h : i272 x0 x1 H R X) : Runs Tryz.prog 272 [x0, x1] H R X := runs_e tbOk mixed Tryz.func272 (A := []) (by kernel_rfl) h

-- maps.Keys[map[string]cloister/wset.write,string,cloister/wset.write]
def i273 (x0 : Value) (H : Heap) (R : Value → Heap → Prop) (X : List PanicEntry → Heap → Prop) : Prop :=
 Nw (.cells x0.cells 320 (0, 0)) H fun b1 H1 =>
 R (.func (.func 300) #[] #[(.pointer (some ⟨b1, 0, none⟩))]) H1
theorem l273 (h : i273 x0 H R X) : Runs Tryz.prog 273 [x0] H R X := runs_e tbOk mixed Tryz.func273 (A := []) (by kernel_rfl) h

-- (*cloister/quota.Account).End
def i274 (x0 x1 : Value) (H : Heap) (R : Value → Heap → Prop) (X : List PanicEntry → Heap → Prop) : Prop :=
 Jo (fun (I1 : Heap → Prop) => ∀ (H2 : Heap), I1 H2 →
 Gt (ncV tb x0) fun x24_2 =>
 Gt (faV 4 x24_2) fun x25_2 =>
 Gt (rdv x25_2 H2) fun x26_2 =>
 Gt (binI .sub x26_2 (.int .i64 1)) fun x27_2 =>
 Gt (ncV tb x0) fun x28_2 =>
 Gt (faV 4 x28_2) fun x29_2 =>
 Gt (stV 1 x29_2 x27_2 H2) fun H3 =>
 Gt (ncV tb x0) fun x31_2 =>
 Gt (faV 3 x31_2) fun x32_2 =>
 Gt (rdv x32_2 H3) fun x33_2 =>
 Gt (binI .sub x33_2 x1) fun x35_2 =>
 Gt (ncV tb x0) fun x36_2 =>
 Gt (faV 3 x36_2) fun x37_2 =>
 Gt (stV 1 x37_2 x35_2 H3) fun H4 =>
 R (.int .i64 0) H4) fun (I1 : Heap → Prop) =>
 Gt ((ptrEq 5 x0 (.pointer none) H).map Value.bool) fun x7 =>
 If x7
 (R (.int .i64 1) H)
 (Gt (ncV tb x0) fun x10 =>
 Gt (faV 4 x10) fun x11 =>
 Gt (rdv x11 H) fun x12 =>
 Gt (binI .eql x12 (.int .i64 0)) fun x13 =>
 If x13 (If (.bool true)
 (R (.int .i64 2) H)
 (I1 H)) (Gt (ncV tb x0) fun x17 =>
 Gt (faV 3 x17) fun x18 =>
 Gt (rdv x18 H) fun x19 =>
 Ca Tryz.prog 172 [x1, x19] H (fun x20 H1 =>
 Gt (unV .not x20) fun x21 =>
 If x21
 (R (.int .i64 2) H1)
 (I1 H1)) X))
theorem l274 (h : i274 x0 x1 H R X) : Runs Tryz.prog 274 [x0, x1] H R X := runs_e tbOk mixed Tryz.func274 (A := [(6, [])]) (by kernel_rfl) h

-- (*cloister/wset.Set).Bytes
def i275 (x0 : Value) (H : Heap) (R : Value → Heap → Prop) (X : List PanicEntry → Heap → Prop) : Prop :=
 Gt ((ptrEq 2 x0 (.pointer none) H).map Value.bool) fun x4 =>
 If x4
 (R (.int .i64 0) H)
 (Gt (ncV tb x0) fun x6 =>
 Gt (faV 1 x6) fun x7 =>
 Gt (rdv x7 H) fun x8 =>
 R x8 H)
theorem l275 (h : i275 x0 H R X) : Runs Tryz.prog 275 [x0] H R X := runs_e tbOk mixed Tryz.func275 (A := []) (by kernel_rfl) h

-- slices.insertionSortOrdered[string]
def i276 (x0 x1 x2 : Value) (H : Heap) (R : Value → Heap → Prop) (X : List PanicEntry → Heap → Prop) : Prop :=
 Gt (binI .add x1 (.int .i64 1)) fun x9 =>
 Lp fun (I1 : Value → Heap → Prop) (M1 : Value → Heap → Nat) => I1 x9 H ∧ ∀ (H1 : Heap) (x6 : Value), I1 x6 H1 →
 Gt (binI .lss x6 x2) fun x12 =>
 If x12
 (Lp fun (I2 : Value → Heap → Prop) (M2 : Value → Heap → Nat) => I2 x6 H1 ∧ ∀ (H2 : Heap) (x7 : Value), I2 x7 H2 →
 Jo (fun (I3 : Value → Heap → Prop) => ∀ (H4 : Heap) (x30 : Value), I3 x30 H4 →
 If x30
 (Gt (binI .sub x7 (.int .i64 1)) fun x37_2 =>
 Gt (binI .sub x7 (.int .i64 1)) fun x40_2 =>
 Gt (iaV 1 x0 x40_2) fun x41_2 =>
 Gt (rdv x41_2 H4) fun x42_2 =>
 Gt (iaV 1 x0 x7) fun x45_2 =>
 Gt (rdv x45_2 H4) fun x46_2 =>
 Gt (iaV 1 x0 x7) fun x47_2 =>
 Gt (stV 1 x47_2 x42_2 H4) fun H5 =>
 Gt (iaV 1 x0 x37_2) fun x48_2 =>
 Gt (stV 1 x48_2 x46_2 H5) fun H6 =>
 Gt (binI .sub x7 (.int .i64 1)) fun x32_2 =>
 I2 x32_2 H6 ∧ Nat.lt (M2 x32_2 H6) (M2 x7 H2))
 (Gt (binI .add x6 (.int .i64 1)) fun x14 =>
 I1 x14 H4 ∧ Nat.lt (M1 x14 H4) (M1 x6 H1))) fun (I3 : Value → Heap → Prop) =>
 Gt (binI .gtr x7 x1) fun x18 =>
 If x18 (Gt (iaV 1 x0 x7) fun x22 =>
 Gt (rdv x22 H2) fun x23 =>
 Gt (binI .sub x7 (.int .i64 1)) fun x26 =>
 Gt (iaV 1 x0 x26) fun x27 =>
 Gt (rdv x27 H2) fun x28 =>
 Ca Tryz.prog 282 [x23, x28] H2 (fun x29 H3 =>
 I3 x29 H3) X) (I3 (.bool false) H2))
 (R (.tuple #[]) H1)
theorem l276 (h : i276 x0 x1 x2 H R X) : Runs Tryz.prog 276 [x0, x1, x2] H R X := runs_e tbOk mixed Tryz.func276 (A := [(6, [6]), (402, [7]), (3216, [30])]) (by kernel_rfl) h

-- math/bits.Len64
def i286 (x0 : Value) (H : Heap) (R : Value → Heap → Prop) (X : List PanicEntry → Heap → Prop) : Prop :=
 Gt (binI .geq x0 (.int .u64 4294967296)) fun x4 =>
 Jo (fun (I1 : Value → Value → Heap → Prop) => ∀ (H1 : Heap) (x0_9 : Value) (x2_8 : Value), I1 x0_9 x2_8 H1 →
 Gt (binI .geq x0_9 (.int .u64 65536)) fun x8_2 =>
 Jo (fun (I2 : Value → Value → Heap → Prop) => ∀ (H2 : Heap) (x0_12 : Value) (x2_11 : Value), I2 x0_12 x2_11 H2 →
 Gt (binI .geq x0_12 (.int .u64 256)) fun x14_8 =>
 Jo (fun (I3 : Value → Value → Heap → Prop) => ∀ (H3 : Heap) (x0_13 : Value) (x2_12 : Value), I3 x0_13 x2_12 H3 →
 Gt (cvV .u8 x0_13) fun x21_26 =>
 Gt (ixV (.string ⟨[0, 1, 2, 2, 3, 3, 3, 3, 4, 4, 4, 4, 4, 4, 4, 4, 5, 5, 5, 5, 5, 5, 5, 5, 5, 5, 5, 5, 5, 5, 5, 5, 6, 6, 6, 6, 6, 6, 6, 6, 6, 6, 6, 6, 6, 6, 6, 6, 6, 6, 6, 6, 6, 6, 6, 6, 6, 6, 6, 6, 6, 6, 6, 6, 7, 7, 7, 7, 7, 7, 7, 7, 7, 7, 7, 7, 7, 7, 7, 7, 7, 7, 7, 7, 7, 7, 7, 7, 7, 7, 7, 7, 7, 7, 7, 7, 7, 7, 7, 7, 7, 7, 7, 7, 7, 7, 7, 7, 7, 7, 7, 7, 7, 7, 7, 7, 7, 7, 7, 7, 7, 7, 7, 7, 7, 7, 7, 7, 8, 8, 8, 8, 8, 8, 8, 8, 8, 8, 8, 8, 8, 8, 8, 8, 8, 8, 8, 8, 8, 8, 8, 8, 8, 8, 8, 8, 8, 8, 8, 8, 8, 8, 8, 8, 8, 8, 8, 8, 8, 8, 8, 8, 8, 8, 8, 8, 8, 8, 8, 8, 8, 8, 8, 8, 8, 8, 8, 8, 8, 8, 8, 8, 8, 8, 8, 8, 8, 8, 8, 8, 8, 8, 8, 8, 8, 8, 8, 8, 8, 8, 8, 8, 8, 8, 8, 8, 8, 8, 8, 8, 8, 8, 8, 8, 8, 8, 8, 8, 8, 8, 8, 8, 8, 8, 8, 8, 8, 8, 8, 8, 8, 8, 8, 8, 8, 8, 8, 8, 8, 8, 8, 8, 8, 8, 8, 8].toArray⟩) x21_26) fun x22_26 =>
 Gt (cvV .i64 x22_26) fun x23_26 =>
 Gt (binI .add x2_12 x23_26) fun x24_26 =>
 R x24_26 H3) fun (I3 : Value → Value → Heap → Prop) =>
 If x14_8
 (Gt (binI .shr x0_12 (.int .u64 8)) fun x16_8 =>
 Gt (binI .add x2_11 (.int .i64 8)) fun x18_8 =>
 I3 x16_8 x18_8 H2)
 (I3 x0_12 x2_11 H2)) fun (I2 : Value → Value → Heap → Prop) =>
 If x8_2
 (Gt (binI .shr x0_9 (.int .u64 16)) fun x10_2 =>
 Gt (binI .add x2_8 (.int .i64 16)) fun x12_2 =>
 I2 x10_2 x12_2 H1)
 (I2 x0_9 x2_8 H1)) fun (I1 : Value → Value → Heap → Prop) =>
 If x4
 (Gt (binI .shr x0 (.int .u64 32)) fun x6 =>
 I1 x6 (.int .i64 32) H)
 (I1 x0 (.int .i64 0) H)
theorem l286 (h : i286 x0 H R X) : Runs Tryz.prog 286 [x0] H R X := runs_e tbOk mixed Tryz.func286 (A := [(13, [0, 2]), (29, [0, 2]), (61, [0, 2])]) (by kernel_rfl) h

-- (*cloister/store.Store).Newest
def i298 (x0 x1 : Value) (H : Heap) (R : Value → Heap → Prop) (X : List PanicEntry → Heap → Prop) : Prop :=
 Ca Tryz.prog 93 [x0, x1] H (fun x11 H1 =>
 Ca Tryz.prog 299 [x11] H1 (fun x12 H2 =>
 Gt (exV 0 x12) fun x13 =>
 Gt (exV 1 x12) fun x14 =>
 Nw (.cells z194.cells 194 (0, 0)) H2 fun b6 H3 =>
 Gt (stV 3 (.pointer (some ⟨b6, 0, none⟩)) x13 H3) fun H4 =>
 Gt (faV 0 (.pointer (some ⟨b6, 0, none⟩))) fun x15 =>
 Gt (rdv x15 H4) fun x16 =>
 R (.tuple #[x16, x14]) H4) X) X
theorem l298 (h : i298 x0 x1 H R X) : Runs Tryz.prog 298 [x0, x1] H R X := runs_e tbOk mixed Tryz.func298 (A := []) (by kernel_rfl) h

-- (*cloister/chain.Chain[[]byte]).Last
def i299 (x0 : Value) (H : Heap) (R : Value → Heap → Prop) (X : List PanicEntry → Heap → Prop) : Prop :=
 Nw (.cells z194.cells 194 (0, 0)) H fun b2 H1 =>
 Ca Tryz.prog 309 [x0] H1 (fun x5 H2 =>
 Gt (binI .eql x5 (.int .i64 0)) fun x6 =>
 If x6
 (Gt (bdV z194 [(0, 1), (1, 1), (2, 1)] []) fun x7 =>
 Gt (stV 3 (.pointer (some ⟨b2, 0, none⟩)) x7 H2) fun H3 =>
 Gt (rda 3 (.pointer (some ⟨b2, 0, none⟩)) H3) fun u1 =>
 R (.tuple #[u1, (.bool false)]) H3)
 (Gt (ncV tb x0) fun x9 =>
 Gt (faV 0 x9) fun x10 =>
 Gt (rdv x10 H2) fun x11 =>
 Gt (ncV tb x0) fun x13 =>
 Gt (faV 0 x13) fun x14 =>
 Gt (rdv x14 H2) fun x15 =>
 Gt (lnV x15) fun x16 =>
 Gt (binI .sub x16 (.int .i64 1)) fun x17 =>
 Gt (iaV 3 x11 x17) fun x18 =>
 Gt (rda 3 x18 H2) fun x19 =>
 Gt (stV 3 (.pointer (some ⟨b2, 0, none⟩)) x19 H2) fun H4 =>
 Gt (rda 3 (.pointer (some ⟨b2, 0, none⟩)) H4) fun u2 =>
 R (.tuple #[u2, (.bool true)]) H4)) X
theorem l299 (h : i299 x0 H R X) : Runs Tryz.prog 299 [x0] H R X := runs_e tbOk mixed Tryz.func299 (A := []) (by kernel_rfl) h

-- maps.Keys[map[string]cloister/wset.write,string,cloister/wset.write]$1
def i300 (x0 x1 : Value) (H : Heap) (R : Value → Heap → Prop) (X : List PanicEntry → Heap → Prop) : Prop :=
 Gt (rdv x1 H) fun x4 =>
 Gt (rgV x4 H) fun o5 =>
 Nw o5 H fun b5_1 H1 =>
 Lp fun (I1 : Heap → Prop) (M1 : Heap → Nat) => I1 H1 ∧ ∀ (H2 : Heap), I1 H2 →
 Nx (.pointer (some ⟨b5_1, 0, none⟩)) H2 (fun x6 H3 =>
 Gt (exV 0 x6) fun x7 =>
 If x7
 (Gt (enV (.pointer (some ⟨b5_1, 0, none⟩)) H3) fun x8 =>
 Gt (exV 0 x8) fun x9 =>
 Cv Tryz.prog tb x0 [x9] H3 (fun x12 H4 =>
 Gt (unV .not x12) fun x13 =>
 If x13
 (R (.tuple #[]) H4)
 (I1 H4 ∧ Nat.lt (M1 H4) (M1 H2))) X)
 (R (.tuple #[]) H3))
theorem l300 (h : i300 x0 x1 H R X) : Runs Tryz.prog 300 [x0, x1] H R X := runs_e tbOk mixed Tryz.func300 (A := [(6, [])]) (by kernel_rfl) h

-- (*cloister/chain.Chain[[]byte]).Len
def i309 (x0 : Value) (H : Heap) (R : Value → Heap → Prop) (X : List PanicEntry → Heap → Prop) : Prop :=
 Gt ((ptrEq 1 x0 (.pointer none) H).map Value.bool) fun x4 =>
 If x4
 (R (.int .i64 0) H)
 (Gt (ncV tb x0) fun x6 =>
 Gt (faV 0 x6) fun x7 =>
 Gt (rdv x7 H) fun x8 =>
 Gt (lnV x8) fun x9 =>
 R x9 H)
theorem l309 (h : i309 x0 H R X) : Runs Tryz.prog 309 [x0] H R X := runs_e tbOk mixed Tryz.func309 (A := []) (by kernel_rfl) h

end Go.Proofs.YtdoimhpmnmmffaaGreat

/- Contracts of the package codec: what is written. No condition but those in each statement. -/
namespace Go.Proofs.YtdoimhpmnmmffaaGreat
open Go IntWalk
variable {H : Heap} {R : Value → Heap → Prop} {X : List PanicEntry → Heap → Prop}

theorem c192 {x : Value} {bs : List UInt8} (hx : By H x bs) (hfit : bs.length ≤ 140737488355328) (hR : ∀ v H', Keep no H H' → (∀ b, ob v b → H.size ≤ b) → OB H' v bs → R v H') : Runs Tryz.prog 192 [x] H R X := l192 (ap_copy hx hfit hR)
theorem c95 {x : Value} {bs : List UInt8} (hx : By H x bs) (hfit : bs.length ≤ 140737488355328) (hR : ∀ v H', Keep no H H' → (∀ b, ob v b → H.size ≤ b) → OB H' v bs → R v H') : Runs Tryz.prog 95 [x] H R X := l95 (ap_copy hx hfit hR)
theorem c99 {x : Value} {bs : List UInt8} (hx : By H x bs) (hfit : bs.length ≤ 140737488355328) (hR : ∀ v H', Keep no H H' → (∀ b, ob v b → H.size ≤ b) → OB H' v bs → R v H') : Runs Tryz.prog 99 [x] H R X := l99 (ap_copy hx hfit hR)
theorem c155 {x : Value} {bs : List UInt8} (hx : By H x bs) (hfit : bs.length ≤ 140737488355328) (hR : ∀ v H', Keep no H H' → (∀ b, ob v b → H.size ≤ b) → OB H' v bs → R v H') : Runs Tryz.prog 155 [x] H R X := l155 (ap_copy hx hfit hR)
theorem c216 {x : Value} {bs : List UInt8} (hx : By H x bs) (hfit : bs.length ≤ 140737488355328) (hR : ∀ v H', Keep no H H' → (∀ b, ob v b → H.size ≤ b) → OB H' v bs → R v H') : Runs Tryz.prog 216 [x] H R X := l216 (ap_copy hx hfit hR)
theorem c263 {x : Value} {bs : List UInt8} (hx : By H x bs) (hfit : bs.length ≤ 140737488355328) (hR : ∀ v H', Keep no H H' → (∀ b, ob v b → H.size ≤ b) → OB H' v bs → R v H') : Runs Tryz.prog 263 [x] H R X := l263 (ap_copy hx hfit hR)

/-- a number in its short form -/
def shortL (u : Nat) : List UInt8 := if h : u < 128 then [UInt8.ofNat u] else UInt8.ofNat (u % 128 + 128) :: shortL (u / 128)
termination_by u
theorem shortL_lt {u : Nat} (h : u < 128) : shortL u = [UInt8.ofNat u] := by rw [shortL, dif_pos h]
theorem shortL_ge {u : Nat} (h : 128 ≤ u) : shortL u = UInt8.ofNat (u % 128 + 128) :: shortL (u / 128) := by rw [shortL, dif_neg (by omega)]
theorem shortL_len : ∀ (k u : Nat), u < 128 ^ (k + 1) → (shortL u).length ≤ k + 1
  | 0, u, h => by rw [shortL_lt (by simpa using h)]; simp
  | k + 1, u, h => by
    by_cases hu : u < 128
    · rw [shortL_lt hu]; simp
    · rw [shortL_ge (by omega)]
      have : u / 128 < 128 ^ (k + 1) := by
        rw [Nat.pow_succ] at h
        exact Nat.div_lt_of_lt_mul (by rw [Nat.mul_comm]; exact h)
      have := shortL_len k (u / 128) this
      simp; omega

theorem or128 : ∀ a : Fin 256, IntKind.u8.wrap ((BitVec.ofInt IntKind.u8.bits (a.val : Int) ||| BitVec.ofInt IntKind.u8.bits 128).toNat) = (a.val % 128 + 128 : Int) := by decide +kernel
theorem binI_or128 {a : Nat} (h : a < 256) : binI .or (.int .u8 a) (.int .u8 128) = some (.int .u8 (a % 128 + 128 : Nat)) := by
  simp only [binI, intV, bitV, if_true]
  have := or128 ⟨a, h⟩
  simp only at this
  rw [this]; simp
theorem xor0 (a : Int) (h0 : 0 ≤ a) (h1 : a < 18446744073709551616) : binI .xor (.int .u64 a) (.int .u64 0) = some (.int .u64 a) := by
  simp only [binI, intV, bitV, if_true]
  have : (BitVec.ofInt IntKind.u64.bits a ^^^ BitVec.ofInt IntKind.u64.bits 0).toNat = a.toNat := by
    show (BitVec.ofInt 64 a ^^^ BitVec.ofInt 64 0).toNat = a.toNat
    simp; omega
  rw [this, u64_in _ (by omega)]
  simp; omega
theorem u8_bv {n : Nat} (h : n < 256) : Value.int .u8 (n : Int) = bv (UInt8.ofNat n) := by
  simp [bv]; omega
theorem wrapu8 (u : Nat) : IntKind.u8.wrap (u : Int) = ((u % 256 : Nat) : Int) := by rw [IntKind.wrap_u8]; omega
theorem bsV_one {v : Value} {z : Value} (hz : z.cells.size = 1) (hv : v.cells = #[v]) : bsV 1 1 z [(0, v)] = some [v] := by
  simp [bsV, filL, putL, hv, hz]


theorem shl1 {n : Int} : binI .shl (.int .i64 n) (.int .u64 1) = some (.int .i64 (IntKind.i64.wrap (2 * n))) := by
  simp only [binI, intV]
  rw [if_neg (by decide)]
  have : min (Int.toNat 1) IntKind.i64.bits = 1 := by decide
  rw [this]
  congr 3; omega
theorem wrap_wrap {m : Int} (h0 : 0 ≤ m) (h1 : m < 18446744073709551616) : IntKind.u64.wrap (IntKind.i64.wrap m) = m := by
  rw [IntKind.wrap_i64]
  simp only [IntKind.wrap, IntKind.bits, IntKind.signed]
  simp; omega
theorem shr63 {n : Int} (h0 : 0 ≤ n) (h1 : n < 9223372036854775808) : binI .shr (.int .i64 n) (.int .u64 63) = some (.int .i64 0) := by
  simp only [binI, intV]
  rw [if_neg (by decide)]
  have : min (Int.toNat 63) IntKind.i64.bits = 63 := by decide
  rw [this, Int.fdiv_eq_ediv_of_nonneg _ (by decide)]
  congr 2; omega
theorem shr7 {u : Nat} (h1 : u < 18446744073709551616) : binI .shr (.int .u64 u) (.int .u64 7) = some (.int .u64 (u / 128 : Nat)) := by
  simp only [binI, intV]
  rw [if_neg (by decide)]
  have : min (Int.toNat 7) IntKind.u64.bits = 7 := by decide
  rw [this, Int.fdiv_eq_ediv_of_nonneg _ (by decide)]
  congr 2

theorem c194 {s : Value} {cs : List UInt8} {n : Int} (hs : OB H s cs) (h0 : 0 ≤ n) (h1 : n < 9223372036854775808) (hfit : cs.length ≤ 70368744177664)
    (hR : ∀ v H', Keep (ob s) H H' → (∀ b, ob v b → ob s b ∨ H.size ≤ b) → OB H' v (cs ++ shortL (2 * n).toNat) → R v H') : Runs Tryz.prog 194 [s, .int .i64 n] H R X := by
  have hlen : (shortL (2 * n).toNat).length ≤ 10 := shortL_len 9 _ (by omega)
  refine l194 ?_
  unfold i194
  simp only [shl1, shr63 h0 h1, Gt_some, cvV_int, wrap_wrap (show 0 ≤ 2 * n by omega) (by omega), u64_in 0 (by omega), xor0 (2 * n) (by omega) (by omega)]
  refine ⟨fun (x w : Value) (H1 : Heap) => ∃ (u : Nat) (done : List UInt8), w = .int .u64 u ∧ u < 18446744073709551616 ∧ done ++ shortL u = shortL (2 * n).toNat ∧ OB H1 x (cs ++ done) ∧ Keep (ob s) H H1 ∧ (∀ b, ob x b → ob s b ∨ H.size ≤ b),
    fun (_ w : Value) (_ : Heap) => match w with | .int _ u => u.toNat | _ => 0, ⟨(2 * n).toNat, [], by simp; omega, by omega, rfl, by simpa using hs, .refl H, fun b hb => .inl hb⟩, ?_⟩
  rintro H1 x w ⟨u, done, rfl, hu, hd, hx, hk, hf⟩
  have hdl : done.length + (shortL u).length ≤ 10 := by rw [← List.length_append, hd]; exact hlen
  simp only [binI_geq, Gt_some, If_iff, decide_eq_true_eq, decide_eq_false_iff_not]
  refine ⟨fun hge => ?_, fun hlt => ?_⟩
  · have hge : 128 ≤ u := by omega
    simp only [cvV_int, Gt_some, wrapu8, binI_or128 (Nat.mod_lt u (by decide : 0 < 256)), u8_bv (show u % 256 % 128 + 128 < 256 by omega), bsV_one (z := z5) rfl (v := bv _) rfl, Nw_iff]
    refine ap_byte rfl hx (by simp; omega) fun v H2 h2 h3 h4 => ?_
    simp only [shr7 hu, Gt_some]
    refine ⟨⟨u / 128, done ++ [UInt8.ofNat (u % 256 % 128 + 128)], rfl, by omega, ?_, by simpa using h4, ?_, ?_⟩, ?_⟩
    · rw [← hd, shortL_ge hge]
      have : u % 256 % 128 = u % 128 := by omega
      simp [this]
    · exact hk.trans' h2 fun b hb => hf b hb
    · intro b hb
      rcases h3 b hb with h | h
      · exact hf b h
      · exact .inr (Nat.le_trans hk.size h)
    · show (((u / 128 : Nat) : Int).toNat) < ((u : Int).toNat)
      omega
  · have hlt : u < 128 := by omega
    simp only [cvV_int, Gt_some, wrapu8, u8_bv (show u % 256 < 256 by omega), bsV_one (z := z5) rfl (v := bv _) rfl, Nw_iff]
    refine ap_byte rfl hx (by simp; omega) fun v H2 h2 h3 h4 => ?_
    refine hR v H2 (hk.trans' h2 fun b hb => hf b hb) (fun b hb => ?_) ?_
    · rcases h3 b hb with h | h
      · exact hf b h
      · exact .inr (Nat.le_trans hk.size h)
    · have : u % 256 = u := by omega
      rw [← hd, shortL_lt hlt]
      simpa [this] using h4

end Go.Proofs.YtdoimhpmnmmffaaGreat

/- Contracts of the packages codec and entry: what is written. No condition but those in each statement. -/
namespace Go.Proofs.YtdoimhpmnmmffaaGreat
open Go IntWalk
variable {H : Heap} {R : Value → Heap → Prop} {X : List PanicEntry → Heap → Prop}

theorem Keep.no {M : Nat → Prop} {H H' : Heap} (h : Keep no H H') : Keep M H H' := h.mono fun _ _ h => h.elim
/-- a number behind what is there -/
def intL (n : Int) : List UInt8 := shortL (2 * n).toNat
theorem intL_len {n : Int} (h0 : 0 ≤ n) (h1 : n < 9223372036854775808) : (intL n).length ≤ 10 := shortL_len 9 _ (by omega)
theorem c145 {s : Value} {cs : List UInt8} {n : Int} (hs : By H s cs) (h0 : 0 ≤ n) (h1 : n < 9223372036854775808) (hfit : cs.length ≤ 70368744177664)
    (hR : ∀ v H', Keep no H H' → (∀ b, ob v b → H.size ≤ b) → OB H' v (cs ++ intL n) → R v H') : Runs Tryz.prog 145 [s, .int .i64 n] H R X := by
  refine l145 ⟨c192 hs (by omega) fun v1 H1 k1 f1 o1 => ⟨c194 o1 h0 h1 hfit fun v2 H2 k2 f2 o2 => hR v2 H2 (k1.trans' k2 fun b hb => .inr (f1 b hb)) (fun b hb => ?_) o2⟩⟩
  rcases f2 b hb with h | h
  · exact f1 b h
  · exact Nat.le_trans k1.size h
theorem c144 {s : Value} {cs : List UInt8} {t : ByteArray} (hs : By H s cs) (ht : t.size ≤ 70368744177664) (hfit : cs.length ≤ 70368744177000)
    (hR : ∀ v H', Keep no H H' → (∀ b, ob v b → H.size ≤ b) → OB H' v (cs ++ intL t.size ++ t.data.toList) → R v H') : Runs Tryz.prog 144 [s, .string t] H R X := by
  have h1 : (t.size : Int) < 9223372036854775808 := by omega
  have hl : t.data.toList.length = t.size := Array.length_toList
  have hn := intL_len (n := t.size) (by omega) h1
  refine l144 ?_
  unfold i144
  simp only [lsV_str, Gt_some]
  refine ⟨c145 hs (by omega) h1 (by omega) fun v1 H1 k1 f1 o1 => ap_bytes o1 By.str (by rw [List.length_append]; omega) fun v2 H2 k2 f2 o2 => hR v2 H2 (k1.trans' k2 fun b hb => .inr (f1 b hb)) (fun b hb => ?_) o2⟩
  rcases f2 b hb with h | h
  · exact f1 b h
  · exact Nat.le_trans k1.size h
theorem c146 {s x : Value} {cs bs : List UInt8} (hs : By H s cs) (hx : By H x bs) (hb : ∃ a n c, x = .slice a n c) (ht : bs.length ≤ 70368744177664) (hfit : cs.length ≤ 70368744177000)
    (hR : ∀ v H', Keep no H H' → (∀ b, ob v b → H.size ≤ b) → OB H' v (cs ++ intL bs.length ++ bs) → R v H') : Runs Tryz.prog 146 [s, x] H R X := by
  have h1 : (bs.length : Int) < 9223372036854775808 := by omega
  have hn := intL_len (n := bs.length) (by omega) h1
  obtain ⟨a, n, c, rfl⟩ := hb
  have hnl : n = bs.length := by
    unfold By srcC at hx
    split at hx
    · rename_i h; cases h; simp only [Option.some.injEq, Prod.mk.injEq] at hx; exact hx.1
    · rename_i h; cases h; simp only [Option.map_eq_some_iff, Prod.mk.injEq] at hx; obtain ⟨_, _, h2, _⟩ := hx; exact h2
    · rename_i h; cases h
    · cases hx
  subst hnl
  refine l146 ?_
  unfold i146
  simp only [lnV_slice, Gt_some]
  refine ⟨c145 hs (by omega) h1 (by omega) fun v1 H1 k1 f1 o1 => ap_bytes o1 (hx.keep k1 fun _ _ h => h) (by rw [List.length_append]; omega) fun v2 H2 k2 f2 o2 => hR v2 H2 (k1.trans' k2 fun b hb => .inr (f1 b hb)) (fun b hb => ?_) o2⟩
  rcases f2 b hb with h | h
  · exact f1 b h
  · exact Nat.le_trans k1.size h

theorem not8 : unV .xor (.int .u8 0) = some (.int .u8 255) := by rfl
theorem not32 : unV .xor (.int .u32 0) = some (.int .u32 4294967295) := by rfl
theorem shr8 {u : Nat} : binI .shr (.int .u64 u) (.int .u64 8) = some (.int .u64 (u / 256 : Nat)) := by
  simp only [binI, intV]
  rw [if_neg (by decide)]
  have : min (Int.toNat 8) IntKind.u64.bits = 8 := by decide
  rw [this, Int.fdiv_eq_ediv_of_nonneg _ (by decide)]
  congr 2
/-- how many bytes a number takes -/
def wid (u : Nat) : Nat := if h : u = 0 then 0 else wid (u / 256) + 1
termination_by u
theorem wid_le : ∀ (k u : Nat), u < 256 ^ k → wid u ≤ k
  | 0, u, h => by rw [wid, dif_pos (by omega)]; exact Nat.le_refl _
  | k + 1, u, h => by
    rw [wid]; split
    · omega
    · have := wid_le k (u / 256) (Nat.div_lt_of_lt_mul (by rw [Nat.pow_succ, Nat.mul_comm] at h; exact h))
      omega
theorem c193 (hR : R (.int .i64 1) H) : Runs Tryz.prog 193 [] H R X := by
  refine l193 ?_
  unfold i193
  simp only [cvV_int, Gt_some, u8_in 0 (by omega), not8, u64_in 255 (by omega)]
  refine ⟨fun (x w : Value) (H1 : Heap) => ∃ n u : Nat, x = .int .i64 n ∧ w = .int .u64 u ∧ u < 256 ∧ n + wid u = 1 ∧ H1 = H, fun (_ w : Value) (_ : Heap) => match w with | .int _ u => u.toNat | _ => 0, ⟨0, 255, rfl, rfl, by omega, by simp [wid], rfl⟩, ?_⟩
  rintro H1 x w ⟨n, u, rfl, rfl, hu, hw, rfl⟩
  simp only [binI_gtr, Gt_some, If_iff, decide_eq_true_eq, decide_eq_false_iff_not]
  refine ⟨fun h => ?_, fun h => ?_⟩
  · rw [wid, dif_neg (by omega)] at hw
    simp only [binI_add, shr8, Gt_some, i64_in _ (show (-9223372036854775808 : Int) ≤ (n : Int) + 1 ∧ (n : Int) + 1 ≤ 9223372036854775807 by omega)]
    refine ⟨⟨n + 1, u / 256, rfl, rfl, by omega, by omega, by trivial⟩, ?_⟩
    show (((u / 256 : Nat) : Int).toNat) < ((u : Int).toNat)
    omega
  · have : u = 0 := by omega
    subst this
    rw [wid, dif_pos rfl] at hw
    have : n = 1 := by omega
    subst this; exact hR
theorem c195 (hR : R (.int .i64 4) H) : Runs Tryz.prog 195 [] H R X := by
  refine l195 ?_
  unfold i195
  simp only [cvV_int, Gt_some, u32_in 0 (by omega), not32, u64_in 4294967295 (by omega)]
  refine ⟨fun (x w : Value) (H1 : Heap) => ∃ n u : Nat, x = .int .i64 n ∧ w = .int .u64 u ∧ u < 4294967296 ∧ n + wid u = 4 ∧ H1 = H, fun (_ w : Value) (_ : Heap) => match w with | .int _ u => u.toNat | _ => 0, ⟨0, 4294967295, rfl, rfl, by omega, by simp [wid], rfl⟩, ?_⟩
  rintro H1 x w ⟨n, u, rfl, rfl, hu, hw, rfl⟩
  simp only [binI_gtr, Gt_some, If_iff, decide_eq_true_eq, decide_eq_false_iff_not]
  refine ⟨fun h => ?_, fun h => ?_⟩
  · rw [wid, dif_neg (by omega)] at hw
    simp only [binI_add, shr8, Gt_some, i64_in _ (show (-9223372036854775808 : Int) ≤ (n : Int) + 1 ∧ (n : Int) + 1 ≤ 9223372036854775807 by omega)]
    refine ⟨⟨n + 1, u / 256, rfl, rfl, by omega, by omega, by trivial⟩, ?_⟩
    show (((u / 256 : Nat) : Int).toNat) < ((u : Int).toNat)
    omega
  · have : u = 0 := by omega
    subst this
    rw [wid, dif_pos rfl] at hw
    have : n = 4 := by omega
    subst this; exact hR
end Go.Proofs.YtdoimhpmnmmffaaGreat

/- Contracts of the package codec: numbers of a fixed width. No condition but those in each statement. -/
namespace Go.Proofs.YtdoimhpmnmmffaaGreat
open Go IntWalk
variable {H : Heap} {R : Value → Heap → Prop} {X : List PanicEntry → Heap → Prop}

/-- the lower k bytes of a number, highest first -/
def beL : Nat → Nat → List UInt8
  | 0, _ => []
  | k + 1, u => UInt8.ofNat (u / 256 ^ k % 256) :: beL k u
@[simp] theorem beL_len : ∀ (k u : Nat), (beL k u).length = k
  | 0, _ => rfl
  | k + 1, u => by simp [beL, beL_len k u]
theorem shr8i {u i : Nat} (h : i < 8) : binI .shr (.int .u64 u) (.int .i64 (8 * i : Nat)) = some (.int .u64 (u / 256 ^ i : Nat)) := by
  simp only [binI, intV]
  rw [if_neg (by omega)]
  have : min (Int.toNat ((8 * i : Nat) : Int)) IntKind.u64.bits = 8 * i := by
    have : IntKind.u64.bits = 64 := rfl
    omega
  rw [this, Int.fdiv_eq_ediv_of_nonneg _ (by exact Int.le_of_lt (Int.pow_pos (by decide)))]
  have e : (2 : Int) ^ (8 * i) = ((256 ^ i : Nat) : Int) := by
    have : (256 : Nat) ^ i = 2 ^ (8 * i) := by rw [Nat.pow_mul]
    rw [this]; simp
  rw [e, Int.natCast_ediv]

theorem put_loop {kd : IntKind} {u w : Nat} (hu : u < 18446744073709551616) (hw : w ≤ 8) {s : Value} {cs : List UInt8} (hs : OB H s cs) (hfit : cs.length ≤ 70368744177664)
    (hR : ∀ v H', Keep (ob s) H H' → (∀ b, ob v b → ob s b ∨ H.size ≤ b) → OB H' v (cs ++ beL w u) → R v H') :
    Lp fun (I1 : Value → Value → Heap → Prop) (M1 : Value → Value → Heap → Nat) => I1 s (.int .i64 ((w : Int) - 1)) H ∧ ∀ (H3 : Heap) (x0_1 : Value) (x5 : Value), I1 x0_1 x5 H3 →
     Gt (binI .geq x5 (.int .i64 0)) fun x11 =>
     If x11
     (Gt (cvV .u64 (.int kd u)) fun x16 =>
     Gt (binI .mul (.int .i64 8) x5) fun x18 =>
     Gt (binI .shr x16 x18) fun x19 =>
     Gt (cvV .u8 x19) fun x20 =>
     Gt (bsV 1 1 z5 [(0, x20)]) fun c21 =>
     Nw (.cells c21.toArray 5 (0, 0)) H3 fun b21_1 H4 =>
     Ap 5 1 1 z5 x0_1 (.slice (some ⟨b21_1, 0, none⟩) 1 1) H4 (fun x22 H5 =>
     Gt (binI .sub x5 (.int .i64 1)) fun x13 =>
     I1 x22 x13 H5 ∧ Nat.lt (M1 x22 x13 H5) (M1 x0_1 x5 H3)))
     (R x0_1 H3) := by
  refine ⟨fun (x y : Value) (H1 : Heap) => ∃ (k : Nat) (done : List UInt8), y = .int .i64 ((k : Int) - 1) ∧ k ≤ 8 ∧ done ++ beL k u = beL w u ∧ OB H1 x (cs ++ done) ∧ Keep (ob s) H H1 ∧ (∀ b, ob x b → ob s b ∨ H.size ≤ b),
    fun (_ y : Value) (_ : Heap) => match y with | .int _ n => (n + 1).toNat | _ => 0, ⟨w, [], rfl, hw, rfl, by simpa using hs, .refl H, fun b hb => .inl hb⟩, ?_⟩
  rintro H1 x y ⟨k, done, rfl, hk8, hd, hx, hk, hf⟩
  have hdl : done.length + k = w := by have := congrArg List.length hd; simpa using this
  simp only [binI_geq, Gt_some, If_iff, decide_eq_true_eq, decide_eq_false_iff_not]
  refine ⟨fun hge => ?_, fun hlt => ?_⟩
  · obtain ⟨j, rfl⟩ : ∃ j, k = j + 1 := ⟨k - 1, by omega⟩
    have e1 : IntKind.i64.wrap (8 * (((j + 1 : Nat) : Int) - 1)) = ((8 * j : Nat) : Int) := by rw [i64_in _ (by omega)]; omega
    simp only [cvV_int, Gt_some, u64_in _ (show 0 ≤ (u : Int) ∧ (u : Int) ≤ 18446744073709551615 by omega), binI_mul, e1, shr8i (show j < 8 by omega), wrapu8, u8_bv (show u / 256 ^ j % 256 < 256 by omega), bsV_one (z := z5) rfl (v := bv _) rfl, Nw_iff]
    refine ap_byte rfl hx (by simp; omega) fun v H2 h2 h3 h4 => ?_
    simp only [binI_sub, Gt_some, i64_in _ (show (-9223372036854775808 : Int) ≤ ((j + 1 : Nat) : Int) - 1 - 1 ∧ ((j + 1 : Nat) : Int) - 1 - 1 ≤ 9223372036854775807 by omega)]
    refine ⟨⟨j, done ++ [UInt8.ofNat (u / 256 ^ j % 256)], by congr 1; omega, by omega, ?_, by simpa using h4, ?_, ?_⟩, ?_⟩
    · rw [← hd]; simp [beL]
    · exact hk.trans' h2 fun b hb => hf b hb
    · intro b hb
      rcases h3 b hb with h | h
      · exact hf b h
      · exact .inr (Nat.le_trans hk.size h)
    · show (((j + 1 : Nat) : Int) - 1 - 1 + 1).toNat < (((j + 1 : Nat) : Int) - 1 + 1).toNat
      omega
  · have : k = 0 := by omega
    subst this
    simp only [beL, List.append_nil] at hd
    subst hd
    exact hR x H1 hk hf hx

theorem c142 {s : Value} {cs : List UInt8} {u : Nat} {kd : IntKind} (hs : By H s cs) (hu : u < 18446744073709551616) (hfit : cs.length ≤ 70368744177664)
    (hR : ∀ v H', Keep no H H' → (∀ b, ob v b → H.size ≤ b) → OB H' v (cs ++ beL 1 u) → R v H') : Runs Tryz.prog 142 [s, .int kd u] H R X := by
  refine l142 ⟨c192 hs (by omega) fun v1 H1 k1 f1 o1 => ⟨c193 ?_⟩⟩
  simp only [binI_sub, Gt_some, i64_in (1 - 1) (by omega)]
  refine put_loop (w := 1) hu (by omega) o1 hfit fun v2 H2 k2 f2 o2 => hR v2 H2 (k1.trans' k2 fun b hb => .inr (f1 b hb)) (fun b hb => ?_) o2
  rcases f2 b hb with h | h
  · exact f1 b h
  · exact Nat.le_trans k1.size h
theorem c147 {s : Value} {cs : List UInt8} {u : Nat} {kd : IntKind} (hs : By H s cs) (hu : u < 18446744073709551616) (hfit : cs.length ≤ 70368744177664)
    (hR : ∀ v H', Keep no H H' → (∀ b, ob v b → H.size ≤ b) → OB H' v (cs ++ beL 4 u) → R v H') : Runs Tryz.prog 147 [s, .int kd u] H R X := by
  refine l147 ⟨c192 hs (by omega) fun v1 H1 k1 f1 o1 => ⟨c195 ?_⟩⟩
  simp only [binI_sub, Gt_some, i64_in (4 - 1) (by omega)]
  refine put_loop (w := 4) hu (by omega) o1 hfit fun v2 H2 k2 f2 o2 => hR v2 H2 (k1.trans' k2 fun b hb => .inr (f1 b hb)) (fun b hb => ?_) o2
  rcases f2 b hb with h | h
  · exact f1 b h
  · exact Nat.le_trans k1.size h
end Go.Proofs.YtdoimhpmnmmffaaGreat

/- Bit operations, and contracts of the package sum. No condition but those in each statement. -/
namespace Go.Proofs.YtdoimhpmnmmffaaGreat
open Go IntWalk
variable {H : Heap} {R : Value → Heap → Prop} {X : List PanicEntry → Heap → Prop}

theorem bit_xor {k : IntKind} {a b : Nat} (ha : a < 2 ^ k.bits) (hb : b < 2 ^ k.bits) : binI .xor (.int k a) (.int k b) = some (.int k (k.wrap ((a ^^^ b : Nat) : Int))) := by
  simp [binI, intV, bitV, BitVec.ofInt_natCast, BitVec.toNat_xor, BitVec.toNat_ofNat, Nat.mod_eq_of_lt ha, Nat.mod_eq_of_lt hb]
theorem bit_and {k : IntKind} {a b : Nat} (ha : a < 2 ^ k.bits) (hb : b < 2 ^ k.bits) : binI .and (.int k a) (.int k b) = some (.int k (k.wrap ((a &&& b : Nat) : Int))) := by
  simp [binI, intV, bitV, BitVec.ofInt_natCast, BitVec.toNat_and, BitVec.toNat_ofNat, Nat.mod_eq_of_lt ha, Nat.mod_eq_of_lt hb]
theorem lt32 {a : Nat} : a < 2 ^ IntKind.u32.bits ↔ a < 4294967296 := Iff.rfl
theorem xor32 {a b : Nat} (ha : a < 4294967296) (hb : b < 4294967296) : binI .xor (.int .u32 a) (.int .u32 b) = some (.int .u32 (a ^^^ b : Nat)) := by
  rw [bit_xor (lt32.2 ha) (lt32.2 hb), u32_in]
  have := Nat.xor_lt_two_pow (n := 32) ha hb
  omega
theorem and32 {a b : Nat} (ha : a < 4294967296) (hb : b < 4294967296) : binI .and (.int .u32 a) (.int .u32 b) = some (.int .u32 (a &&& b : Nat)) := by
  rw [bit_and (lt32.2 ha) (lt32.2 hb), u32_in]
  have := Nat.and_lt_two_pow (n := 32) a hb
  omega
theorem not32' {a : Nat} (ha : a < 4294967296) : unV .xor (.int .u32 a) = some (.int .u32 (4294967295 ^^^ a : Nat)) := by
  have : unV .xor (.int .u32 a) = bitV .xor .u32 ((4294967295 : Nat) : Int) a := rfl
  have h2 := xor32 (a := 4294967295) (b := a) (by decide) ha
  simp only [binI, intV, if_true] at h2
  rw [this]; exact h2
theorem shr32 {u s : Nat} (hs : s ≤ 32) : binI .shr (.int .u32 u) (.int .u64 s) = some (.int .u32 (u / 2 ^ s : Nat)) := by
  simp only [binI, intV]
  rw [if_neg (by omega)]
  have : min (Int.toNat (s : Int)) IntKind.u32.bits = s := by
    have : IntKind.u32.bits = 32 := rfl
    omega
  rw [this, Int.fdiv_eq_ediv_of_nonneg _ (by exact Int.le_of_lt (Int.pow_pos (by decide)))]
  have e : (2 : Int) ^ s = ((2 ^ s : Nat) : Int) := by simp
  rw [e, Int.natCast_ediv]

def sumStep (r : Nat) : Nat := if r &&& 1 = 1 then (r / 2) ^^^ 3988292384 else r / 2
def sumIt : Nat → Nat → Nat
  | 0, r => r
  | n + 1, r => sumIt n (sumStep r)
theorem sumStep_lt {r : Nat} (h : r < 4294967296) : sumStep r < 4294967296 := by
  unfold sumStep; split
  · exact Nat.xor_lt_two_pow (n := 32) (by omega) (by decide)
  · omega
theorem sumIt_lt : ∀ (n r : Nat), r < 4294967296 → sumIt n r < 4294967296
  | 0, _, h => h
  | n + 1, _, h => sumIt_lt n _ (sumStep_lt h)
def uv (n : Nat) : Value := .int .u32 n
def sumTab : List Nat := (List.range 16).map (sumIt 4)
def tabV : Value := .agg (sumTab.map uv).toArray

theorem c231 (hR : ∀ H', Keep no H H' → R tabV H') : Runs Tryz.prog 231 [] H R X := by
  refine l231 ?_
  unfold i231
  have hz : z337.cells = (List.replicate 16 (uv 0)).toArray := by rfl
  simp only [Nw_iff, hz]
  refine ⟨fun (x : Value) (H1 : Heap) => ∃ (n : Nat) (xs : List Nat), n ≤ 16 ∧ x = .int .i64 n ∧ xs.length = 16 ∧ xs.take n = sumTab.take n ∧ Keep no H H1 ∧ (∃ cs : Array Value, cs.size = 16 ∧ H1[H.size]? = some (.cells cs 337 (0, 0))) ∧ H1[H.size + 1]? = some (.cells (xs.map uv).toArray 337 (0, 0)),
    fun (x : Value) (_ : Heap) => match x with | .int _ n => (16 - n).toNat | _ => 0, ⟨0, List.replicate 16 0, by omega, rfl, by simp, rfl, Keep.push.trans Keep.push, ⟨(List.replicate 16 (uv 0)).toArray, by simp, by rw [get_push_lt (by simp)]; exact get_push_eq⟩, ?_⟩, ?_⟩
  · have : H.size + 1 = (H.push (.cells (List.replicate 16 (uv 0)).toArray 337 (0, 0))).size := by simp
    rw [this]; exact get_push_eq
  rintro H1 x ⟨n, xs, hn, rfl, hl, ht, hk, ⟨cs, hcs, hb0⟩, hb1⟩
  simp only [binI_lss, Gt_some, If_iff, decide_eq_true_eq, decide_eq_false_iff_not]
  refine ⟨fun hlt => ?_, fun hge => ?_⟩
  · have hlt : n < 16 := by omega
    simp only [cvV_int, Gt_some, u32_in _ (show 0 ≤ (n : Int) ∧ (n : Int) ≤ 4294967295 by omega)]
    refine ⟨fun (x y : Value) (H2 : Heap) => ∃ (r j : Nat), x = uv r ∧ r < 4294967296 ∧ y = .int .i64 j ∧ j ≤ 4 ∧ sumIt (4 - j) r = sumIt 4 n ∧ H2 = H1, fun (_ y : Value) (_ : Heap) => match y with | .int _ n => (4 - n).toNat | _ => 0, ⟨n, 0, rfl, by omega, rfl, by omega, rfl, rfl⟩, ?_⟩
    rintro H2 x y ⟨r, j, rfl, hr, rfl, hj, hs, rfl⟩
    simp only [binI_lss, Gt_some, If_iff, decide_eq_true_eq, decide_eq_false_iff_not]
    refine ⟨fun hj4 => ?_, fun hj4 => ?_⟩
    · have hj4 : j < 4 := by omega
      obtain ⟨m, hm⟩ : ∃ m, 4 - j = m + 1 := ⟨3 - j, by omega⟩
      have hm' : 4 - (j + 1) = m := by omega
      rw [hm] at hs
      have e1 : binI .and (.int .u32 r) (.int .u32 1) = some (.int .u32 (r &&& 1 : Nat)) := and32 hr (by decide)
      have e2 : binI .shr (.int .u32 r) (.int .u64 1) = some (.int .u32 (r / 2 : Nat)) := shr32 (u := r) (s := 1) (by decide)
      have e3 : binI .xor (.int .u32 (r / 2 : Nat)) (.int .u32 3988292384) = some (.int .u32 ((r / 2) ^^^ 3988292384 : Nat)) := xor32 (by omega) (by decide)
      have e4 : IntKind.i64.wrap ((j : Int) + 1) = ((j + 1 : Nat) : Int) := by rw [i64_in _ (by omega)]; rfl
      have e5 : binI .eql (.int .u32 ((r &&& 1 : Nat) : Int)) (.int .u32 1) = some (.bool (decide (r &&& 1 = 1))) := by
        rw [binI_eql]; congr 2
        rw [Bool.eq_iff_iff]; simp; omega
      have hms : (4 - ((j + 1 : Nat) : Int)).toNat < (4 - (j : Int)).toNat := by omega
      simp only [uv, e1, e2, e3, e5, binI_add, e4, Gt_some, If_iff, decide_eq_true_eq, decide_eq_false_iff_not]
      refine ⟨fun h1 => ⟨⟨_, j + 1, rfl, ?_, rfl, by omega, ?_, by trivial⟩, hms⟩, fun h1 => ⟨⟨_, j + 1, rfl, by omega, rfl, by omega, ?_, by trivial⟩, hms⟩⟩
      · exact Nat.xor_lt_two_pow (n := 32) (by omega) (by decide)
      · rw [← hs, hm']; simp only [sumIt, sumStep, h1, if_true]
      · rw [← hs, hm']; simp only [sumIt, sumStep, h1, if_false]
    · have : j = 4 := by omega
      subst this
      simp only [Nat.sub_self, sumIt] at hs
      have e1 : aaV 16 1 (.pointer (some ⟨H.size + 1, 0, none⟩)) (.int .i64 n) = some (.pointer (some ⟨H.size + 1, n, none⟩)) := by
        simp only [aaV]; rw [if_pos (by omega)]; simp
      have e2 : stV 1 (.pointer (some ⟨H.size + 1, n, none⟩)) (uv r) H2 = some (H2.setIfInBounds (H.size + 1) (.cells ((xs.set n r).map uv).toArray 337 (0, 0))) := by
        rw [stV1 hb1 (by simp [hl]; omega) rfl rfl]
        simp [List.map_set]
      have e4 : IntKind.i64.wrap ((n : Int) + 1) = ((n + 1 : Nat) : Int) := by rw [i64_in _ (by omega)]; rfl
      have hsz : H.size + 1 < H2.size := lt_of_get hb1
      simp only [List.size_toArray, Array.size_push, e1, Gt_some, e2, binI_add, e4]
      refine ⟨⟨n + 1, xs.set n r, by omega, rfl, by simpa using hl, ?_, ?_, ⟨cs, hcs, ?_⟩, get_set_eq hsz⟩, ?_⟩
      · rw [List.take_add_one, List.take_add_one, List.take_set_of_le (Nat.le_refl _), ht]
        congr 1
        have h1 : n < xs.length := by omega
        simp [h1, sumTab, hs, List.getElem?_range hlt, sumIt]
      · exact ⟨by simp; have := hk.size; omega, fun b hb hm => (get_set_ne (by omega)).trans (hk.get b hb hm)⟩
      · rw [get_set_ne (by omega)]; exact hb0
      · show (16 - ((n + 1 : Nat) : Int)).toNat < (16 - (n : Int)).toNat
        omega
  · have : n = 16 := by omega
    subst this
    have hxs : xs = sumTab := by
      have h1 : xs.take 16 = xs := List.take_of_length_le (by omega)
      have h2 : sumTab.take 16 = sumTab := List.take_of_length_le (by simp [sumTab])
      rw [← h1, ht, h2]
    subst hxs
    have hsz : H.size < H1.size := lt_of_get hb0
    have ht16 : (sumTab.map uv).take 16 = sumTab.map uv := List.take_of_length_le (by simp [sumTab])
    have e1 : rdn H1 (H.size + 1) 0 16 = some (sumTab.map uv) := by
      rw [rdn_at hb1 16 0 (by simp [sumTab])]
      simpa using ht16
    have e2 : stV 16 (.pointer (some ⟨H.size, 0, none⟩)) tabV H1 = some (H1.setIfInBounds H.size (.cells (sumTab.map uv).toArray 337 (0, 0))) := by
      rw [stV_of hb0 (by simp [tabV, Value.cells, sumTab]) (by decide) (by omega) (by rfl)]
      congr 3
      have : cs.toList.drop 16 = [] := List.drop_of_length_le (by simp [hcs])
      simp [putL, tabV, Value.cells, hl, this]
    have e3 : rdn (H1.setIfInBounds H.size (.cells (sumTab.map uv).toArray 337 (0, 0))) H.size 0 16 = some (sumTab.map uv) := by
      rw [rdn_at (get_set_eq hsz) 16 0 (by simp [sumTab])]
      simpa using ht16
    have e4 : Value.agg (sumTab.map uv).toArray = tabV := rfl
    simp only [List.size_toArray, Array.size_push, rda_ptr, e1, Option.map_some, e4, Gt_some, e2, e3]
    exact hR _ ⟨by simp; exact hk.size, fun b hb hm => (get_set_ne (by omega)).trans (hk.get b hb hm)⟩
end Go.Proofs.YtdoimhpmnmmffaaGreat

/- Contracts of the packages sum and frame: what is written. No condition but those in each statement. -/
namespace Go.Proofs.YtdoimhpmnmmffaaGreat
open Go IntWalk
variable {H : Heap} {R : Value → Heap → Prop} {X : List PanicEntry → Heap → Prop}

def sumHalf (r : Nat) : Nat := (r / 16) ^^^ sumTab.getD (r &&& 15) 0
def sumByte (r : Nat) (x : UInt8) : Nat := sumHalf (sumHalf (r ^^^ x.toNat))
def sumR (r : Nat) (bs : List UInt8) : Nat := bs.foldl sumByte r
def sumOf (bs : List UInt8) : Nat := 4294967295 ^^^ sumR 4294967295 bs
theorem sumTab_lt : ∀ x ∈ sumTab, x < 4294967296 := by
  intro x hx
  simp only [sumTab, List.mem_map, List.mem_range] at hx
  obtain ⟨n, hn, rfl⟩ := hx
  exact sumIt_lt _ _ (by omega)
theorem sumHalf_lt {r : Nat} (h : r < 4294967296) : sumHalf r < 4294967296 := by
  unfold sumHalf
  refine Nat.xor_lt_two_pow (n := 32) (by omega) ?_
  rw [List.getD_eq_getElem?_getD]
  cases hx : sumTab[r &&& 15]? with
  | none => decide
  | some x => exact sumTab_lt x (List.mem_of_getElem? hx)
theorem xor_lt {a b : Nat} (ha : a < 4294967296) (hb : b < 4294967296) : a ^^^ b < 4294967296 := Nat.xor_lt_two_pow (n := 32) ha hb
theorem u8_lt (x : UInt8) : x.toNat < 4294967296 := by have := x.toNat_lt; omega
theorem sumR_lt : ∀ (bs : List UInt8) (r : Nat), r < 4294967296 → sumR r bs < 4294967296
  | [], _, h => h
  | x :: bs, r, h => sumR_lt bs _ (sumHalf_lt (sumHalf_lt (xor_lt h (u8_lt x))))
theorem sumOf_lt (bs : List UInt8) : sumOf bs < 4294967296 := xor_lt (by decide) (sumR_lt bs _ (by decide))

theorem half_step {H : Heap} {b r : Nat} (hb : H[b]? = some (.cells (sumTab.map uv).toArray 337 (0, 0))) (hr : r < 4294967296) {K : Value → Prop} (hK : K (uv (sumHalf r))) :
    Gt (binI .shr (uv r) (.int .u64 4)) fun x23 =>
    Gt (binI .and (uv r) (.int .u32 15)) fun x25 =>
    Gt (aaV 16 1 (.pointer (some ⟨b, 0, none⟩)) x25) fun x26 =>
    Gt (rdv x26 H) fun x27 =>
    Gt (binI .xor x23 x27) fun x28 => K x28 := by
  have e1 : binI .shr (uv r) (.int .u64 4) = some (uv (r / 16)) := shr32 (u := r) (s := 4) (by decide)
  have e2 : binI .and (uv r) (.int .u32 15) = some (uv (r &&& 15)) := and32 hr (by decide)
  have hlt : r &&& 15 < 16 := Nat.and_lt_two_pow (n := 4) r (by decide)
  have e3 : aaV 16 1 (.pointer (some ⟨b, 0, none⟩)) (uv (r &&& 15)) = some (.pointer (some ⟨b, r &&& 15, none⟩)) := by
    simp only [aaV, uv]; rw [if_pos (by omega)]; simp
  have hl : sumTab.length = 16 := by simp [sumTab]
  have e4 : rdv (.pointer (some ⟨b, r &&& 15, none⟩)) H = some (uv (sumTab.getD (r &&& 15) 0)) := by
    rw [rdv_ptr, rdc_of hb]
    simp [hl, hlt]
  have h5 : sumTab.getD (r &&& 15) 0 < 4294967296 := by
    rw [List.getD_eq_getElem?_getD]
    cases hx : sumTab[r &&& 15]? with
    | none => decide
    | some x => exact sumTab_lt x (List.mem_of_getElem? hx)
  have e5 : binI .xor (uv (r / 16)) (uv (sumTab.getD (r &&& 15) 0)) = some (uv (sumHalf r)) := xor32 (by omega) h5
  simp only [e1, e2, e3, e4, e5, Gt_some]
  exact hK

theorem c196 {x : Value} {bs : List UInt8} {s : Nat} (hs : s < 4294967296) (hx : Bs H x bs) (hb : bs.length ≤ 140737488355328) (hR : ∀ H', Keep no H H' → R (uv (4294967295 ^^^ sumR (4294967295 ^^^ s) bs)) H') : Runs Tryz.prog 196 [uv s, x] H R X := by
  refine l196 ⟨c231 fun H1 k1 => ?_⟩
  have hz : z337.cells = (List.replicate 16 (uv 0)).toArray := by rfl
  have hl16 : sumTab.length = 16 := by simp [sumTab]
  have e2 : stV 16 (.pointer (some ⟨H1.size, 0, none⟩)) tabV (H1.push (.cells (List.replicate 16 (uv 0)).toArray 337 (0, 0))) = some ((H1.push (.cells (List.replicate 16 (uv 0)).toArray 337 (0, 0))).setIfInBounds H1.size (.cells (sumTab.map uv).toArray 337 (0, 0))) := by
    rw [stV_of get_push_eq (by simp [tabV, Value.cells, sumTab]) (by decide) (by simp) (by rfl)]
    congr 3
  have e3 : unV .xor (uv s) = some (uv (4294967295 ^^^ s)) := not32' hs
  simp only [Nw_iff, hz, e2, Gt_some, e3, hx.len]
  generalize hH : (H1.push (.cells (List.replicate 16 (uv 0)).toArray 337 (0, 0))).setIfInBounds H1.size (.cells (sumTab.map uv).toArray 337 (0, 0)) = H2
  have hb2 : H2[H1.size]? = some (.cells (sumTab.map uv).toArray 337 (0, 0)) := by rw [← hH]; exact get_set_eq (by simp)
  have k2 : Keep no H1 H2 := by
    rw [← hH]
    exact ⟨by simp, fun b hb _ => (get_set_ne (by omega)).trans (get_push_lt hb)⟩
  have k := k1.trans k2
  have hx2 := hx.keep k fun _ _ h => h
  refine ⟨fun (x y : Value) (H' : Heap) => ∃ (r i : Nat), x = uv r ∧ r < 4294967296 ∧ y = .int .i64 i ∧ i ≤ bs.length ∧ sumR r (bs.drop i) = sumR (4294967295 ^^^ s) bs ∧ H' = H2,
    fun (_ y : Value) (_ : Heap) => match y with | .int _ n => (bs.length - n).toNat | _ => 0, ⟨_, 0, rfl, xor_lt (by decide) hs, rfl, by omega, by simp, rfl⟩, ?_⟩
  rintro H' x y ⟨r, i, rfl, hr, rfl, hi, hsum, rfl⟩
  simp only [binI_lss, Gt_some, If_iff, decide_eq_true_eq, decide_eq_false_iff_not]
  refine ⟨fun hlt => ?_, fun hge => ?_⟩
  · have hlt : i < bs.length := by omega
    obtain ⟨p, hp1, hp2⟩ := hx2.at hlt
    have e4 : cvV .u32 (bv bs[i]) = some (uv bs[i].toNat) := by
      simp only [bv, cvV_int]
      rw [u32_in _ (by have := u8_lt bs[i]; omega)]; rfl
    have e5 : binI .xor (uv r) (uv bs[i].toNat) = some (uv (r ^^^ bs[i].toNat)) := xor32 hr (u8_lt _)
    have hr1 := xor_lt hr (u8_lt bs[i])
    have e6 : IntKind.i64.wrap ((i : Int) + 1) = ((i + 1 : Nat) : Int) := by rw [i64_in _ (by omega)]; rfl
    simp only [hp1, hp2, e4, e5, Gt_some]
    refine half_step hb2 hr1 (half_step hb2 (sumHalf_lt hr1) ?_)
    simp only [binI_add, e6, Gt_some]
    refine ⟨⟨_, i + 1, rfl, sumHalf_lt (sumHalf_lt hr1), rfl, by omega, ?_, by trivial⟩, ?_⟩
    · rw [← hsum, List.drop_eq_getElem_cons hlt]; rfl
    · show ((bs.length : Int) - ((i + 1 : Nat) : Int)).toNat < ((bs.length : Int) - (i : Int)).toNat
      omega
  · have : i = bs.length := by omega
    subst this
    have e7 : unV .xor (uv r) = some (uv (4294967295 ^^^ r)) := not32' hr
    simp only [e7, Gt_some]
    simp only [List.drop_length, sumR, List.foldl_nil] at hsum
    rw [hsum]
    exact hR _ k
theorem c148 {x : Value} {bs : List UInt8} (hx : Bs H x bs) (hb : bs.length ≤ 140737488355328) (hR : ∀ H', Keep no H H' → R (uv (sumOf bs)) H') : Runs Tryz.prog 148 [x] H R X :=
  l148 ⟨c196 (s := 0) (by decide) hx hb hR⟩

/-- a frame -/
def frameL (p : List UInt8) : List UInt8 := let b := [197] ++ beL 4 p.length ++ p; b ++ beL 4 (sumOf b)
theorem c87 {x : Value} {p : List UInt8} (hx : Bs H x p) (hb : p.length ≤ 65536) (hR : ∀ v H', Keep no H H' → (∀ b, ob v b → H.size ≤ b) → OB H' v (frameL p) → R (.tuple #[v, .int .i64 0]) H') : Runs Tryz.prog 87 [x] H R X := by
  refine l87 ?_
  unfold i87
  have e0 : decide ((p.length : Int) > 65536) = false := by simp; omega
  have e1 : bsV 1 1 z5 [(0, .int .u8 197)] = some [bv 197] := bsV_one rfl rfl
  have e2 : IntKind.u32.wrap (p.length : Int) = (p.length : Int) := u32_in _ (by omega)
  simp only [hx.len, Gt_some, binI_gtr, e0, If_false, e1, Nw_iff, cvV_int, e2]
  have hone : OB (H.push (.cells #[bv 197] 5 (0, 0))) (.slice (some ⟨H.size, 0, none⟩) 1 1) [197] :=
    .blk _ _ _ _ _ get_push_eq (by simp) (by decide) (by decide) (by rfl)
  refine ⟨c147 (u := p.length) hone.by (by omega) (by simp) fun v1 H1 k1 f1 o1 => ?_⟩
  have k0 : Keep no H (H.push (.cells #[bv 197] 5 (0, 0))) := .push
  refine ap_bytes o1 ((hx.keep k0 fun _ _ h => h).rd.keep k1 fun _ _ h => h) (by simp; omega) fun v2 H2 k2 f2 o2 => ?_
  have k02 : Keep no H H2 := (k0.trans k1).trans' k2 fun b hb => .inr (by have := f1 b hb; simp at this; omega)
  refine ⟨c148 o2.bs (by simp; omega) fun H3 k3 => ⟨c147 (u := sumOf ([197] ++ beL 4 p.length ++ p)) (o2.by.keep k3 fun _ _ h => h) (by have := sumOf_lt ([197] ++ beL 4 p.length ++ p); omega) (by simp; omega) fun v4 H4 k4 f4 o4 => ?_⟩⟩
  refine hR v4 H4 ((k02.trans k3).trans k4) (fun b hb => ?_) o4
  have := f4 b hb
  exact Nat.le_trans (k02.trans k3).size this
end Go.Proofs.YtdoimhpmnmmffaaGreat

/- Contracts of the package entry: what is written. No condition but those in each statement. -/
namespace Go.Proofs.YtdoimhpmnmmffaaGreat
open Go IntWalk
variable {H : Heap} {R : Value → Heap → Prop} {X : List PanicEntry → Heap → Prop}

def fieldsN (k : Int) : Int := if k = 1 then 17 else if k = 2 then 1 else if k = 3 then 6 else if k = 4 then 6 else if k = 6 then 6 else if k = 5 then 27 else 0
theorem c143 {k : Int} (hR : R (.int .i64 (fieldsN k)) H) : Runs Tryz.prog 143 [.int .i64 k] H R X := by
  refine l143 ?_
  unfold fieldsN at hR
  by_cases h1 : k = 1
  · subst h1; simpa [i143] using hR
  by_cases h2 : k = 2
  · subst h2; simpa [i143] using hR
  by_cases h3 : k = 3
  · subst h3; simpa [i143] using hR
  by_cases h4 : k = 4
  · subst h4; simpa [i143] using hR
  by_cases h6 : k = 6
  · subst h6; simpa [i143] using hR
  by_cases h5 : k = 5
  · subst h5; simpa [i143] using hR
  have e : ∀ j, k ≠ j → (k == j) = false := fun j h => by simp [h]
  simpa [i143, h1, h2, h3, h4, h5, h6, e 1 h1, e 2 h2, e 3 h3, e 4 h4, e 5 h5, e 6 h6] using hR

structure Ent where
  kind : Int
  stamp : Int
  count : Int
  key : ByteArray
  val : List UInt8
  dead : Bool
def entV (e : Ent) (v : Value) : Value := .agg #[.int .i64 e.kind, .int .i64 e.stamp, .int .i64 e.count, .string e.key, v, .bool e.dead]
def andT : List (Int × Int × Int) := [(17, 1, 1), (17, 2, 0), (17, 4, 0), (17, 8, 0), (17, 16, 16), (1, 1, 1), (1, 2, 0), (1, 4, 0), (1, 8, 0), (1, 16, 0), (6, 1, 0), (6, 2, 2), (6, 4, 4), (6, 8, 0), (6, 16, 0), (27, 1, 1), (27, 2, 2), (27, 4, 0), (27, 8, 8), (27, 16, 16)]
theorem and_tab : binI .and (.int .i64 17) (.int .i64 1) = some (.int .i64 1) ∧ binI .and (.int .i64 17) (.int .i64 2) = some (.int .i64 0) ∧ binI .and (.int .i64 17) (.int .i64 4) = some (.int .i64 0) ∧ binI .and (.int .i64 17) (.int .i64 8) = some (.int .i64 0) ∧ binI .and (.int .i64 17) (.int .i64 16) = some (.int .i64 16) ∧
  binI .and (.int .i64 1) (.int .i64 1) = some (.int .i64 1) ∧ binI .and (.int .i64 1) (.int .i64 2) = some (.int .i64 0) ∧ binI .and (.int .i64 1) (.int .i64 4) = some (.int .i64 0) ∧ binI .and (.int .i64 1) (.int .i64 8) = some (.int .i64 0) ∧ binI .and (.int .i64 1) (.int .i64 16) = some (.int .i64 0) ∧
  binI .and (.int .i64 6) (.int .i64 1) = some (.int .i64 0) ∧ binI .and (.int .i64 6) (.int .i64 2) = some (.int .i64 2) ∧ binI .and (.int .i64 6) (.int .i64 4) = some (.int .i64 4) ∧ binI .and (.int .i64 6) (.int .i64 8) = some (.int .i64 0) ∧ binI .and (.int .i64 6) (.int .i64 16) = some (.int .i64 0) ∧
  binI .and (.int .i64 27) (.int .i64 1) = some (.int .i64 1) ∧ binI .and (.int .i64 27) (.int .i64 2) = some (.int .i64 2) ∧ binI .and (.int .i64 27) (.int .i64 4) = some (.int .i64 0) ∧ binI .and (.int .i64 27) (.int .i64 8) = some (.int .i64 8) ∧ binI .and (.int .i64 27) (.int .i64 16) = some (.int .i64 16) :=
  ⟨rfl, rfl, rfl, rfl, rfl, rfl, rfl, rfl, rfl, rfl, rfl, rfl, rfl, rfl, rfl, rfl, rfl, rfl, rfl, rfl⟩

theorem toList_nil : ByteArray.toList ⟨#[]⟩ = [] := by decide +kernel
/-- is it an entry? -/
def okE (e : Ent) : Bool :=
  if e.kind = 1 then decide (1 ≤ e.key.size) && decide (e.key.size ≤ 255) && decide (e.stamp = 0) && decide (e.count = 0) && !e.dead && decide (e.val.length ≤ 4096)
  else if e.kind = 2 then decide (1 ≤ e.key.size) && decide (e.key.size ≤ 255) && decide (e.stamp = 0) && decide (e.count = 0) && !e.dead && decide (e.val.length = 0)
  else if e.kind = 3 ∨ e.kind = 4 ∨ e.kind = 6 then decide (e.key.toList = []) && decide (0 ≤ e.stamp) && decide (e.stamp ≤ 4611686018427387904) && decide (0 ≤ e.count) && decide (e.count ≤ 2147483647) && !e.dead && decide (e.val.length = 0)
  else if e.kind = 5 then decide (1 ≤ e.key.size) && decide (e.key.size ≤ 255) && decide (0 ≤ e.stamp) && decide (e.stamp ≤ 4611686018427387904) && decide (e.count = 0) && (!e.dead || decide (e.val.length = 0)) && decide (e.val.length ≤ 4096)
  else false

theorem If_res {b ok : Bool} {H : Heap} {R : Value → Heap → Prop} (hb : b = !ok) (hR : R (.int .i64 (if ok = true then 0 else 100)) H) : If (.bool b) (R (.int .i64 100) H) (R (.int .i64 0) H) := by
  subst hb; cases ok <;> simpa using hR
theorem c141 {e : Ent} {v : Value} (hv : Bs H v e.val) (hR : ∀ H', Keep no H H' → R (.int .i64 (if okE e then 0 else 100)) H') : Runs Tryz.prog 141 [entV e v] H R X := by
  refine l141 ?_
  unfold i141
  have hc : (entV e v).cells = #[.int .i64 e.kind, .int .i64 e.stamp, .int .i64 e.count, .string e.key, v, .bool e.dead] := rfl
  simp only [Nw_iff, hc]
  generalize hH : H.push (.cells #[.int .i64 e.kind, .int .i64 e.stamp, .int .i64 e.count, .string e.key, v, .bool e.dead] 182 (0, 0)) = H1
  have hb : H1[H.size]? = some (.cells #[.int .i64 e.kind, .int .i64 e.stamp, .int .i64 e.count, .string e.key, v, .bool e.dead] 182 (0, 0)) := by rw [← hH]; exact get_push_eq
  have k1 : Keep no H H1 := by rw [← hH]; exact .push
  simp [rdc_of hb]
  refine ⟨c143 ?_⟩
  have hl := hv.len
  have hR' := hR H1 k1
  by_cases h1 : e.kind = 1
  · simp [fieldsN, h1, rdc_of hb, hl, and_tab]
    refine If_res (ok := okE e) ?_ hR'
    simp only [okE, h1, if_true, if_false]
    generalize e.key.size = ks, e.val.length = n
    rw [Bool.eq_iff_iff]; cases e.dead <;> by_cases hkb : e.key.toList = [] <;> simp [hkb] <;> omega
  by_cases h2 : e.kind = 2
  · simp [fieldsN, h2, rdc_of hb, hl, and_tab]
    refine If_res (ok := okE e) ?_ hR'
    simp only [okE, h2, if_true, if_false]
    generalize e.key.size = ks, e.val.length = n
    rw [Bool.eq_iff_iff]; cases e.dead <;> by_cases hkb : e.key.toList = [] <;> simp [hkb] <;> omega
  by_cases h3 : e.kind = 3 ∨ e.kind = 4 ∨ e.kind = 6
  · have hf : fieldsN e.kind = 6 := by rcases h3 with h | h | h <;> simp [fieldsN, h]
    simp [hf, rdc_of hb, hl, and_tab, toList_nil]
    refine If_res (ok := okE e) ?_ hR'
    simp only [okE, h1, h2, h3, if_true, if_false, bne]
    generalize e.key.size = ks, e.val.length = n
    rw [Bool.eq_iff_iff]; cases e.dead <;> by_cases hkb : e.key.toList = [] <;> simp [hkb] <;> omega
  by_cases h5 : e.kind = 5
  · simp [fieldsN, h5, rdc_of hb, hl, and_tab]
    refine If_res (ok := okE e) ?_ hR'
    simp only [okE, h5, if_true, if_false]
    generalize e.key.size = ks, e.val.length = n
    rw [Bool.eq_iff_iff]; cases e.dead <;> by_cases hkb : e.key.toList = [] <;> simp [hkb] <;> omega
  have hf : fieldsN e.kind = 0 := by
    simp only [not_or] at h3
    simp [fieldsN, h1, h2, h3, h5]
  have hok : okE e = false := by simp only [not_or] at h3; simp [okE, h1, h2, h3, h5]
  rw [hok] at hR'
  have z : ∀ m : Int, ∃ x, binI .and (.int .i64 0) (.int .i64 m) = some (.int .i64 x) := fun m => ⟨_, rfl⟩
  obtain ⟨z1, e1⟩ := z 1
  obtain ⟨z2, e2⟩ := z 2
  obtain ⟨z4, e4⟩ := z 4
  obtain ⟨z8, e8⟩ := z 8
  obtain ⟨z16, e16⟩ := z 16
  simp [hf, rdc_of hb, hl, e1, e2, e4, e8, e16]
  simpa using hR'
end Go.Proofs.YtdoimhpmnmmffaaGreat

/- Contracts of the package entry: how an entry is written. No condition but those in each statement. -/
namespace Go.Proofs.YtdoimhpmnmmffaaGreat
open Go IntWalk
variable {H : Heap} {R : Value → Heap → Prop} {X : List PanicEntry → Heap → Prop}

def keyL (k : ByteArray) : List UInt8 := intL k.size ++ k.data.toList
/-- an entry's bytes -/
def encL (e : Ent) : List UInt8 :=
  beL 1 e.kind.toNat ++ (if e.kind = 1 ∨ e.kind = 2 ∨ e.kind = 5 then keyL e.key else []) ++ (if e.kind = 3 ∨ e.kind = 4 ∨ e.kind = 5 ∨ e.kind = 6 then intL e.stamp else []) ++
    (if e.kind = 3 ∨ e.kind = 4 ∨ e.kind = 6 then intL e.count else []) ++ (if e.kind = 5 then beL 1 (if e.dead then 1 else 0) else []) ++ (if e.kind = 1 ∨ e.kind = 5 then intL e.val.length ++ e.val else [])

/-- new memory that holds bytes -/
structure New (H0 H : Heap) (v : Value) (bs : List UInt8) : Prop where
  keep : Keep no H0 H
  fresh : ∀ b, ob v b → H0.size ≤ b
  own : OB H v bs
theorem New.trans {H0 H H' : Heap} {v w : Value} {bs cs : List UInt8} (h : New H0 H v bs) (h' : New H H' w cs) : New H0 H' w cs :=
  ⟨h.keep.trans h'.keep, fun b hb => Nat.le_trans h.keep.size (h'.fresh b hb), h'.own⟩

theorem okE_cases {e : Ent} (h : okE e = true) : (e.kind = 1 ∨ e.kind = 2 ∨ (e.kind = 3 ∨ e.kind = 4 ∨ e.kind = 6) ∨ e.kind = 5) ∧ (e.kind = 1 ∨ e.kind = 2 ∨ e.kind = 5 → e.key.size ≤ 255) ∧ 0 ≤ e.stamp ∧ e.stamp ≤ 4611686018427387904 ∧ 0 ≤ e.count ∧ e.count ≤ 2147483647 ∧ e.val.length ≤ 4096 := by
  unfold okE at h
  split at h
  · rename_i hk; simp at h; exact ⟨.inl hk, by omega, by omega, by omega, by omega, by omega, by omega⟩
  split at h
  · rename_i hk; simp at h; refine ⟨.inr (.inl hk), by omega, by omega, by omega, by omega, by omega, ?_⟩; simp [h.2]
  split at h
  · rename_i hk; simp at h
    refine ⟨.inr (.inr (.inl hk)), by omega, by omega, by omega, by omega, by omega, ?_⟩; simp [h.2]
  split at h
  · rename_i hk; simp at h; exact ⟨.inr (.inr (.inr hk)), by omega, by omega, by omega, by omega, by omega, by omega⟩
  · cases h

theorem c86 {e : Ent} {v : Value} (hv : Bs H v e.val) (hR : okE e = true → ∀ w H', New H H' w (encL e) → R (.tuple #[w, .int .i64 0]) H') (hE : okE e = false → ∀ H', Keep no H H' → R (.tuple #[.slice none 0 0, .int .i64 100]) H') :
    Runs Tryz.prog 86 [entV e v] H R X := by
  refine l86 ?_
  unfold i86
  have hc : (entV e v).cells = #[.int .i64 e.kind, .int .i64 e.stamp, .int .i64 e.count, .string e.key, v, .bool e.dead] := rfl
  simp only [Nw_iff, hc]
  generalize hH : H.push (.cells #[.int .i64 e.kind, .int .i64 e.stamp, .int .i64 e.count, .string e.key, v, .bool e.dead] 182 (0, 0)) = H1
  have hb : H1[H.size]? = some (.cells #[.int .i64 e.kind, .int .i64 e.stamp, .int .i64 e.count, .string e.key, v, .bool e.dead] 182 (0, 0)) := by rw [← hH]; exact get_push_eq
  have k1 : Keep no H H1 := by rw [← hH]; exact .push
  have hr : rda 6 (.pointer (some ⟨H.size, 0, none⟩)) H1 = some (entV e v) := by
    rw [rda_ptr, rdn_at hb 6 0 (by simp)]; rfl
  simp only [hr, Gt_some]
  refine ⟨c141 (hv.keep k1 fun _ _ h => h) fun H2 k2 => ?_⟩
  have k02 := k1.trans k2
  cases hok : okE e with
  | false =>
    simp
    exact hE hok H2 k02
  | true =>
    obtain ⟨hk, hks, hs0, hs1, hc0, hc1, hvl⟩ := okE_cases hok
    have hR := hR hok
    have at2 : ∀ {H'}, Keep no H2 H' → H'[H.size]? = some (.cells #[.int .i64 e.kind, .int .i64 e.stamp, .int .i64 e.count, .string e.key, v, .bool e.dead] 182 (0, 0)) := fun k => (k2.trans k).at hb (fun h => h)
    have hkn : ∃ k : Nat, e.kind = k ∧ k < 256 := ⟨e.kind.toNat, by omega, by omega⟩
    obtain ⟨kn, hkk, hkl⟩ := hkn
    have hw : IntKind.u8.wrap e.kind = (kn : Int) := by rw [u8_in _ (by omega)]; exact hkk
    simp [rdc_of (at2 (.refl H2)), hw]
    refine ⟨c142 (s := .slice none 0 0) (cs := []) By.nil (by omega) (by simp) fun v1 H3 k3 f3 o3 => ?_⟩
    have n3 : New H2 H3 v1 (beL 1 kn) := ⟨k3, f3, by simpa using o3⟩
    simp [rdc_of (at2 k3)]
    refine ⟨c143 ?_⟩
    have hle : ∀ n : Int, 0 ≤ n → n < 9223372036854775808 → (intL n).length ≤ 10 := fun n h0 h1 => intL_len h0 h1
    have fin : ∀ {w H' bs}, New H2 H' w bs → bs = encL e → R (.tuple #[w, .int .i64 0]) H' := fun n h => hR _ _ ⟨k02.trans n.keep, fun b hb => Nat.le_trans k02.size (n.fresh b hb), h ▸ n.own⟩
    have hkt : e.kind.toNat = kn := by omega
    rcases hk with h1 | h2 | h3 | h5
    · have hf : fieldsN e.kind = 17 := by simp [fieldsN, h1]
      have hks := hks (.inl h1)
      simp [hf, and_tab, rdc_of (at2 k3)]
      refine Jo1 ?_
      refine ⟨c144 n3.own.by (by omega) (by simp) fun v4 H4 k4 f4 o4 => ?_⟩
      have n4 := n3.trans ⟨k4, f4, o4⟩
      refine Jo1 (Jo1 (Jo1 ?_))
      simp [rdc_of (at2 n4.keep)]
      have hl4 := hle e.key.size (by omega) (by omega)
      have hv4 := (hv.keep k02 fun _ _ h => h).keep n4.keep fun _ _ h => h
      refine ⟨c146 (bs := e.val) n4.own.by hv4.rd (by obtain ⟨a, c, h⟩ := hv.sl; exact ⟨a, _, c, h⟩) (by omega) (by simp; omega) fun v5 H5 k5 f5 o5 => fin (n4.trans ⟨k5, f5, o5⟩) ?_⟩
      have : kn = 1 := by omega
      subst this
      simp [encL, h1, keyL]
    · have hf : fieldsN e.kind = 1 := by simp [fieldsN, h2]
      have hks := hks (.inr (.inl h2))
      simp [hf, and_tab, rdc_of (at2 k3)]
      refine Jo1 ?_
      refine ⟨c144 n3.own.by (by omega) (by simp) fun v4 H4 k4 f4 o4 => ?_⟩
      have n4 := n3.trans ⟨k4, f4, o4⟩
      refine Jo1 (Jo1 (Jo1 ?_))
      refine fin n4 ?_
      have : kn = 2 := by omega
      subst this
      simp [encL, h2, keyL]
    · have hf : fieldsN e.kind = 6 := by rcases h3 with h | h | h <;> simp [fieldsN, h]
      simp [hf, and_tab]
      refine Jo1 (Jo1 ?_)
      simp [rdc_of (at2 k3)]
      refine ⟨c145 n3.own.by hs0 (by omega) (by simp) fun v4 H4 k4 f4 o4 => ?_⟩
      have n4 := n3.trans ⟨k4, f4, o4⟩
      refine Jo1 ?_
      simp [rdc_of (at2 n4.keep)]
      have hl4 := hle e.stamp hs0 (by omega)
      refine ⟨c145 n4.own.by hc0 (by omega) (by simp; omega) fun v5 H5 k5 f5 o5 => ?_⟩
      have n5 := n4.trans ⟨k5, f5, o5⟩
      refine Jo1 ?_
      refine fin n5 ?_
      rcases h3 with h | h | h <;> (obtain rfl : kn = _ := by first | exact (show kn = 3 by omega) | exact (show kn = 4 by omega) | exact (show kn = 6 by omega)) <;> simp [encL, h]
    · have hf : fieldsN e.kind = 27 := by simp [fieldsN, h5]
      have hks := hks (.inr (.inr h5))
      simp [hf, and_tab, rdc_of (at2 k3)]
      refine Jo1 ?_
      refine ⟨c144 n3.own.by (by omega) (by simp) fun v4 H4 k4 f4 o4 => ?_⟩
      have n4 := n3.trans ⟨k4, f4, o4⟩
      have hl4 := hle e.key.size (by omega) (by omega)
      have hk4 : e.key.data.toList.length ≤ 255 := by rw [Array.length_toList]; exact hks
      refine Jo1 ?_
      simp [rdc_of (at2 n4.keep)]
      refine ⟨c145 n4.own.by hs0 (by omega) (by simp only [List.length_append, beL_len]; omega) fun v5 H5 k5 f5 o5 => ?_⟩
      have n5 := n4.trans ⟨k5, f5, o5⟩
      have hl5 := hle e.stamp hs0 (by omega)
      refine Jo1 (Jo1 ?_)
      have dead : ∀ d : Nat, d < 2 → d = (if e.dead = true then 1 else 0) → Runs Tryz.prog 142 [v5, .int .u8 d] H5 (fun x45 H11 => Gt (rdc H11 H.size 4) fun x51 => Ca Tryz.prog 146 [x45, x51] H11 (fun x52 H14 => R (.tuple #[x52, .int .i64 0]) H14) X) X := by
        intro d hd hde
        refine c142 n5.own.by (by omega) (by simp only [List.length_append, beL_len]; omega) fun v6 H6 k6 f6 o6 => ?_
        have n6 := n5.trans ⟨k6, f6, o6⟩
        simp [rdc_of (at2 n6.keep)]
        have hv6 := (hv.keep k02 fun _ _ h => h).keep n6.keep fun _ _ h => h
        refine ⟨c146 (bs := e.val) n6.own.by hv6.rd (by obtain ⟨a, c, h⟩ := hv.sl; exact ⟨a, _, c, h⟩) (by omega) (by simp only [List.length_append, beL_len]; omega) fun v7 H7 k7 f7 o7 => fin (n6.trans ⟨k7, f7, o7⟩) ?_⟩
        have : kn = 5 := by omega
        subst this
        simp [encL, h5, keyL, hde]
      simp [rdc_of (at2 n5.keep)]
      cases hd : e.dead with
      | true => simp only [If_true]; exact ⟨dead 1 (by decide) (by simp [hd])⟩
      | false => simp only [If_false]; exact ⟨dead 0 (by decide) (by simp [hd])⟩
end Go.Proofs.YtdoimhpmnmmffaaGreat

/- Contracts of the packages stamp, quota, area. No condition but those in each statement. -/
namespace Go.Proofs.YtdoimhpmnmmffaaGreat
open Go IntWalk
variable {H : Heap} {R : Value → Heap → Prop} {X : List PanicEntry → Heap → Prop}

/-! ### clocks -/
def ckO (now win : Int) : Obj := .cells #[.int .i64 now, .int .i64 win] 205 (0, 0)
theorem c60 {b : Nat} {n m : Int} (h : H[b]? = some (ckO n m)) (hR : R (.int .i64 n) H) : Runs Tryz.prog 60 [.pointer (some ⟨b, 0, none⟩)] H R X :=
  l60 (by simp [i60, rdc_of h, hR])
theorem c61 {b : Nat} {n m : Int} (h : H[b]? = some (ckO n m)) (hr : -9223372036854775808 ≤ n - m ∧ n - m ≤ 9223372036854775807) (hR : R (.int .i64 (n - m)) H) : Runs Tryz.prog 61 [.pointer (some ⟨b, 0, none⟩)] H R X :=
  l61 (by simp [i61, rdc_of h, i64_in _ hr, hR])
theorem c106 {n m : Int} (h : 0 ≤ n ∧ n ≤ 4611686018427387904 ∧ 0 ≤ m ∧ m ≤ 1048576) (hR : R (.tuple #[.pointer (some ⟨H.size, 0, none⟩), .int .i64 0]) (H.push (ckO n m))) : Runs Tryz.prog 106 [.int .i64 n, .int .i64 m] H R X := by
  refine l106 ?_
  have e1 : decide (n < 0) = false := by simp; omega
  have e2 : decide (4611686018427387904 < n) = false := by simp; omega
  have e3 : decide (m < 0) = false := by simp; omega
  have e4 : decide (1048576 < m) = false := by simp; omega
  simp [i106, e1, e2, e3, e4, bdV, filL, putL, z205, Value.cells]
  exact hR
theorem c109 {b : Nat} {n m k : Int} (h : H[b]? = some (ckO n m)) (hk : 0 ≤ k ∧ k ≤ 4611686018427387904) (hR : R (.int .i64 0) (H.setIfInBounds b (ckO k m))) : Runs Tryz.prog 109 [.pointer (some ⟨b, 0, none⟩), .int .i64 k] H R X := by
  refine l109 ?_
  have e1 : decide (k < 0) = false := by simp; omega
  have e2 : decide (4611686018427387904 < k) = false := by simp; omega
  have e3 := stV1 (o := 0) (v := .int .i64 k) h (by simp) rfl rfl
  simp [i109, e1, e2, e3]
  exact hR
theorem c268 {b : Nat} {n m : Int} (h : H[b]? = some (ckO n m)) (hR : R (.bool (n == 4611686018427387904)) H) : Runs Tryz.prog 268 [.pointer (some ⟨b, 0, none⟩)] H R X := by
  refine l268 ?_
  simp [i268, rdc_of h]
  exact hR
/-! ### accounts -/
def acO (most mostOpen live pending op : Int) : Obj := .cells #[.int .i64 most, .int .i64 mostOpen, .int .i64 live, .int .i64 pending, .int .i64 op] 200 (0, 0)
theorem c128 {b : Nat} {q0 q1 q2 q3 op : Int} (h : H[b]? = some (acO q0 q1 q2 q3 op)) (hop : 0 ≤ op ∧ op ≤ 1000)
   (hR : op < q1 → R (.int .i64 0) (H.setIfInBounds b (acO q0 q1 q2 q3 (op + 1))))
   (hE : q1 ≤ op → R (.int .i64 151) H) : Runs Tryz.prog 128 [.pointer (some ⟨b, 0, none⟩)] H R X := by
  refine l128 ?_
  have e3 := stV1 (o := 4) (v := .int .i64 (op + 1)) h (by simp) rfl rfl
  simp [i128, rdc_of h, If_iff, i64_in (op + 1) (by omega), e3]
  exact ⟨hE, hR⟩
theorem c54 {b : Nat} {q0 q1 q2 q3 op : Int} (h : H[b]? = some (acO q0 q1 q2 q3 op)) (hop : -9223372036854775808 ≤ q2 + q3 ∧ q2 + q3 ≤ 9223372036854775807) (hR : R (.int .i64 (q2 + q3)) H) : Runs Tryz.prog 54 [.pointer (some ⟨b, 0, none⟩)] H R X :=
  l54 (by simp [i54, rdc_of h, i64_in _ hop, hR])
theorem c55 {b : Nat} {q0 q1 q2 q3 op : Int} (h : H[b]? = some (acO q0 q1 q2 q3 op)) (hR : R (.int .i64 op) H) : Runs Tryz.prog 55 [.pointer (some ⟨b, 0, none⟩)] H R X :=
  l55 (by simp [i55, rdc_of h, hR])
theorem c172 {n m : Int} (hR : R (.bool (decide (0 ≤ n) && decide (n ≤ m))) H) : Runs Tryz.prog 172 [.int .i64 n, .int .i64 m] H R X := by
  refine l172 ?_
  simp [i172]
  exact hR
end Go.Proofs.YtdoimhpmnmmffaaGreat

/- Contracts of the packages stamp and quota. No condition but those in each statement. -/
namespace Go.Proofs.YtdoimhpmnmmffaaGreat
open Go IntWalk
variable {H : Heap} {R : Value → Heap → Prop} {X : List PanicEntry → Heap → Prop}

theorem c162 {n m : Int} (hR : R (.bool (decide (0 ≤ n) && decide (n ≤ m))) H) : Runs Tryz.prog 162 [.int .i64 n, .int .i64 m] H R X := by
  refine l162 ?_
  simp [i162]
  exact hR
theorem c226 {b : Nat} {n m : Int} (h : H[b]? = some (ckO n m)) (hn : 0 ≤ n ∧ n ≤ 4611686018427387904) (hE : n = 4611686018427387904 → R (.tuple #[.int .i64 0, .int .i64 120]) H)
    (hR : n < 4611686018427387904 → R (.tuple #[.int .i64 (n + 1), .int .i64 0]) (H.setIfInBounds b (ckO (n + 1) m))) : Runs Tryz.prog 226 [.pointer (some ⟨b, 0, none⟩)] H R X := by
  refine l226 ?_
  simp [i226]
  refine ⟨c268 h ?_⟩
  have e3 := stV1 (o := 0) (v := .int .i64 (n + 1)) h (by simp) rfl rfl
  have e4 : (H.setIfInBounds b (.cells #[.int .i64 (n + 1), .int .i64 m] 205 (0, 0)))[b]? = some (.cells #[.int .i64 (n + 1), .int .i64 m] 205 (0, 0)) := get_set_eq (lt_of_get h)
  cases hq : n == 4611686018427387904 with
  | true => simp; exact hE (by simpa using hq)
  | false =>
    have hne : n ≠ 4611686018427387904 := by simpa using hq
    simp [rdc_of h, i64_in (n + 1) (by omega), e3, rdc_of e4]
    exact hR (by omega)
theorem c107 {q o a b c : Int} (h : 0 ≤ q ∧ q ≤ 1048576 ∧ 0 ≤ o ∧ o ≤ 32) (hR : ∀ H1, Keep no H H1 → R (.tuple #[.pointer (some ⟨H1.size, 0, none⟩), .int .i64 0]) (H1.push (acO q o 0 0 0))) :
    Runs Tryz.prog 107 [.agg #[.int .i64 q, .int .i64 o, .int .i64 a, .int .i64 b, .int .i64 c]] H R X := by
  refine l107 ?_
  unfold i107
  simp only [Nw_iff, Value.cells]
  generalize hH : H.push (.cells #[.int .i64 q, .int .i64 o, .int .i64 a, .int .i64 b, .int .i64 c] 104 (0, 0)) = H1
  have hb : H1[H.size]? = some (.cells #[.int .i64 q, .int .i64 o, .int .i64 a, .int .i64 b, .int .i64 c] 104 (0, 0)) := by rw [← hH]; exact get_push_eq
  have k1 : Keep no H H1 := by rw [← hH]; exact .push
  refine Jo1 ?_
  simp [rdc_of hb]
  have e1 : (decide (0 ≤ q) && decide (q ≤ 1048576)) = true := by simp; omega
  have e2 : (decide (0 ≤ o) && decide (o ≤ 32)) = true := by simp; omega
  refine ⟨c172 ?_⟩
  rw [e1]
  simp [rdc_of hb]
  refine ⟨c172 ?_⟩
  rw [e2]
  simp [rdc_of hb, bdV, filL, putL, z200, Value.cells]
  exact hR H1 k1
theorem c110 {b : Nat} {q0 q1 q2 q3 op k : Int} (h : H[b]? = some (acO q0 q1 q2 q3 op)) (hk : 0 ≤ k ∧ k ≤ 1048576) (hp : 0 ≤ q3 ∧ q3 ≤ 4611686018427387904)
    (hR : k + q3 ≤ q0 → R (.int .i64 0) (H.setIfInBounds b (acO q0 q1 k q3 op))) (hE : q0 < k + q3 → R (.int .i64 150) H) : Runs Tryz.prog 110 [.pointer (some ⟨b, 0, none⟩), .int .i64 k] H R X := by
  refine l110 ?_
  have e1 : (decide (0 ≤ k) && decide (k ≤ 1048576)) = true := by simp; omega
  have e3 := stV1 (o := 2) (v := .int .i64 k) h (by simp) rfl rfl
  simp [i110]
  refine ⟨c172 ?_⟩
  rw [e1]
  simp [rdc_of h, i64_in (k + q3) (by omega), If_iff, e3]
  exact ⟨hE, hR⟩
theorem c111 {b t : Nat} {v : Value} {n : Int} (h : H[b]? = some (.cells #[v, .int .i64 n] t (0, 0))) (hR : R (.int .i64 n) H) : Runs Tryz.prog 111 [.pointer (some ⟨b, 0, none⟩)] H R X :=
  l111 (by simp [i111, rdc_of h, hR])
theorem c275 {b t : Nat} {v : Value} {n : Int} (h : H[b]? = some (.cells #[v, .int .i64 n] t (0, 0))) (hR : R (.int .i64 n) H) : Runs Tryz.prog 275 [.pointer (some ⟨b, 0, none⟩)] H R X :=
  l275 (by simp [i275, rdc_of h, hR])
theorem c260 {b : Nat} {q0 q1 q2 q3 op old now : Int} (h : H[b]? = some (acO q0 q1 q2 q3 op)) (ho : 0 ≤ old ∧ old ≤ q3) (hn : 0 ≤ now ∧ now ≤ 1048576) (hp : 0 ≤ q2 ∧ q2 ≤ 4611686018427387904 ∧ q3 ≤ 1152921504606846976)
    (hR : q2 + q3 - old + now ≤ q0 → R (.int .i64 0) (H.setIfInBounds b (acO q0 q1 q2 (q3 + (now - old)) op))) (hE : q0 < q2 + q3 - old + now → R (.int .i64 150) H) : Runs Tryz.prog 260 [.pointer (some ⟨b, 0, none⟩), .int .i64 old, .int .i64 now] H R X := by
  refine l260 ?_
  have e1 : (decide (0 ≤ old) && decide (old ≤ q3)) = true := by simp; omega
  have e2 : (decide (0 ≤ now) && decide (now ≤ 1048576)) = true := by simp; omega
  have e3 := stV1 (o := 3) (v := .int .i64 (q3 + (now - old))) h (by simp) rfl rfl
  simp [i260]
  refine Jo1 ?_
  simp [rdc_of h]
  refine ⟨c172 ?_⟩
  rw [e1]
  simp
  refine ⟨c172 ?_⟩
  rw [e2]
  simp [rdc_of h]
  refine ⟨c54 h (by omega) ?_⟩
  simp [rdc_of h, i64_in (q2 + q3 - old) (by omega), i64_in (q2 + q3 - old + now) (by omega), i64_in (now - old) (by omega), i64_in (q3 + (now - old)) (by omega), If_iff, e3]
  exact ⟨hE, hR⟩
theorem c274 {b : Nat} {q0 q1 q2 q3 op p : Int} (h : H[b]? = some (acO q0 q1 q2 q3 op)) (ho : 0 < op ∧ op ≤ 1000) (hp : 0 ≤ p ∧ p ≤ q3) (h3 : q3 ≤ 4611686018427387904)
    (hR : R (.int .i64 0) (H.setIfInBounds b (acO q0 q1 q2 (q3 - p) (op - 1)))) : Runs Tryz.prog 274 [.pointer (some ⟨b, 0, none⟩), .int .i64 p] H R X := by
  refine l274 ?_
  have e1 : (decide (0 ≤ p) && decide (p ≤ q3)) = true := by simp; omega
  have e3 := stV1 (o := 4) (v := .int .i64 (op - 1)) h (by simp) rfl rfl
  have e4 : (H.setIfInBounds b (acO q0 q1 q2 q3 (op - 1)))[b]? = some (acO q0 q1 q2 q3 (op - 1)) := get_set_eq (lt_of_get h)
  have e5 := stV1 (o := 3) (v := .int .i64 (q3 - p)) e4 (by simp) rfl rfl
  have hne : (op == 0) = false := by simp; omega
  unfold i274
  refine Jo0 ?_
  simp [rdc_of h, hne]
  refine ⟨c172 ?_⟩
  rw [e1]
  simp [acO] at e3 e5
  simp [rdc_of h, i64_in (op - 1) (by omega), i64_in (q3 - p) (by omega), e3]
  have e4' := e4
  simp only [acO] at e4'
  simp [rdc_of e4', i64_in (q3 - p) (by omega), e5]
  simpa [acO] using hR
end Go.Proofs.YtdoimhpmnmmffaaGreat

/- Contracts of the packages area and disk. No condition but those in each statement. -/
namespace Go.Proofs.YtdoimhpmnmmffaaGreat
open Go IntWalk
variable {H : Heap} {R : Value → Heap → Prop} {X : List PanicEntry → Heap → Prop}

theorem OB.one {v : Value} {bs : List UInt8} (h : OB H v bs) : v.cells = #[v] ∧ v.oneCell' = true := by
  unfold OB at h
  generalize bs.length = n at h
  generalize bvs bs = xs at h
  cases h <;> exact ⟨rfl, rfl⟩

structure Area where
  base : Int
  bytes : List UInt8
  safe : Nat
def arO (base : Int) (v : Value) (safe : Nat) : Obj := .cells #[.int .i64 base, v, .int .i64 safe] 207 (0, 0)
/-- an area at block A, its bytes in v -/
structure ArRep (H : Heap) (A : Nat) (a : Area) (v : Value) : Prop where
  blk : H[A]? = some (arO a.base v a.safe)
  own : OB H v a.bytes
  ne : ¬ ob v A
def arM (A : Nat) (v : Value) (b : Nat) : Prop := b = A ∨ ob v b
theorem ArRep.keep {M : Nat → Prop} {H H' : Heap} {A : Nat} {a : Area} {v : Value} (h : ArRep H A a v) (k : Keep M H H') (hm : ∀ b, arM A v b → ¬ M b) : ArRep H' A a v :=
  ⟨k.at h.blk (hm A (.inl rfl)), h.own.keep k fun b hb => hm b (.inr hb), h.ne⟩
theorem ArRep.lt {H : Heap} {A : Nat} {a : Area} {v : Value} (h : ArRep H A a v) : ∀ b, arM A v b → b < H.size := by
  rintro b (rfl | hb)
  · exact lt_of_get h.blk
  · exact Own.lt h.own hb

theorem c72 (hR : ∀ A H', A = H.size → Keep no H H' → ArRep H' A ⟨0, [], 0⟩ (.slice none 0 0) → R (.pointer (some ⟨A, 0, none⟩)) H') : Runs Tryz.prog 72 [] H R X := by
  refine l72 ?_
  simp [i72, bdV, filL, z207, Value.cells]
  exact hR H.size _ rfl .push ⟨get_push_eq, OB.nil, ob_nil⟩
theorem c151 {A : Nat} {a : Area} {v x : Value} {bs : List UInt8} (h : ArRep H A a v) (hx : By H x bs) (hfit : a.bytes.length + bs.length ≤ 140737488355328)
    (hR : ∀ w H', Keep (arM A v) H H' → (∀ b, ob w b → ob v b ∨ H.size ≤ b) → ArRep H' A ⟨a.base, a.bytes ++ bs, a.safe⟩ w → R (.int .i64 0) H') : Runs Tryz.prog 151 [.pointer (some ⟨A, 0, none⟩), x] H R X := by
  refine l151 ?_
  have hb := h.blk
  unfold arO at hb
  simp [i151, rdc_of hb]
  refine ap_bytes h.own hx hfit fun w H1 k1 f1 o1 => ?_
  have hA : H1[A]? = some (arO a.base v a.safe) := k1.at h.blk h.ne
  have hlt := lt_of_get h.blk
  have hwA : ¬ ob w A := fun hb => by
    rcases f1 A hb with h1 | h1
    · exact h.ne h1
    · omega
  have e1 := stV1 (o := 1) (v := w) hA (by simp) o1.one.1 o1.one.2
  simp [e1]
  refine hR w _ ?_ f1 ⟨get_set_eq (lt_of_get hA), o1.keep (M := fun b => b = A) (.set rfl) (fun b hb hbA => hwA (hbA ▸ hb)), hwA⟩
  exact (k1.mono fun b _ hb => .inr hb).trans (.set (.inl rfl))
theorem c156 {A : Nat} {a : Area} {v : Value} (h : ArRep H A a v)
    (hR : ∀ H', Keep (arM A v) H H' → ArRep H' A ⟨a.base, a.bytes, a.bytes.length⟩ v → R (.int .i64 0) H') : Runs Tryz.prog 156 [.pointer (some ⟨A, 0, none⟩)] H R X := by
  refine l156 ?_
  have hb := h.blk
  unfold arO at hb
  have e1 := stV1 (o := 2) (v := .int .i64 a.bytes.length) hb (by simp) rfl rfl
  simp [i156, rdc_of hb, h.own.bs.len, e1]
  exact hR _ (.set (.inl rfl)) ⟨get_set_eq (lt_of_get hb), h.own.keep (M := fun b => b = A) (.set rfl) (fun b hb hbA => h.ne (hbA ▸ hb)), h.ne⟩
theorem c140 {A : Nat} {a : Area} {v : Value} (h : ArRep H A a v) (hb : 0 ≤ a.base ∧ a.base + a.bytes.length ≤ 9223372036854775807) (hs : a.safe ≤ a.bytes.length)
    (hR : R (.tuple #[.int .i64 a.base, .int .i64 (a.base + a.safe), .int .i64 (a.base + a.bytes.length)]) H) : Runs Tryz.prog 140 [.pointer (some ⟨A, 0, none⟩)] H R X := by
  refine l140 ?_
  have hk := h.blk
  unfold arO at hk
  simp [i140, rdc_of hk, h.own.bs.len, i64_in (a.base + a.safe) (by omega), i64_in (a.base + a.bytes.length) (by omega)]
  exact hR

/-! ### the disk -/
structure Part where
  area : Nat
  fdone : Int
  keep : Int
  torn : UInt8
  done : Int
structure PaAt (cs : Array Value) (i : Nat) (p : Part) : Prop where
  h0 : cs[5 * i]? = some (.pointer (some ⟨p.area, 0, none⟩))
  h1 : cs[5 * i + 1]? = some (.int .i64 p.fdone)
  h2 : cs[5 * i + 2]? = some (.int .i64 p.keep)
  h3 : cs[5 * i + 3]? = some (bv p.torn)
  h4 : cs[5 * i + 4]? = some (.int .i64 p.done)
structure DkRep (H : Heap) (D P : Nat) (ps : List Part) (armed : Bool) : Prop where
  blk : H[D]? = some (.cells #[.slice (some ⟨P, 0, none⟩) ps.length ps.length, .bool armed] 144 (0, 0))
  parts : ∃ cs, H[P]? = some (.cells cs 141 (0, 0)) ∧ cs.size = 5 * ps.length ∧ ∀ i (h : i < ps.length), PaAt cs i ps[i]
  ne : D ≠ P
theorem DkRep.keep {M : Nat → Prop} {H H' : Heap} {D P : Nat} {ps : List Part} {armed : Bool} (h : DkRep H D P ps armed) (k : Keep M H H') (hD : ¬ M D) (hP : ¬ M P) : DkRep H' D P ps armed := by
  obtain ⟨cs, h1, h2, h3⟩ := h.parts
  exact ⟨k.at h.blk hD, ⟨cs, k.at h1 hP, h2, h3⟩, h.ne⟩

theorem c139 {D P : Nat} {ps : List Part} {armed : Bool} (h : DkRep H D P ps armed) {i : Nat} (hi : i < ps.length) (hR : R (.tuple #[.pointer (some ⟨P, i * 5, none⟩), .int .i64 0]) H) : Runs Tryz.prog 139 [.pointer (some ⟨D, 0, none⟩), .int .i64 i] H R X := by
  refine l139 ?_
  have e1 : decide ((i : Int) < 0) = false := by simp
  have e2 : decide (ps.length ≤ i) = false := by simp; omega
  have e3 : iaV 5 (.slice (some ⟨P, 0, none⟩) ps.length ps.length) (.int .i64 i) = some (.pointer (some ⟨P, i * 5, none⟩)) := by
    simp only [iaV]; rw [if_pos (by omega)]; simp
  simp [i139, rdc_of h.blk, e1, e2, e3]
  simpa using hR
theorem c101 {D P : Nat} {ps : List Part} {armed : Bool} (h : DkRep H D P ps armed) (hR : R (.int .i64 ps.length) H) : Runs Tryz.prog 101 [.pointer (some ⟨D, 0, none⟩)] H R X :=
  l101 (by simp [i101, rdc_of h.blk, hR])
theorem c85 {D P : Nat} {ps : List Part} {armed : Bool} (h : DkRep H D P ps armed) {i : Nat} (hi : i < ps.length) {a : Area} {v : Value} (ha : ArRep H ps[i].area a v) (hb : 0 ≤ a.base ∧ a.base + a.bytes.length ≤ 9223372036854775807) (hs : a.safe ≤ a.bytes.length)
    (hR : R (.tuple #[.int .i64 a.base, .int .i64 (a.base + a.safe), .int .i64 (a.base + a.bytes.length), .int .i64 0]) H) : Runs Tryz.prog 85 [.pointer (some ⟨D, 0, none⟩), .int .i64 i] H R X := by
  refine l85 ⟨c139 h hi ?_⟩
  obtain ⟨cs, h1, h2, h3⟩ := h.parts
  have e0 := (h3 i hi).h0
  rw [Nat.mul_comm] at e0
  simp [rdc_of h1, e0]
  refine ⟨c140 ha hb hs ?_⟩
  simp
  exact hR
end Go.Proofs.YtdoimhpmnmmffaaGreat

/- Contracts of the packages disk and wal: what is appended. No condition but those in each statement. -/
namespace Go.Proofs.YtdoimhpmnmmffaaGreat
open Go IntWalk
variable {H : Heap} {R : Value → Heap → Prop} {X : List PanicEntry → Heap → Prop}

def Part.one (p : Part) : Part := { p with done := p.done + 1 }
theorem PaAt.set_ne {cs : Array Value} {i j : Nat} {p : Part} {v : Value} (h : PaAt cs j p) (hij : i ≠ j) : PaAt (cs.setIfInBounds (5 * i + 4) v) j p :=
  ⟨by rw [Array.getElem?_setIfInBounds_ne (by omega)]; exact h.h0, by rw [Array.getElem?_setIfInBounds_ne (by omega)]; exact h.h1, by rw [Array.getElem?_setIfInBounds_ne (by omega)]; exact h.h2, by rw [Array.getElem?_setIfInBounds_ne (by omega)]; exact h.h3, by rw [Array.getElem?_setIfInBounds_ne (by omega)]; exact h.h4⟩
theorem PaAt.set_eq {cs : Array Value} {i : Nat} {p : Part} (h : PaAt cs i p) : PaAt (cs.setIfInBounds (5 * i + 4) (.int .i64 (p.done + 1))) i p.one :=
  ⟨by rw [Array.getElem?_setIfInBounds_ne (by omega)]; exact h.h0, by rw [Array.getElem?_setIfInBounds_ne (by omega)]; exact h.h1, by rw [Array.getElem?_setIfInBounds_ne (by omega)]; exact h.h2, by rw [Array.getElem?_setIfInBounds_ne (by omega)]; exact h.h3, by
    have : 5 * i + 4 < cs.size := (Array.getElem?_eq_some_iff.1 h.h4).1
    simp [this, Part.one]⟩

/-- what an operation on an area leads to -/
def Oped (H : Heap) (D P : Nat) (ps : List Part) (armed : Bool) (i : Nat) (p : Part) (R : Value → Heap → Prop) (r : Value) (H1 : Heap) : Prop :=
  ∃ e : Int, r = .int .i64 e ∧ DkRep H1 D P ps armed ∧ (e = 0 → ∀ H2, Keep (fun b => b = P) H1 H2 → DkRep H2 D P (ps.set i p.one) armed → R (.int .i64 0) H2) ∧ (e ≠ 0 → R (.int .i64 e) H1)

theorem c149 {D P : Nat} {ps : List Part} {armed : Bool} (h : DkRep H D P ps armed) {i : Nat} (hi : i < ps.length) {f : Value} (hdn : 0 ≤ ps[i].done ∧ ps[i].done < 4611686018427387904)
    (hf : (armed && decide (ps[i].fdone ≤ ps[i].done)) = false → CallV Tryz.prog tb f [.pointer (some ⟨ps[i].area, 0, none⟩)] H (Oped H D P ps armed i ps[i] R) X)
    (hE : (armed && decide (ps[i].fdone ≤ ps[i].done)) = true → R (.int .i64 80) H) : Runs Tryz.prog 149 [.pointer (some ⟨D, 0, none⟩), .int .i64 i, f] H R X := by
  refine l149 ⟨c139 h hi ?_⟩
  obtain ⟨cs, h1, h2, h3⟩ := h.parts
  have hp := h3 i hi
  have e0 := hp.h0
  have e1 := hp.h1
  have e4 := hp.h4
  rw [Nat.mul_comm] at e0 e1 e4
  simp
  refine Jo1 ?_
  have main : ∀ b : Bool, (armed && decide (ps[i].fdone ≤ ps[i].done)) = b → If (.bool b) (R (.int .i64 80) H)
      (Gt (rdc H P (i * 5)) fun x38 => Cv Tryz.prog tb f [x38] H (fun x39 H3 =>
        Gt (binI .eql x39 (.int .i64 0)) fun x41 =>
        If x41 (Gt (rdc H3 P (i * 5 + 4)) fun x45 => Gt (binI .add x45 (.int .i64 1)) fun x46 => Gt (stV 1 (.pointer (some ⟨P, i * 5 + 4, none⟩)) x46 H3) fun H4 => R x39 H4) (R x39 H3)) X) := by
    intro b hb
    cases b with
    | true => simp; exact hE hb
    | false =>
      simp [rdc_of h1, e0]
      refine ⟨?_⟩
      have hc := hf hb
      have mono : ∀ {K K' : Value → Heap → Prop}, (∀ v H', K v H' → K' v H') → CallV Tryz.prog tb f [.pointer (some ⟨ps[i].area, 0, none⟩)] H K X → CallV Tryz.prog tb f [.pointer (some ⟨ps[i].area, 0, none⟩)] H K' X := by
        intro K K' hk hc
        unfold CallV at hc ⊢
        split at hc
        · exact ⟨hc.1, hc.2.mono hk fun _ _ h => h⟩
        · obtain ⟨hfst, hc⟩ := hc
          refine ⟨hfst, ?_⟩
          split at hc
          · obtain ⟨hl, hc⟩ := hc
            refine ⟨hl, fun w hw => (hc w hw).mono fun e w' he => ⟨he.1, he.2.1, ?_⟩⟩
            have h3 := he.2.2
            cases e with
            | returned v => exact hk _ _ h3
            | panicked c => exact h3
            | outgrown => exact h3
          · exact hc.elim
        · exact hc.elim
      refine mono ?_ hc
      rintro v H' ⟨e, rfl, hd, hz, hn⟩
      cases hq : e == 0 with
      | false =>
        simp [hq]
        exact hn (by simpa using hq)
      | true =>
        have he : e = 0 := by simpa using hq
        subst he
        obtain ⟨cs', g1, g2, g3⟩ := hd.parts
        have gp := g3 i hi
        have g4 := gp.h4
        rw [Nat.mul_comm] at g4
        have hlt : i * 5 + 4 < cs'.size := (Array.getElem?_eq_some_iff.1 g4).1
        have e6 := stV1 (o := i * 5 + 4) (v := .int .i64 (ps[i].done + 1)) g1 hlt rfl rfl
        simp [rdc_of g1, g4, i64_in (ps[i].done + 1) (by omega), e6]
        have hlP := lt_of_get g1
        refine hz rfl _ (.set rfl) ⟨?_, ⟨_, get_set_eq hlP, by simp [g2], fun j hj => ?_⟩, hd.ne⟩
        · rw [get_set_ne (Ne.symm hd.ne)]; simpa using hd.blk
        · have hj' : j < ps.length := by simpa using hj
          rw [Nat.mul_comm i 5]
          by_cases hij : i = j
          · subst hij; simpa using gp.set_eq
          · have := (g3 j hj').set_ne (v := .int .i64 (ps[i].done + 1)) hij
            simpa [hij] using this
  have m := main _ rfl
  cases armed with
  | false =>
    simp [rdc_of h.blk] at m ⊢
    exact m
  | true =>
    simp [rdc_of h.blk, rdc_of h1, e1, e4] at m ⊢
    exact m
end Go.Proofs.YtdoimhpmnmmffaaGreat

/- Contracts of the packages disk and wal: appending and making safe. No condition but those in each statement. -/
namespace Go.Proofs.YtdoimhpmnmmffaaGreat
open Go IntWalk
variable {H : Heap} {R : Value → Heap → Prop} {X : List PanicEntry → Heap → Prop}

theorem Bs.one {v : Value} {bs : List UInt8} (h : Bs H v bs) : v.cells = #[v] ∧ v.oneCell' = true := by
  obtain ⟨a, c, rfl⟩ := h.sl; exact ⟨rfl, rfl⟩
def down (armed : Bool) (p : Part) : Bool := armed && decide (p.fdone ≤ p.done)
theorem dk_ne {D P : Nat} {ps : List Part} {armed : Bool} (h : DkRep H D P ps armed) : D < H.size ∧ P < H.size := by
  obtain ⟨cs, h1, _⟩ := h.parts
  exact ⟨lt_of_get h.blk, lt_of_get h1⟩

theorem c88 {D P : Nat} {ps : List Part} {armed : Bool} (h : DkRep H D P ps armed) {i : Nat} (hi : i < ps.length) (hdn : 0 ≤ ps[i].done ∧ ps[i].done < 4611686018427387904) {a : Area} {v x : Value} {bs : List UInt8}
    (ha : ArRep H ps[i].area a v) (hD : ¬ arM ps[i].area v D) (hP : ¬ arM ps[i].area v P) (hx : Bs H x bs) (hfit : a.bytes.length + bs.length ≤ 140737488355328)
    (hR : down armed ps[i] = false → ∀ w H', Keep (fun b => arM ps[i].area v b ∨ b = P) H H' → (∀ b, ob w b → ob v b ∨ H.size ≤ b) → ArRep H' ps[i].area ⟨a.base, a.bytes ++ bs, a.safe⟩ w → DkRep H' D P (ps.set i ps[i].one) armed → R (.int .i64 0) H')
    (hE : down armed ps[i] = true → ∀ H', Keep no H H' → R (.int .i64 80) H') : Runs Tryz.prog 88 [.pointer (some ⟨D, 0, none⟩), .int .i64 i, x] H R X := by
  refine l88 ?_
  unfold i88
  simp only [Nw_iff, hx.one.1]
  generalize hH : H.push (.cells #[x] 45 (0, 0)) = H1
  have hb : H1[H.size]? = some (.cells #[x] 45 (0, 0)) := by rw [← hH]; exact get_push_eq
  have k1 : Keep no H H1 := by rw [← hH]; exact .push
  have h1 := h.keep k1 (fun h => h) (fun h => h)
  have ha1 := ha.keep k1 fun _ _ h => h
  refine ⟨c149 h1 hi hdn (fun hdw => ⟨rfl, ?_⟩) fun hdw => hE hdw H1 k1⟩
  refine l150 ?_
  simp [i150, rdc_of hb]
  refine ⟨c151 ha1 (hx.rd.keep k1 fun _ _ h => h) hfit fun w H2 k2 f2 a2 => ⟨0, rfl, h1.keep k2 hD hP, fun _ H3 k3 d3 => ?_, fun h => absurd rfl h⟩⟩
  have hw : ∀ b, ob w b → ob v b ∨ H.size ≤ b := fun b hb => (f2 b hb).imp id fun h => Nat.le_trans k1.size h
  refine hR hdw w H3 ?_ hw (a2.keep k3 ?_) d3
  · refine (k1.mono fun _ _ h => h.elim).trans ((k2.mono fun _ _ h => .inl h).trans (k3.mono fun _ _ h => .inr h))
  · rintro b hb rfl
    rcases hb with hb | hb
    · exact hP (.inl hb)
    · rcases f2 _ hb with h | h
      · exact hP (.inr h)
      · have := (dk_ne h1).2; omega
theorem c91 {D P : Nat} {ps : List Part} {armed : Bool} (h : DkRep H D P ps armed) {i : Nat} (hi : i < ps.length) (hdn : 0 ≤ ps[i].done ∧ ps[i].done < 4611686018427387904) {a : Area} {v : Value}
    (ha : ArRep H ps[i].area a v) (hD : ¬ arM ps[i].area v D) (hP : ¬ arM ps[i].area v P)
    (hR : down armed ps[i] = false → ∀ H', Keep (fun b => arM ps[i].area v b ∨ b = P) H H' → ArRep H' ps[i].area ⟨a.base, a.bytes, a.bytes.length⟩ v → DkRep H' D P (ps.set i ps[i].one) armed → R (.int .i64 0) H')
    (hE : down armed ps[i] = true → R (.int .i64 80) H) : Runs Tryz.prog 91 [.pointer (some ⟨D, 0, none⟩), .int .i64 i] H R X := by
  refine l91 ⟨c149 h hi hdn (fun hdw => ⟨rfl, ?_⟩) fun hdw => hE hdw⟩
  refine c156 ha fun H2 k2 a2 => ⟨0, rfl, h.keep k2 hD hP, fun _ H3 k3 d3 => ?_, fun h => absurd rfl h⟩
  refine hR hdw H3 ((k2.mono fun _ _ h => .inl h).trans (k3.mono fun _ _ h => .inr h)) (a2.keep k3 ?_) d3
  rintro b hb rfl
  exact hP hb

/-! ### the log -/
def lgO (D : Nat) (i : Nat) : Obj := .cells #[.pointer (some ⟨D, 0, none⟩), .int .i64 i] 179 (0, 0)
theorem c48 {L D P i : Nat} (hL : H[L]? = some (lgO D i)) {ps : List Part} {armed : Bool} (h : DkRep H D P ps armed) (hi : i < ps.length) {a : Area} {v : Value} (ha : ArRep H ps[i].area a v) (hb : 0 ≤ a.base ∧ a.base + a.bytes.length ≤ 9223372036854775807) (hs : a.safe ≤ a.bytes.length)
    (hR : R (.tuple #[.int .i64 a.base, .int .i64 (a.base + a.safe), .int .i64 (a.base + a.bytes.length)]) H) : Runs Tryz.prog 48 [.pointer (some ⟨L, 0, none⟩)] H R X := by
  refine l48 ?_
  unfold i48
  simp [rdc_of hL]
  refine ⟨c85 h hi ha hb hs ?_⟩
  simp
  exact hR
theorem c104 {D P i : Nat} {ps : List Part} {armed : Bool} (h : DkRep H D P ps armed) (hi : i < ps.length) {a : Area} {v : Value} (ha : ArRep H ps[i].area a v) (hb : 0 ≤ a.base ∧ a.base + a.bytes.length ≤ 9223372036854775807) (hs : a.safe ≤ a.bytes.length)
    (hR : R (.tuple #[.pointer (some ⟨H.size, 0, none⟩), .int .i64 0]) (H.push (lgO D i))) : Runs Tryz.prog 104 [.pointer (some ⟨D, 0, none⟩), .int .i64 i] H R X := by
  refine l104 ⟨c85 h hi ha hb hs ?_⟩
  simp [bdV, filL, putL, z179, Value.cells]
  exact hR
theorem c51 {L D P i : Nat} (hL : H[L]? = some (lgO D i)) {ps : List Part} {armed : Bool} (h : DkRep H D P ps armed) (hi : i < ps.length) (hdn : 0 ≤ ps[i].done ∧ ps[i].done < 4611686018427387904) {a : Area} {v : Value}
    (ha : ArRep H ps[i].area a v) (hD : ¬ arM ps[i].area v D) (hP : ¬ arM ps[i].area v P)
    (hR : down armed ps[i] = false → ∀ H', Keep (fun b => arM ps[i].area v b ∨ b = P) H H' → ArRep H' ps[i].area ⟨a.base, a.bytes, a.bytes.length⟩ v → DkRep H' D P (ps.set i ps[i].one) armed → R (.int .i64 0) H')
    (hE : down armed ps[i] = true → R (.int .i64 80) H) : Runs Tryz.prog 51 [.pointer (some ⟨L, 0, none⟩)] H R X := by
  refine l51 ?_
  unfold i51
  simp [rdc_of hL]
  exact ⟨c91 h hi hdn ha hD hP hR hE⟩
end Go.Proofs.YtdoimhpmnmmffaaGreat

/- Slices of values of any kind that are read; contracts of wal: entries are written. No condition but those in each statement. -/
namespace Go.Proofs.YtdoimhpmnmmffaaGreat
open Go IntWalk
variable {H : Heap} {R : Value → Heap → Prop} {X : List PanicEntry → Heap → Prop}

/-- a slice whose elements have these cells -/
structure SlC (H : Heap) (x : Value) (size : Nat) (css : List (List Value)) : Prop where
  sl : ∃ a c, x = .slice a css.length c
  els : ∀ j (h : j < css.length), ∃ b o, iaV size x (.int .i64 j) = some (.pointer (some ⟨b, o, none⟩)) ∧ ob x b ∧ rdn H b o size = some css[j]
theorem SlC.len {H : Heap} {x : Value} {size : Nat} {css : List (List Value)} (h : SlC H x size css) : lnV x = some (.int .i64 css.length) := by
  obtain ⟨a, c, rfl⟩ := h.sl; rfl
theorem SlC.keep {M : Nat → Prop} {H H' : Heap} {x : Value} {size : Nat} {css : List (List Value)} (h : SlC H x size css) (k : Keep M H H') (hm : ∀ b, ob x b → ¬ M b) : SlC H' x size css :=
  ⟨h.sl, fun j hj => by
    obtain ⟨b, o, h1, h2, h3⟩ := h.els j hj
    exact ⟨b, o, h1, h2, rdn_keep k (hm b h2) _ _ h3⟩⟩
theorem SlC.nil {H : Heap} {c size : Nat} : SlC H (.slice none 0 c) size [] := ⟨⟨_, _, rfl⟩, fun j h => by simp at h⟩
theorem flat_get {size : Nat} : ∀ (css : List (List Value)), (∀ c ∈ css, c.length = size) → ∀ j (h : j < css.length), (css.flatten.drop (j * size)).take size = css[j]
  | c :: css, hl, 0, h => by
    have := hl c (List.mem_cons_self ..)
    simp [← this]
  | c :: css, hl, j + 1, h => by
    have hc := hl c (List.mem_cons_self ..)
    have := flat_get css (fun c h => hl c (List.mem_cons_of_mem _ h)) j (by simpa using h)
    rw [List.flatten_cons, Nat.add_mul, Nat.one_mul, List.drop_append, hc]
    simp only [List.getElem_cons_succ]
    rw [show j * size + size - size = j * size by omega, List.drop_of_length_le (by omega)]
    simpa using this
theorem flat_len {size : Nat} : ∀ (css : List (List Value)), (∀ c ∈ css, c.length = size) → css.flatten.length = css.length * size
  | [], _ => by simp
  | c :: css, hl => by
    have hc := hl c (List.mem_cons_self ..)
    have := flat_len css fun c h => hl c (List.mem_cons_of_mem _ h)
    simp [this, hc, Nat.add_mul]; omega
theorem Own.slc {z size : Nat} {H : Heap} {v : Value} {css : List (List Value)} (h : Own z size H v css.length css.flatten) (hl : ∀ c ∈ css, c.length = size) : SlC H v size css := by
  generalize hn : css.length = n at h
  generalize hx : css.flatten = xs at h
  cases h with
  | nil =>
    have : css = [] := List.eq_nil_of_length_eq_zero hn
    subst this; exact .nil
  | blk b n c cs xs h hl' hnc hc ht =>
    subst hn
    refine ⟨⟨_, _, rfl⟩, fun j hj => ⟨b, j * size, ?_, ⟨0, _, _, rfl⟩, ?_⟩⟩
    · simp only [iaV]; rw [if_pos (by omega)]; simp
    · have h1 : (j + 1) * size ≤ css.length * size := Nat.mul_le_mul_right _ hj
      have h2 : css.length * size ≤ c * size := Nat.mul_le_mul_right _ hnc
      rw [Nat.add_mul, Nat.one_mul] at h1
      rw [rdn_at h size (j * size) (by omega)]
      have := flat_get css hl j hj
      rw [hx, ← ht] at this
      rw [← this, List.drop_take, List.take_take]
      congr 2
      omega

def entC (e : Ent) (v : Value) : List Value := [.int .i64 e.kind, .int .i64 e.stamp, .int .i64 e.count, .string e.key, v, .bool e.dead]
/-- a list of entries with their values -/
structure EnSl (H : Heap) (x : Value) (es : List Ent) (vs : List Value) : Prop where
  len : vs.length = es.length
  sl : SlC H x 6 (List.zipWith entC es vs)
  vals : ∀ j (h : j < es.length), Bs H (vs[j]'(by omega)) es[j].val
def enM (x : Value) (vs : List Value) (b : Nat) : Prop := ob x b ∨ ∃ v ∈ vs, ob v b
theorem EnSl.keep {M : Nat → Prop} {H H' : Heap} {x : Value} {es : List Ent} {vs : List Value} (h : EnSl H x es vs) (k : Keep M H H') (hm : ∀ b, enM x vs b → ¬ M b) : EnSl H' x es vs :=
  ⟨h.len, h.sl.keep k fun b hb => hm b (.inl hb), fun j hj => (h.vals j hj).keep k fun b hb => hm b (.inr ⟨_, List.getElem_mem _, hb⟩)⟩
theorem EnSl.at {H : Heap} {x : Value} {es : List Ent} {vs : List Value} (h : EnSl H x es vs) {j : Nat} (hj : j < es.length) : ∃ p, iaV 6 x (.int .i64 j) = some p ∧ rda 6 p H = some (entV es[j] (vs[j]'(by rw [h.len]; exact hj))) := by
  have hl : j < (List.zipWith entC es vs).length := by simp [h.len, hj]
  obtain ⟨b, o, h1, _, h3⟩ := h.sl.els j hl
  refine ⟨_, h1, ?_⟩
  rw [rda_ptr, h3]
  simp [entC, entV]
theorem EnSl.ln {H : Heap} {x : Value} {es : List Ent} {vs : List Value} (h : EnSl H x es vs) : lnV x = some (.int .i64 es.length) := by
  rw [h.sl.len]; simp [h.len]

def framesL (es : List Ent) : List UInt8 := es.flatMap fun e => frameL (encL e)
theorem encL_len {e : Ent} (h : okE e = true) : (encL e).length ≤ 5000 := by
  obtain ⟨hk, hks, hs0, hs1, hc0, hc1, hv⟩ := okE_cases h
  have i1 := intL_len (n := e.stamp) hs0 (by omega)
  have i2 := intL_len (n := e.count) hc0 (by omega)
  have i3 := intL_len (n := e.val.length) (by omega) (by omega)
  have i4 : (e.kind = 1 ∨ e.kind = 2 ∨ e.kind = 5) → (keyL e.key).length ≤ 265 := fun hq => by
    have h1 := hks hq
    have := intL_len (n := e.key.size) (by omega) (by omega)
    have h2 : e.key.data.toList.length = e.key.size := Array.length_toList
    simp only [keyL, List.length_append]; omega
  unfold encL
  simp only [List.length_append, beL_len]
  split <;> split <;> split <;> split <;> split <;> simp_all <;> omega
theorem frameL_len (p : List UInt8) : (frameL p).length = p.length + 9 := by simp [frameL]; omega
end Go.Proofs.YtdoimhpmnmmffaaGreat

