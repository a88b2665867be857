/-
The machine over this program.
-/
import Derived.Test.YtgahfnebfpmbpaaGreatMB1
set_option linter.unusedVariables false
set_option linter.unusedSimpArgs false
namespace Go.AM
open Go.Proofs
set_option maxRecDepth 100000
def cfg4 : FuncId → Cfg := fun f =>
  if [85,74,105,102,110,120,111,112,113,114,115,116,117,121,122,123,124,125,127,128,91,96,70,89,90,98,108,130].contains f then { mode := .mv }
  else if [82].contains f then { mode := .fz }
  else if [57,60,54,63,88].contains f then { mode := .fz, retFz := true }
  else {}
def loopsTab : List (Nat × Nat × LoopAnn) := [(5, 0, { live := [2, 7, 8, 9, 11, 13, 15, 16, 18] }),
  (5, 2, { live := [2, 7, 8, 9, 11, 13, 15, 16, 18, 19, 20, 21, 22] }),
  (6, 0, { live := [3, 4, 8, 9] }),
  (6, 2, { live := [3, 4, 8, 9, 10] }),
  (6, 4, { live := [3, 4, 8, 11] }),
  (8, 0, { live := [2, 7, 8, 9, 10, 14, 16] }),
  (8, 2, { live := [2, 7, 8, 9, 10, 14, 17] }),
  (8, 4, { live := [2, 7, 8, 9, 10, 14, 18] }),
  (8, 6, { live := [2, 7, 8, 9, 10, 14, 18, 19, 20] }),
  (9, 0, { live := [1, 5, 6, 8, 9, 10] }),
  (9, 2, { live := [5, 6, 8, 9, 15, 16] }),
  (9, 4, { live := [6, 8, 17, 19, 20] }),
  (9, 6, { live := [6, 17, 19, 21] }),
  (9, 8, { live := [19, 22, 23] }),
  (10, 0, { live := [3, 5, 6, 7, 8, 10, 11, 12, 13, 14, 16] }),
  (15, 0, { live := [2, 3, 5] }),
  (19, 0, { live := [1, 3, 4] }),
  (19, 2, { live := [1, 3, 4, 5, 6] }),
  (20, 0, { live := [1, 2, 3, 9, 10] }),
  (22, 0, { live := [1, 2, 8, 9, 10] }),
  (23, 0, { live := [0, 1, 5] }),
  (24, 0, { live := [1, 2, 3, 4, 5, 6] }),
  (24, 2, { live := [1, 2, 3, 4, 5, 7] }),
  (24, 4, { live := [1, 2, 3, 4, 5, 11] }),
  (30, 0, { live := [0, 1, 5, 6] }),
  (31, 0, { live := [1, 2, 5, 6] }),
  (32, 0, { live := [1, 2, 3, 4, 9, 10, 11, 12] }),
  (32, 2, { live := [1, 2, 3, 4, 9, 10, 11, 12, 13] }),
  (35, 0, { live := [1, 6, 8] }),
  (36, 0, { live := [1, 3, 7, 8, 9] }),
  (39, 0, { live := [0, 1, 5, 6] }),
  (39, 2, { live := [0, 1, 5, 6, 7] }),
  (40, 0, { live := [1, 2, 4, 9, 10] }),
  (40, 2, { live := [1, 2, 4, 9, 10, 14, 15, 16, 17, 19, 21] }),
  (40, 4, { live := [1, 4, 9, 14, 15, 22, 23, 24, 25] }),
  (42, 1, { live := [8, 9, 11, 12, 14, 79, 80, 81] }),
  (43, 0, { live := [0, 1, 5] }),
  (47, 0, { live := [1, 2, 7, 8], adopt := [(2, none, 1)] }),
  (48, 0, { live := [1, 5, 6] }),
  (51, 0, { live := [1, 3] }),
  (52, 0, { live := [1, 3, 8, 9, 10, 11] }),
  (56, 0, { live := [0, 1, 5, 6] }),
  (62, 0, { live := [0, 1, 11, 12, 13] }),
  (64, 0, { live := [0, 1, 5] }),
  (76, 0, { live := [0, 1, 5] }),
  (77, 0, { live := [1, 2, 3, 4, 9, 10, 11] }),
  (77, 2, { live := [1, 2, 3, 4, 9, 10, 11, 12, 13] }),
  (78, 0, { live := [1, 2, 5, 6] }),
  (79, 0, { live := [1, 2, 5, 6] }),
  (80, 0, { live := [1, 2, 3, 13, 14] }),
  (83, 0, { live := [0, 1, 5] }),
  (84, 0, { live := [0, 3, 4, 6, 13, 14, 15] }),
  (89, 0, { live := [3, 7, 8] }),
  (90, 0, { live := [0, 1, 3, 4, 9] }),
  (91, 0, { live := [0, 1, 5, 6] }),
  (93, 0, { live := [3, 6, 7, 8] }),
  (94, 0, { live := [4, 5, 18, 19, 20] }),
  (101, 0, { live := [0, 1, 7, 8] }),
  (102, 0, { live := [0, 1, 2, 3, 4, 10, 11] }),
  (104, 0, { live := [0, 1, 7, 8] }),
  (105, 0, { live := [0, 1, 2, 3, 8, 9] }),
  (107, 0, { live := [0, 5, 6, 7] }),
  (109, 0, { live := [0, 1, 7, 8] }),
  (110, 0, { live := [0, 1, 2, 3, 8] }),
  (110, 2, { live := [0, 1, 2, 3, 8, 9] }),
  (111, 0, { live := [0, 3, 8, 9, 10, 11] }),
  (111, 2, { live := [0, 3, 8, 9, 12] }),
  (112, 0, { live := [0, 1, 8, 9, 10, 11] }),
  (114, 0, { live := [0, 8, 9] }),
  (115, 0, { live := [0, 1, 2, 3, 9, 10] }),
  (115, 2, { live := [0, 1, 2, 3, 9, 10] }),
  (115, 4, { live := [0, 1, 2, 3, 9, 10, 11] }),
  (115, 6, { live := [0, 1, 2, 3, 9, 10, 12] }),
  (116, 0, { live := [0, 1, 4, 11, 12] }),
  (116, 2, { live := [0, 1, 4, 11, 12] }),
  (116, 4, { live := [0, 1, 4, 11, 12] }),
  (117, 0, { live := [0, 1, 4, 12, 13] }),
  (117, 2, { live := [0, 1, 4, 12, 13] }),
  (117, 4, { live := [0, 1, 4, 12, 13] }),
  (117, 6, { live := [0, 1, 4, 12, 13] }),
  (117, 8, { live := [0, 1, 4, 12, 13] }),
  (120, 0, { live := [0, 1, 2, 6] }),
  (120, 2, { live := [0, 1, 2, 6, 7] }),
  (121, 0, { live := [0, 6, 7, 8, 9] }),
  (121, 2, { live := [0, 6, 7, 10] }),
  (122, 0, { live := [0, 1, 6, 7, 8, 9] }),
  (124, 0, { live := [0, 6, 7] }),
  (125, 0, { live := [0, 1, 2, 7, 8] }),
  (125, 2, { live := [0, 1, 2, 7, 8] }),
  (125, 4, { live := [0, 1, 2, 7, 8, 9] }),
  (125, 6, { live := [0, 1, 2, 7, 8, 10] }),
  (127, 0, { live := [0, 1, 9, 10] }),
  (127, 2, { live := [0, 1, 9, 10] }),
  (127, 4, { live := [0, 1, 9, 10] }),
  (128, 0, { live := [0, 1, 10, 11] }),
  (128, 2, { live := [0, 1, 10, 11] }),
  (128, 4, { live := [0, 1, 10, 11] }),
  (128, 6, { live := [0, 1, 10, 11] }),
  (128, 8, { live := [0, 1, 10, 11] }),
  (130, 0, { live := [0, 2, 3] }),
  (131, 0, { live := [0, 2, 3, 4, 10] }),
  (136, 0, { live := [0, 2, 3, 8] })]
def loops4 : FuncId → Nat → Option LoopAnn := fun f b => (loopsTab.find? fun x => x.1 == f && x.2.1 == b).map (·.2.2)
noncomputable def E4 : Env := { P := Tryz.prog, fn := fun f => Tryz.prog.funcs[f]?, cfg := cfg4, loops := loops4 }
theorem E4_P : E4.P = Tryz.prog := rfl
theorem fnF3 : E4.fn 3 = some Tryz.f3 := fnE3
theorem fnF4 : E4.fn 4 = some Tryz.f4 := fnE4
theorem fnF5 : E4.fn 5 = some Tryz.f5 := fnE5
theorem fnF31 : E4.fn 31 = some Tryz.f31 := fnE31
theorem fnF36 : E4.fn 36 = some Tryz.f36 := fnE36
theorem fnF40 : E4.fn 40 = some Tryz.f40 := fnE40
theorem fnF96 : E4.fn 96 = some Tryz.f96 := fnE96
theorem fnF6 : E4.fn 6 = some Tryz.f6 := fnE6
theorem fnF7 : E4.fn 7 = some Tryz.f7 := fnE7
theorem fnF8 : E4.fn 8 = some Tryz.f8 := fnE8
theorem fnF9 : E4.fn 9 = some Tryz.f9 := fnE9
theorem fnF10 : E4.fn 10 = some Tryz.f10 := fnE10
theorem fnF11 : E4.fn 11 = some Tryz.f11 := fnE11
theorem fnF12 : E4.fn 12 = some Tryz.f12 := fnE12
theorem fnF13 : E4.fn 13 = some Tryz.f13 := fnE13
theorem fnF14 : E4.fn 14 = some Tryz.f14 := fnE14
theorem fnF15 : E4.fn 15 = some Tryz.f15 := fnE15
theorem fnF16 : E4.fn 16 = some Tryz.f16 := fnE16
theorem fnF17 : E4.fn 17 = some Tryz.f17 := fnE17
theorem fnF18 : E4.fn 18 = some Tryz.f18 := fnE18
theorem fnF19 : E4.fn 19 = some Tryz.f19 := fnE19
theorem fnF20 : E4.fn 20 = some Tryz.f20 := fnE20
theorem fnF21 : E4.fn 21 = some Tryz.f21 := fnE21
theorem fnF22 : E4.fn 22 = some Tryz.f22 := fnE22
theorem fnF23 : E4.fn 23 = some Tryz.f23 := fnE23
theorem fnF24 : E4.fn 24 = some Tryz.f24 := fnE24
theorem fnF25 : E4.fn 25 = some Tryz.f25 := fnE25
theorem fnF26 : E4.fn 26 = some Tryz.f26 := fnE26
theorem fnF27 : E4.fn 27 = some Tryz.f27 := fnE27
theorem fnF28 : E4.fn 28 = some Tryz.f28 := fnE28
theorem fnF29 : E4.fn 29 = some Tryz.f29 := fnE29
theorem fnF30 : E4.fn 30 = some Tryz.f30 := fnE30
theorem fnF32 : E4.fn 32 = some Tryz.f32 := fnE32
theorem fnF33 : E4.fn 33 = some Tryz.f33 := fnE33
theorem fnF34 : E4.fn 34 = some Tryz.f34 := fnE34
theorem fnF35 : E4.fn 35 = some Tryz.f35 := fnE35
theorem fnF37 : E4.fn 37 = some Tryz.f37 := fnE37
theorem fnF38 : E4.fn 38 = some Tryz.f38 := fnE38
theorem fnF39 : E4.fn 39 = some Tryz.f39 := fnE39
theorem fnF41 : E4.fn 41 = some Tryz.f41 := fnE41
theorem fnF42 : E4.fn 42 = some Tryz.f42 := fnE42
theorem fnF43 : E4.fn 43 = some Tryz.f43 := fnE43
theorem fnF44 : E4.fn 44 = some Tryz.f44 := fnE44
theorem fnF45 : E4.fn 45 = some Tryz.f45 := fnE45
theorem fnF46 : E4.fn 46 = some Tryz.f46 := fnE46
theorem fnF47 : E4.fn 47 = some Tryz.f47 := fnE47
theorem fnF48 : E4.fn 48 = some Tryz.f48 := fnE48
theorem fnF49 : E4.fn 49 = some Tryz.f49 := fnE49
theorem fnF50 : E4.fn 50 = some Tryz.f50 := fnE50
theorem fnF51 : E4.fn 51 = some Tryz.f51 := fnE51
theorem fnF52 : E4.fn 52 = some Tryz.f52 := fnE52
theorem fnF53 : E4.fn 53 = some Tryz.f53 := fnE53
theorem fnF54 : E4.fn 54 = some Tryz.f54 := fnE54
theorem fnF55 : E4.fn 55 = some Tryz.f55 := fnE55
theorem fnF56 : E4.fn 56 = some Tryz.f56 := fnE56
theorem fnF57 : E4.fn 57 = some Tryz.f57 := fnE57
theorem fnF58 : E4.fn 58 = some Tryz.f58 := fnE58
theorem fnF59 : E4.fn 59 = some Tryz.f59 := fnE59
theorem fnF60 : E4.fn 60 = some Tryz.f60 := fnE60
theorem fnF61 : E4.fn 61 = some Tryz.f61 := fnE61
theorem fnF62 : E4.fn 62 = some Tryz.f62 := fnE62
theorem fnF63 : E4.fn 63 = some Tryz.f63 := fnE63
theorem fnF64 : E4.fn 64 = some Tryz.f64 := fnE64
theorem fnF65 : E4.fn 65 = some Tryz.f65 := fnE65
theorem fnF66 : E4.fn 66 = some Tryz.f66 := fnE66
theorem fnF67 : E4.fn 67 = some Tryz.f67 := fnE67
theorem fnF68 : E4.fn 68 = some Tryz.f68 := fnE68
theorem fnF69 : E4.fn 69 = some Tryz.f69 := fnE69
theorem fnF70 : E4.fn 70 = some Tryz.f70 := fnE70
theorem fnF71 : E4.fn 71 = some Tryz.f71 := fnE71
theorem fnF72 : E4.fn 72 = some Tryz.f72 := fnE72
theorem fnF73 : E4.fn 73 = some Tryz.f73 := fnE73
theorem fnF74 : E4.fn 74 = some Tryz.f74 := fnE74
theorem fnF75 : E4.fn 75 = some Tryz.f75 := fnE75
theorem fnF76 : E4.fn 76 = some Tryz.f76 := fnE76
theorem fnF77 : E4.fn 77 = some Tryz.f77 := fnE77
theorem fnF78 : E4.fn 78 = some Tryz.f78 := fnE78
theorem fnF79 : E4.fn 79 = some Tryz.f79 := fnE79
theorem fnF80 : E4.fn 80 = some Tryz.f80 := fnE80
theorem fnF81 : E4.fn 81 = some Tryz.f81 := fnE81
theorem fnF82 : E4.fn 82 = some Tryz.f82 := fnE82
theorem fnF83 : E4.fn 83 = some Tryz.f83 := fnE83
theorem fnF84 : E4.fn 84 = some Tryz.f84 := fnE84
theorem fnF85 : E4.fn 85 = some Tryz.f85 := fnE85
theorem fnF86 : E4.fn 86 = some Tryz.f86 := fnE86
theorem fnF87 : E4.fn 87 = some Tryz.f87 := fnE87
theorem fnF88 : E4.fn 88 = some Tryz.f88 := fnE88
theorem fnF89 : E4.fn 89 = some Tryz.f89 := fnE89
theorem fnF90 : E4.fn 90 = some Tryz.f90 := fnE90
theorem fnF91 : E4.fn 91 = some Tryz.f91 := fnE91
theorem fnF92 : E4.fn 92 = some Tryz.f92 := fnE92
theorem fnF93 : E4.fn 93 = some Tryz.f93 := fnE93
theorem fnF94 : E4.fn 94 = some Tryz.f94 := fnE94
theorem fnF95 : E4.fn 95 = some Tryz.f95 := fnE95
theorem fnF97 : E4.fn 97 = some Tryz.f97 := fnE97
theorem fnF98 : E4.fn 98 = some Tryz.f98 := fnE98
theorem fnF99 : E4.fn 99 = some Tryz.f99 := fnE99
theorem fnF100 : E4.fn 100 = some Tryz.f100 := fnE100
theorem fnF101 : E4.fn 101 = some Tryz.f101 := fnE101
theorem fnF102 : E4.fn 102 = some Tryz.f102 := fnE102
theorem fnF103 : E4.fn 103 = some Tryz.f103 := fnE103
theorem fnF104 : E4.fn 104 = some Tryz.f104 := fnE104
theorem fnF105 : E4.fn 105 = some Tryz.f105 := fnE105
theorem fnF106 : E4.fn 106 = some Tryz.f106 := fnE106
theorem fnF107 : E4.fn 107 = some Tryz.f107 := fnE107
theorem fnF108 : E4.fn 108 = some Tryz.f108 := fnE108
theorem fnF109 : E4.fn 109 = some Tryz.f109 := fnE109
theorem fnF110 : E4.fn 110 = some Tryz.f110 := fnE110
theorem fnF111 : E4.fn 111 = some Tryz.f111 := fnE111
theorem fnF112 : E4.fn 112 = some Tryz.f112 := fnE112
theorem fnF113 : E4.fn 113 = some Tryz.f113 := fnE113
theorem fnF114 : E4.fn 114 = some Tryz.f114 := fnE114
theorem fnF115 : E4.fn 115 = some Tryz.f115 := fnE115
theorem fnF116 : E4.fn 116 = some Tryz.f116 := fnE116
theorem fnF117 : E4.fn 117 = some Tryz.f117 := fnE117
theorem fnF118 : E4.fn 118 = some Tryz.f118 := fnE118
theorem fnF119 : E4.fn 119 = some Tryz.f119 := fnE119
theorem fnF120 : E4.fn 120 = some Tryz.f120 := fnE120
theorem fnF121 : E4.fn 121 = some Tryz.f121 := fnE121
theorem fnF122 : E4.fn 122 = some Tryz.f122 := fnE122
theorem fnF123 : E4.fn 123 = some Tryz.f123 := fnE123
theorem fnF124 : E4.fn 124 = some Tryz.f124 := fnE124
theorem fnF125 : E4.fn 125 = some Tryz.f125 := fnE125
theorem fnF126 : E4.fn 126 = some Tryz.f126 := fnE126
theorem fnF127 : E4.fn 127 = some Tryz.f127 := fnE127
theorem fnF128 : E4.fn 128 = some Tryz.f128 := fnE128
theorem fnF129 : E4.fn 129 = some Tryz.f129 := fnE129
theorem fnF130 : E4.fn 130 = some Tryz.f130 := fnE130
theorem fnF131 : E4.fn 131 = some Tryz.f131 := fnE131
theorem fnF132 : E4.fn 132 = some Tryz.f132 := fnE132
theorem fnF133 : E4.fn 133 = some Tryz.f133 := fnE133
theorem fnF134 : E4.fn 134 = some Tryz.f134 := fnE134
theorem fnF135 : E4.fn 135 = some Tryz.f135 := fnE135
theorem fnF136 : E4.fn 136 = some Tryz.f136 := fnE136
theorem fnF137 : E4.fn 137 = some Tryz.f137 := fnE137
theorem fnF138 : E4.fn 138 = some Tryz.f138 := fnE138
theorem fnF139 : E4.fn 139 = some Tryz.f139 := fnE139
theorem fnF140 : E4.fn 140 = some Tryz.f140 := fnE140
theorem fnF141 : E4.fn 141 = some Tryz.f141 := fnE141
noncomputable abbrev K4 : Knot := limK E4
theorem lo5_0 : E4.loops 5 0 = some { live := [2, 7, 8, 9, 11, 13, 15, 16, 18] } := nr (by kernel_rfl)
theorem lo5_2 : E4.loops 5 2 = some { live := [2, 7, 8, 9, 11, 13, 15, 16, 18, 19, 20, 21, 22] } := nr (by kernel_rfl)
theorem lo6_0 : E4.loops 6 0 = some { live := [3, 4, 8, 9] } := nr (by kernel_rfl)
theorem lo6_2 : E4.loops 6 2 = some { live := [3, 4, 8, 9, 10] } := nr (by kernel_rfl)
theorem lo6_4 : E4.loops 6 4 = some { live := [3, 4, 8, 11] } := nr (by kernel_rfl)
theorem lo8_0 : E4.loops 8 0 = some { live := [2, 7, 8, 9, 10, 14, 16] } := nr (by kernel_rfl)
theorem lo8_2 : E4.loops 8 2 = some { live := [2, 7, 8, 9, 10, 14, 17] } := nr (by kernel_rfl)
theorem lo8_4 : E4.loops 8 4 = some { live := [2, 7, 8, 9, 10, 14, 18] } := nr (by kernel_rfl)
theorem lo8_6 : E4.loops 8 6 = some { live := [2, 7, 8, 9, 10, 14, 18, 19, 20] } := nr (by kernel_rfl)
theorem lo9_0 : E4.loops 9 0 = some { live := [1, 5, 6, 8, 9, 10] } := nr (by kernel_rfl)
theorem lo9_2 : E4.loops 9 2 = some { live := [5, 6, 8, 9, 15, 16] } := nr (by kernel_rfl)
theorem lo9_4 : E4.loops 9 4 = some { live := [6, 8, 17, 19, 20] } := nr (by kernel_rfl)
theorem lo9_6 : E4.loops 9 6 = some { live := [6, 17, 19, 21] } := nr (by kernel_rfl)
theorem lo9_8 : E4.loops 9 8 = some { live := [19, 22, 23] } := nr (by kernel_rfl)
theorem lo10_0 : E4.loops 10 0 = some { live := [3, 5, 6, 7, 8, 10, 11, 12, 13, 14, 16] } := nr (by kernel_rfl)
theorem lo15_0 : E4.loops 15 0 = some { live := [2, 3, 5] } := nr (by kernel_rfl)
theorem lo19_0 : E4.loops 19 0 = some { live := [1, 3, 4] } := nr (by kernel_rfl)
theorem lo19_2 : E4.loops 19 2 = some { live := [1, 3, 4, 5, 6] } := nr (by kernel_rfl)
theorem lo20_0 : E4.loops 20 0 = some { live := [1, 2, 3, 9, 10] } := nr (by kernel_rfl)
theorem lo22_0 : E4.loops 22 0 = some { live := [1, 2, 8, 9, 10] } := nr (by kernel_rfl)
theorem lo23_0 : E4.loops 23 0 = some { live := [0, 1, 5] } := nr (by kernel_rfl)
theorem lo24_0 : E4.loops 24 0 = some { live := [1, 2, 3, 4, 5, 6] } := nr (by kernel_rfl)
theorem lo24_2 : E4.loops 24 2 = some { live := [1, 2, 3, 4, 5, 7] } := nr (by kernel_rfl)
theorem lo24_4 : E4.loops 24 4 = some { live := [1, 2, 3, 4, 5, 11] } := nr (by kernel_rfl)
theorem lo30_0 : E4.loops 30 0 = some { live := [0, 1, 5, 6] } := nr (by kernel_rfl)
theorem lo31_0 : E4.loops 31 0 = some { live := [1, 2, 5, 6] } := nr (by kernel_rfl)
theorem lo32_0 : E4.loops 32 0 = some { live := [1, 2, 3, 4, 9, 10, 11, 12] } := nr (by kernel_rfl)
theorem lo32_2 : E4.loops 32 2 = some { live := [1, 2, 3, 4, 9, 10, 11, 12, 13] } := nr (by kernel_rfl)
theorem lo35_0 : E4.loops 35 0 = some { live := [1, 6, 8] } := nr (by kernel_rfl)
theorem lo36_0 : E4.loops 36 0 = some { live := [1, 3, 7, 8, 9] } := nr (by kernel_rfl)
theorem lo39_0 : E4.loops 39 0 = some { live := [0, 1, 5, 6] } := nr (by kernel_rfl)
theorem lo39_2 : E4.loops 39 2 = some { live := [0, 1, 5, 6, 7] } := nr (by kernel_rfl)
theorem lo40_0 : E4.loops 40 0 = some { live := [1, 2, 4, 9, 10] } := nr (by kernel_rfl)
theorem lo40_2 : E4.loops 40 2 = some { live := [1, 2, 4, 9, 10, 14, 15, 16, 17, 19, 21] } := nr (by kernel_rfl)
theorem lo40_4 : E4.loops 40 4 = some { live := [1, 4, 9, 14, 15, 22, 23, 24, 25] } := nr (by kernel_rfl)
theorem lo42_1 : E4.loops 42 1 = some { live := [8, 9, 11, 12, 14, 79, 80, 81] } := nr (by kernel_rfl)
theorem lo43_0 : E4.loops 43 0 = some { live := [0, 1, 5] } := nr (by kernel_rfl)
theorem lo47_0 : E4.loops 47 0 = some { live := [1, 2, 7, 8], adopt := [(2, none, 1)] } := nr (by kernel_rfl)
theorem lo48_0 : E4.loops 48 0 = some { live := [1, 5, 6] } := nr (by kernel_rfl)
theorem lo51_0 : E4.loops 51 0 = some { live := [1, 3] } := nr (by kernel_rfl)
theorem lo52_0 : E4.loops 52 0 = some { live := [1, 3, 8, 9, 10, 11] } := nr (by kernel_rfl)
theorem lo56_0 : E4.loops 56 0 = some { live := [0, 1, 5, 6] } := nr (by kernel_rfl)
theorem lo62_0 : E4.loops 62 0 = some { live := [0, 1, 11, 12, 13] } := nr (by kernel_rfl)
theorem lo64_0 : E4.loops 64 0 = some { live := [0, 1, 5] } := nr (by kernel_rfl)
theorem lo76_0 : E4.loops 76 0 = some { live := [0, 1, 5] } := nr (by kernel_rfl)
theorem lo77_0 : E4.loops 77 0 = some { live := [1, 2, 3, 4, 9, 10, 11] } := nr (by kernel_rfl)
theorem lo77_2 : E4.loops 77 2 = some { live := [1, 2, 3, 4, 9, 10, 11, 12, 13] } := nr (by kernel_rfl)
theorem lo78_0 : E4.loops 78 0 = some { live := [1, 2, 5, 6] } := nr (by kernel_rfl)
theorem lo79_0 : E4.loops 79 0 = some { live := [1, 2, 5, 6] } := nr (by kernel_rfl)
theorem lo80_0 : E4.loops 80 0 = some { live := [1, 2, 3, 13, 14] } := nr (by kernel_rfl)
theorem lo83_0 : E4.loops 83 0 = some { live := [0, 1, 5] } := nr (by kernel_rfl)
theorem lo84_0 : E4.loops 84 0 = some { live := [0, 3, 4, 6, 13, 14, 15] } := nr (by kernel_rfl)
theorem lo89_0 : E4.loops 89 0 = some { live := [3, 7, 8] } := nr (by kernel_rfl)
theorem lo90_0 : E4.loops 90 0 = some { live := [0, 1, 3, 4, 9] } := nr (by kernel_rfl)
theorem lo91_0 : E4.loops 91 0 = some { live := [0, 1, 5, 6] } := nr (by kernel_rfl)
theorem lo93_0 : E4.loops 93 0 = some { live := [3, 6, 7, 8] } := nr (by kernel_rfl)
theorem lo94_0 : E4.loops 94 0 = some { live := [4, 5, 18, 19, 20] } := nr (by kernel_rfl)
theorem lo101_0 : E4.loops 101 0 = some { live := [0, 1, 7, 8] } := nr (by kernel_rfl)
theorem lo102_0 : E4.loops 102 0 = some { live := [0, 1, 2, 3, 4, 10, 11] } := nr (by kernel_rfl)
theorem lo104_0 : E4.loops 104 0 = some { live := [0, 1, 7, 8] } := nr (by kernel_rfl)
theorem lo105_0 : E4.loops 105 0 = some { live := [0, 1, 2, 3, 8, 9] } := nr (by kernel_rfl)
theorem lo107_0 : E4.loops 107 0 = some { live := [0, 5, 6, 7] } := nr (by kernel_rfl)
theorem lo109_0 : E4.loops 109 0 = some { live := [0, 1, 7, 8] } := nr (by kernel_rfl)
theorem lo110_0 : E4.loops 110 0 = some { live := [0, 1, 2, 3, 8] } := nr (by kernel_rfl)
theorem lo110_2 : E4.loops 110 2 = some { live := [0, 1, 2, 3, 8, 9] } := nr (by kernel_rfl)
theorem lo111_0 : E4.loops 111 0 = some { live := [0, 3, 8, 9, 10, 11] } := nr (by kernel_rfl)
theorem lo111_2 : E4.loops 111 2 = some { live := [0, 3, 8, 9, 12] } := nr (by kernel_rfl)
theorem lo112_0 : E4.loops 112 0 = some { live := [0, 1, 8, 9, 10, 11] } := nr (by kernel_rfl)
theorem lo114_0 : E4.loops 114 0 = some { live := [0, 8, 9] } := nr (by kernel_rfl)
theorem lo115_0 : E4.loops 115 0 = some { live := [0, 1, 2, 3, 9, 10] } := nr (by kernel_rfl)
theorem lo115_2 : E4.loops 115 2 = some { live := [0, 1, 2, 3, 9, 10] } := nr (by kernel_rfl)
theorem lo115_4 : E4.loops 115 4 = some { live := [0, 1, 2, 3, 9, 10, 11] } := nr (by kernel_rfl)
theorem lo115_6 : E4.loops 115 6 = some { live := [0, 1, 2, 3, 9, 10, 12] } := nr (by kernel_rfl)
theorem lo116_0 : E4.loops 116 0 = some { live := [0, 1, 4, 11, 12] } := nr (by kernel_rfl)
theorem lo116_2 : E4.loops 116 2 = some { live := [0, 1, 4, 11, 12] } := nr (by kernel_rfl)
theorem lo116_4 : E4.loops 116 4 = some { live := [0, 1, 4, 11, 12] } := nr (by kernel_rfl)
theorem lo117_0 : E4.loops 117 0 = some { live := [0, 1, 4, 12, 13] } := nr (by kernel_rfl)
theorem lo117_2 : E4.loops 117 2 = some { live := [0, 1, 4, 12, 13] } := nr (by kernel_rfl)
theorem lo117_4 : E4.loops 117 4 = some { live := [0, 1, 4, 12, 13] } := nr (by kernel_rfl)
theorem lo117_6 : E4.loops 117 6 = some { live := [0, 1, 4, 12, 13] } := nr (by kernel_rfl)
theorem lo117_8 : E4.loops 117 8 = some { live := [0, 1, 4, 12, 13] } := nr (by kernel_rfl)
theorem lo120_0 : E4.loops 120 0 = some { live := [0, 1, 2, 6] } := nr (by kernel_rfl)
theorem lo120_2 : E4.loops 120 2 = some { live := [0, 1, 2, 6, 7] } := nr (by kernel_rfl)
theorem lo121_0 : E4.loops 121 0 = some { live := [0, 6, 7, 8, 9] } := nr (by kernel_rfl)
theorem lo121_2 : E4.loops 121 2 = some { live := [0, 6, 7, 10] } := nr (by kernel_rfl)
theorem lo122_0 : E4.loops 122 0 = some { live := [0, 1, 6, 7, 8, 9] } := nr (by kernel_rfl)
theorem lo124_0 : E4.loops 124 0 = some { live := [0, 6, 7] } := nr (by kernel_rfl)
theorem lo125_0 : E4.loops 125 0 = some { live := [0, 1, 2, 7, 8] } := nr (by kernel_rfl)
theorem lo125_2 : E4.loops 125 2 = some { live := [0, 1, 2, 7, 8] } := nr (by kernel_rfl)
theorem lo125_4 : E4.loops 125 4 = some { live := [0, 1, 2, 7, 8, 9] } := nr (by kernel_rfl)
theorem lo125_6 : E4.loops 125 6 = some { live := [0, 1, 2, 7, 8, 10] } := nr (by kernel_rfl)
theorem lo127_0 : E4.loops 127 0 = some { live := [0, 1, 9, 10] } := nr (by kernel_rfl)
theorem lo127_2 : E4.loops 127 2 = some { live := [0, 1, 9, 10] } := nr (by kernel_rfl)
theorem lo127_4 : E4.loops 127 4 = some { live := [0, 1, 9, 10] } := nr (by kernel_rfl)
theorem lo128_0 : E4.loops 128 0 = some { live := [0, 1, 10, 11] } := nr (by kernel_rfl)
theorem lo128_2 : E4.loops 128 2 = some { live := [0, 1, 10, 11] } := nr (by kernel_rfl)
theorem lo128_4 : E4.loops 128 4 = some { live := [0, 1, 10, 11] } := nr (by kernel_rfl)
theorem lo128_6 : E4.loops 128 6 = some { live := [0, 1, 10, 11] } := nr (by kernel_rfl)
theorem lo128_8 : E4.loops 128 8 = some { live := [0, 1, 10, 11] } := nr (by kernel_rfl)
theorem lo130_0 : E4.loops 130 0 = some { live := [0, 2, 3] } := nr (by kernel_rfl)
theorem lo131_0 : E4.loops 131 0 = some { live := [0, 2, 3, 4, 10] } := nr (by kernel_rfl)
theorem lo136_0 : E4.loops 136 0 = some { live := [0, 2, 3, 8] } := nr (by kernel_rfl)
theorem cf3 : E4.cfg 3 = ⟨.br, false⟩ := nr (by kernel_rfl)
theorem cf4 : E4.cfg 4 = ⟨.br, false⟩ := nr (by kernel_rfl)
theorem cf5 : E4.cfg 5 = ⟨.br, false⟩ := nr (by kernel_rfl)
theorem cf6 : E4.cfg 6 = ⟨.br, false⟩ := nr (by kernel_rfl)
theorem cf7 : E4.cfg 7 = ⟨.br, false⟩ := nr (by kernel_rfl)
theorem cf8 : E4.cfg 8 = ⟨.br, false⟩ := nr (by kernel_rfl)
theorem cf9 : E4.cfg 9 = ⟨.br, false⟩ := nr (by kernel_rfl)
theorem cf10 : E4.cfg 10 = ⟨.br, false⟩ := nr (by kernel_rfl)
theorem cf11 : E4.cfg 11 = ⟨.br, false⟩ := nr (by kernel_rfl)
theorem cf12 : E4.cfg 12 = ⟨.br, false⟩ := nr (by kernel_rfl)
theorem cf13 : E4.cfg 13 = ⟨.br, false⟩ := nr (by kernel_rfl)
theorem cf14 : E4.cfg 14 = ⟨.br, false⟩ := nr (by kernel_rfl)
theorem cf15 : E4.cfg 15 = ⟨.br, false⟩ := nr (by kernel_rfl)
theorem cf16 : E4.cfg 16 = ⟨.br, false⟩ := nr (by kernel_rfl)
theorem cf17 : E4.cfg 17 = ⟨.br, false⟩ := nr (by kernel_rfl)
theorem cf18 : E4.cfg 18 = ⟨.br, false⟩ := nr (by kernel_rfl)
theorem cf19 : E4.cfg 19 = ⟨.br, false⟩ := nr (by kernel_rfl)
theorem cf20 : E4.cfg 20 = ⟨.br, false⟩ := nr (by kernel_rfl)
theorem cf21 : E4.cfg 21 = ⟨.br, false⟩ := nr (by kernel_rfl)
theorem cf22 : E4.cfg 22 = ⟨.br, false⟩ := nr (by kernel_rfl)
theorem cf23 : E4.cfg 23 = ⟨.br, false⟩ := nr (by kernel_rfl)
theorem cf24 : E4.cfg 24 = ⟨.br, false⟩ := nr (by kernel_rfl)
theorem cf25 : E4.cfg 25 = ⟨.br, false⟩ := nr (by kernel_rfl)
theorem cf26 : E4.cfg 26 = ⟨.br, false⟩ := nr (by kernel_rfl)
theorem cf27 : E4.cfg 27 = ⟨.br, false⟩ := nr (by kernel_rfl)
theorem cf28 : E4.cfg 28 = ⟨.br, false⟩ := nr (by kernel_rfl)
theorem cf29 : E4.cfg 29 = ⟨.br, false⟩ := nr (by kernel_rfl)
theorem cf30 : E4.cfg 30 = ⟨.br, false⟩ := nr (by kernel_rfl)
theorem cf31 : E4.cfg 31 = ⟨.br, false⟩ := nr (by kernel_rfl)
theorem cf32 : E4.cfg 32 = ⟨.br, false⟩ := nr (by kernel_rfl)
theorem cf33 : E4.cfg 33 = ⟨.br, false⟩ := nr (by kernel_rfl)
theorem cf34 : E4.cfg 34 = ⟨.br, false⟩ := nr (by kernel_rfl)
theorem cf35 : E4.cfg 35 = ⟨.br, false⟩ := nr (by kernel_rfl)
theorem cf36 : E4.cfg 36 = ⟨.br, false⟩ := nr (by kernel_rfl)
theorem cf37 : E4.cfg 37 = ⟨.br, false⟩ := nr (by kernel_rfl)
theorem cf38 : E4.cfg 38 = ⟨.br, false⟩ := nr (by kernel_rfl)
theorem cf39 : E4.cfg 39 = ⟨.br, false⟩ := nr (by kernel_rfl)
theorem cf40 : E4.cfg 40 = ⟨.br, false⟩ := nr (by kernel_rfl)
theorem cf41 : E4.cfg 41 = ⟨.br, false⟩ := nr (by kernel_rfl)
theorem cf42 : E4.cfg 42 = ⟨.br, false⟩ := nr (by kernel_rfl)
theorem cf43 : E4.cfg 43 = ⟨.br, false⟩ := nr (by kernel_rfl)
theorem cf44 : E4.cfg 44 = ⟨.br, false⟩ := nr (by kernel_rfl)
theorem cf45 : E4.cfg 45 = ⟨.br, false⟩ := nr (by kernel_rfl)
theorem cf46 : E4.cfg 46 = ⟨.br, false⟩ := nr (by kernel_rfl)
theorem cf47 : E4.cfg 47 = ⟨.br, false⟩ := nr (by kernel_rfl)
theorem cf48 : E4.cfg 48 = ⟨.br, false⟩ := nr (by kernel_rfl)
theorem cf49 : E4.cfg 49 = ⟨.br, false⟩ := nr (by kernel_rfl)
theorem cf50 : E4.cfg 50 = ⟨.br, false⟩ := nr (by kernel_rfl)
theorem cf51 : E4.cfg 51 = ⟨.br, false⟩ := nr (by kernel_rfl)
theorem cf52 : E4.cfg 52 = ⟨.br, false⟩ := nr (by kernel_rfl)
theorem cf53 : E4.cfg 53 = ⟨.br, false⟩ := nr (by kernel_rfl)
theorem cf54 : E4.cfg 54 = ⟨.fz, true⟩ := nr (by kernel_rfl)
theorem cf55 : E4.cfg 55 = ⟨.br, false⟩ := nr (by kernel_rfl)
theorem cf56 : E4.cfg 56 = ⟨.br, false⟩ := nr (by kernel_rfl)
theorem cf57 : E4.cfg 57 = ⟨.fz, true⟩ := nr (by kernel_rfl)
theorem cf58 : E4.cfg 58 = ⟨.br, false⟩ := nr (by kernel_rfl)
theorem cf59 : E4.cfg 59 = ⟨.br, false⟩ := nr (by kernel_rfl)
theorem cf60 : E4.cfg 60 = ⟨.fz, true⟩ := nr (by kernel_rfl)
theorem cf61 : E4.cfg 61 = ⟨.br, false⟩ := nr (by kernel_rfl)
theorem cf62 : E4.cfg 62 = ⟨.br, false⟩ := nr (by kernel_rfl)
theorem cf63 : E4.cfg 63 = ⟨.fz, true⟩ := nr (by kernel_rfl)
theorem cf64 : E4.cfg 64 = ⟨.br, false⟩ := nr (by kernel_rfl)
theorem cf65 : E4.cfg 65 = ⟨.br, false⟩ := nr (by kernel_rfl)
theorem cf66 : E4.cfg 66 = ⟨.br, false⟩ := nr (by kernel_rfl)
theorem cf67 : E4.cfg 67 = ⟨.br, false⟩ := nr (by kernel_rfl)
theorem cf68 : E4.cfg 68 = ⟨.br, false⟩ := nr (by kernel_rfl)
theorem cf69 : E4.cfg 69 = ⟨.br, false⟩ := nr (by kernel_rfl)
theorem cf70 : E4.cfg 70 = ⟨.mv, false⟩ := nr (by kernel_rfl)
theorem cf71 : E4.cfg 71 = ⟨.br, false⟩ := nr (by kernel_rfl)
theorem cf72 : E4.cfg 72 = ⟨.br, false⟩ := nr (by kernel_rfl)
theorem cf73 : E4.cfg 73 = ⟨.br, false⟩ := nr (by kernel_rfl)
theorem cf74 : E4.cfg 74 = ⟨.mv, false⟩ := nr (by kernel_rfl)
theorem cf75 : E4.cfg 75 = ⟨.br, false⟩ := nr (by kernel_rfl)
theorem cf76 : E4.cfg 76 = ⟨.br, false⟩ := nr (by kernel_rfl)
theorem cf77 : E4.cfg 77 = ⟨.br, false⟩ := nr (by kernel_rfl)
theorem cf78 : E4.cfg 78 = ⟨.br, false⟩ := nr (by kernel_rfl)
theorem cf79 : E4.cfg 79 = ⟨.br, false⟩ := nr (by kernel_rfl)
theorem cf80 : E4.cfg 80 = ⟨.br, false⟩ := nr (by kernel_rfl)
theorem cf81 : E4.cfg 81 = ⟨.br, false⟩ := nr (by kernel_rfl)
theorem cf82 : E4.cfg 82 = ⟨.fz, false⟩ := nr (by kernel_rfl)
theorem cf83 : E4.cfg 83 = ⟨.br, false⟩ := nr (by kernel_rfl)
theorem cf84 : E4.cfg 84 = ⟨.br, false⟩ := nr (by kernel_rfl)
theorem cf85 : E4.cfg 85 = ⟨.mv, false⟩ := nr (by kernel_rfl)
theorem cf86 : E4.cfg 86 = ⟨.br, false⟩ := nr (by kernel_rfl)
theorem cf87 : E4.cfg 87 = ⟨.br, false⟩ := nr (by kernel_rfl)
theorem cf88 : E4.cfg 88 = ⟨.fz, true⟩ := nr (by kernel_rfl)
theorem cf89 : E4.cfg 89 = ⟨.mv, false⟩ := nr (by kernel_rfl)
theorem cf90 : E4.cfg 90 = ⟨.mv, false⟩ := nr (by kernel_rfl)
theorem cf91 : E4.cfg 91 = ⟨.mv, false⟩ := nr (by kernel_rfl)
theorem cf92 : E4.cfg 92 = ⟨.br, false⟩ := nr (by kernel_rfl)
theorem cf93 : E4.cfg 93 = ⟨.br, false⟩ := nr (by kernel_rfl)
theorem cf94 : E4.cfg 94 = ⟨.br, false⟩ := nr (by kernel_rfl)
theorem cf95 : E4.cfg 95 = ⟨.br, false⟩ := nr (by kernel_rfl)
theorem cf96 : E4.cfg 96 = ⟨.mv, false⟩ := nr (by kernel_rfl)
theorem cf97 : E4.cfg 97 = ⟨.br, false⟩ := nr (by kernel_rfl)
theorem cf98 : E4.cfg 98 = ⟨.mv, false⟩ := nr (by kernel_rfl)
theorem cf99 : E4.cfg 99 = ⟨.br, false⟩ := nr (by kernel_rfl)
theorem cf100 : E4.cfg 100 = ⟨.br, false⟩ := nr (by kernel_rfl)
theorem cf101 : E4.cfg 101 = ⟨.br, false⟩ := nr (by kernel_rfl)
theorem cf102 : E4.cfg 102 = ⟨.mv, false⟩ := nr (by kernel_rfl)
theorem cf103 : E4.cfg 103 = ⟨.br, false⟩ := nr (by kernel_rfl)
theorem cf104 : E4.cfg 104 = ⟨.br, false⟩ := nr (by kernel_rfl)
theorem cf105 : E4.cfg 105 = ⟨.mv, false⟩ := nr (by kernel_rfl)
theorem cf106 : E4.cfg 106 = ⟨.br, false⟩ := nr (by kernel_rfl)
theorem cf107 : E4.cfg 107 = ⟨.br, false⟩ := nr (by kernel_rfl)
theorem cf108 : E4.cfg 108 = ⟨.mv, false⟩ := nr (by kernel_rfl)
theorem cf109 : E4.cfg 109 = ⟨.br, false⟩ := nr (by kernel_rfl)
theorem cf110 : E4.cfg 110 = ⟨.mv, false⟩ := nr (by kernel_rfl)
theorem cf111 : E4.cfg 111 = ⟨.mv, false⟩ := nr (by kernel_rfl)
theorem cf112 : E4.cfg 112 = ⟨.mv, false⟩ := nr (by kernel_rfl)
theorem cf113 : E4.cfg 113 = ⟨.mv, false⟩ := nr (by kernel_rfl)
theorem cf114 : E4.cfg 114 = ⟨.mv, false⟩ := nr (by kernel_rfl)
theorem cf115 : E4.cfg 115 = ⟨.mv, false⟩ := nr (by kernel_rfl)
theorem cf116 : E4.cfg 116 = ⟨.mv, false⟩ := nr (by kernel_rfl)
theorem cf117 : E4.cfg 117 = ⟨.mv, false⟩ := nr (by kernel_rfl)
theorem cf118 : E4.cfg 118 = ⟨.br, false⟩ := nr (by kernel_rfl)
theorem cf119 : E4.cfg 119 = ⟨.br, false⟩ := nr (by kernel_rfl)
theorem cf120 : E4.cfg 120 = ⟨.mv, false⟩ := nr (by kernel_rfl)
theorem cf121 : E4.cfg 121 = ⟨.mv, false⟩ := nr (by kernel_rfl)
theorem cf122 : E4.cfg 122 = ⟨.mv, false⟩ := nr (by kernel_rfl)
theorem cf123 : E4.cfg 123 = ⟨.mv, false⟩ := nr (by kernel_rfl)
theorem cf124 : E4.cfg 124 = ⟨.mv, false⟩ := nr (by kernel_rfl)
theorem cf125 : E4.cfg 125 = ⟨.mv, false⟩ := nr (by kernel_rfl)
theorem cf126 : E4.cfg 126 = ⟨.br, false⟩ := nr (by kernel_rfl)
theorem cf127 : E4.cfg 127 = ⟨.mv, false⟩ := nr (by kernel_rfl)
theorem cf128 : E4.cfg 128 = ⟨.mv, false⟩ := nr (by kernel_rfl)
theorem cf129 : E4.cfg 129 = ⟨.br, false⟩ := nr (by kernel_rfl)
theorem cf130 : E4.cfg 130 = ⟨.mv, false⟩ := nr (by kernel_rfl)
theorem cf131 : E4.cfg 131 = ⟨.br, false⟩ := nr (by kernel_rfl)
theorem cf132 : E4.cfg 132 = ⟨.br, false⟩ := nr (by kernel_rfl)
theorem cf133 : E4.cfg 133 = ⟨.br, false⟩ := nr (by kernel_rfl)
theorem cf134 : E4.cfg 134 = ⟨.br, false⟩ := nr (by kernel_rfl)
theorem cf135 : E4.cfg 135 = ⟨.br, false⟩ := nr (by kernel_rfl)
theorem cf136 : E4.cfg 136 = ⟨.br, false⟩ := nr (by kernel_rfl)
theorem cf137 : E4.cfg 137 = ⟨.br, false⟩ := nr (by kernel_rfl)
theorem cf138 : E4.cfg 138 = ⟨.br, false⟩ := nr (by kernel_rfl)
theorem cf139 : E4.cfg 139 = ⟨.br, false⟩ := nr (by kernel_rfl)
theorem cf140 : E4.cfg 140 = ⟨.br, false⟩ := nr (by kernel_rfl)
theorem cf141 : E4.cfg 141 = ⟨.br, false⟩ := nr (by kernel_rfl)
theorem cv3_78 (k : IntKind) (n : Int) : convA Tryz.prog 3 78 (.f (.int k n)) = some (.f (.int .u64 (IntKind.wrap .u64 n))) := convA_int (ks := .i64) (by kernel_rfl) (by kernel_rfl)
theorem cv5_3 (k : IntKind) (n : Int) : convA Tryz.prog 5 3 (.f (.int k n)) = some (.f (.int .i64 (IntKind.wrap .i64 n))) := convA_int (ks := .u8) (by kernel_rfl) (by kernel_rfl)
theorem cv78_3 (k : IntKind) (n : Int) : convA Tryz.prog 78 3 (.f (.int k n)) = some (.f (.int .i64 (IntKind.wrap .i64 n))) := convA_int (ks := .u64) (by kernel_rfl) (by kernel_rfl)
attribute [go_sem] cv3_78 cv5_3 cv78_3
attribute [go_sem] E4_P lo5_0 lo5_2 lo6_0 lo6_2 lo6_4 lo8_0 lo8_2 lo8_4 lo8_6 lo9_0 lo9_2 lo9_4 lo9_6 lo9_8 lo10_0 lo15_0 lo19_0 lo19_2 lo20_0 lo22_0 lo23_0 lo24_0 lo24_2 lo24_4 lo30_0 lo31_0 lo32_0 lo32_2 lo35_0 lo36_0 lo39_0 lo39_2 lo40_0 lo40_2 lo40_4 lo42_1 lo43_0 lo47_0 lo48_0 lo51_0 lo52_0 lo56_0 lo62_0 lo64_0 lo76_0 lo77_0 lo77_2 lo78_0 lo79_0 lo80_0 lo83_0 lo84_0 lo89_0 lo90_0 lo91_0 lo93_0 lo94_0 lo101_0 lo102_0 lo104_0 lo105_0 lo107_0 lo109_0 lo110_0 lo110_2 lo111_0 lo111_2 lo112_0 lo114_0 lo115_0 lo115_2 lo115_4 lo115_6 lo116_0 lo116_2 lo116_4 lo117_0 lo117_2 lo117_4 lo117_6 lo117_8 lo120_0 lo120_2 lo121_0 lo121_2 lo122_0 lo124_0 lo125_0 lo125_2 lo125_4 lo125_6 lo127_0 lo127_2 lo127_4 lo128_0 lo128_2 lo128_4 lo128_6 lo128_8 lo130_0 lo131_0 lo136_0 cf3 cf4 cf5 cf6 cf7 cf8 cf9 cf10 cf11 cf12 cf13 cf14 cf15 cf16 cf17 cf18 cf19 cf20 cf21 cf22 cf23 cf24 cf25 cf26 cf27 cf28 cf29 cf30 cf31 cf32 cf33 cf34 cf35 cf36 cf37 cf38 cf39 cf40 cf41 cf42 cf43 cf44 cf45 cf46 cf47 cf48 cf49 cf50 cf51 cf52 cf53 cf54 cf55 cf56 cf57 cf58 cf59 cf60 cf61 cf62 cf63 cf64 cf65 cf66 cf67 cf68 cf69 cf70 cf71 cf72 cf73 cf74 cf75 cf76 cf77 cf78 cf79 cf80 cf81 cf82 cf83 cf84 cf85 cf86 cf87 cf88 cf89 cf90 cf91 cf92 cf93 cf94 cf95 cf96 cf97 cf98 cf99 cf100 cf101 cf102 cf103 cf104 cf105 cf106 cf107 cf108 cf109 cf110 cf111 cf112 cf113 cf114 cf115 cf116 cf117 cf118 cf119 cf120 cf121 cf122 cf123 cf124 cf125 cf126 cf127 cf128 cf129 cf130 cf131 cf132 cf133 cf134 cf135 cf136 cf137 cf138 cf139 cf140 cf141
end Go.AM
