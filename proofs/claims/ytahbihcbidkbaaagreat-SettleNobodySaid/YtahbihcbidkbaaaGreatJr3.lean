/-
  Printed by mk.py: the functions as the evaluator has them.
-/
import Derived.Test.YtahbihcbidkbaaaGreatJt
import Derived.KernelRfl
set_option linter.unusedVariables false
set_option maxRecDepth 100000
namespace Go.Proofs.YtahbihcbidkbaaaGreat.Ev
open Go
noncomputable def f131_1 (n : Nat) (F : Fns) (x101 : AV) (h49 : Heap) (x50 : AV) (x51 : AV) (x58 : AV) (x59 : AV) (x60 : AV) (x61 : AV) (x93 : AV) (x94 : AV) (x95 : AV) (x96 : AV) (x97 : AV) (x98 : AV) (x99 : AV) (x100 : AV) (x103 : AV) (x104 : AV) (x105 : AV) (x106 : AV) (x107 : AV) (x108 : AV) (x109 : AV) (x110 : AV) (x111 : AV) : R :=
 bindC (F.plain 187 [x101, (.int .i64 16)] h49) (fun v130 h131 =>
 scal v130 fun v132 =>
 bindC (F.plain 58 [x50] h131) (fun v133 h134 =>
 (opAppend P h134 67 67 x51 v133).bind fun r135 =>
 bindC (F.plain 189 [(.agg [x58, x59, x60, x61]), r135.1] r135.2) (fun v136 h137 =>
 bindC (F.plain 188 [v136, (.int .i64 8)] h137) (fun v138 h139 =>
 scal v138 fun v140 =>
 some (.ret (.tup [(.agg [x93, x94, x95, x96, x97, x98, x99, x100, v132, v140, x103, x104, x105, x106, x107, x108, x109, x110, x111]), (.bool true)]), h139, none))
 (fun v141 h142 => some (.panic v141, h142, none)))
 (fun v143 h144 => some (.panic v143, h144, none)))
 (fun v145 h146 => some (.panic v145, h146, none)))
 (fun v147 h148 => some (.panic v147, h148, none))
noncomputable def f131_2 (n : Nat) (F : Fns) (v112 : AV) (x54 : AV) (x52 : AV) (h49 : Heap) (x101 : AV) (self47 : List AV → Heap → R) (x50 : AV) (x51 : AV) (x53 : AV) (x55 : AV) (x56 : AV) (x57 : AV) (x58 : AV) (x59 : AV) (x60 : AV) (x61 : AV) (x62 : AV) (x63 : AV) (x64 : AV) (x65 : AV) (x66 : AV) (x67 : AV) (x68 : AV) (x69 : AV) (x70 : AV) (x71 : AV) (x72 : AV) (x73 : AV) (x74 : AV) (x75 : AV) (x76 : AV) (x77 : AV) (x78 : AV) (x79 : AV) (x80 : AV) (x81 : AV) (x82 : AV) (x83 : AV) (x84 : AV) (x85 : AV) (x86 : AV) (x87 : AV) (x88 : AV) (x89 : AV) (x90 : AV) (x91 : AV) (x92 : AV) (x93 : AV) (x94 : AV) (x95 : AV) (x96 : AV) (x97 : AV) (x98 : AV) (x99 : AV) (x100 : AV) (x102 : AV) (x103 : AV) (x104 : AV) (x105 : AV) (x106 : AV) (x107 : AV) (x108 : AV) (x109 : AV) (x110 : AV) (x111 : AV) : R :=
 asB v112 fun b113 => cond b113
 (asI x54 fun i114 =>
 elemP x52 i114 9 fun p115 o116 =>
 (h49.rd p115 o116 9).bind fun l117 =>
 un9 l117 fun x118 x119 x120 x121 x122 x123 x124 x125 x126 =>
 (appendA P h49 48 x101 1 [x118, x119]).bind fun r127 =>
 scal r127.1 fun v128 =>
 (binop .add x54 (.int .i64 1)).bind fun v129 =>
 self47 [x50, x51, x52, x53, v129, x55, x56, x57, x58, x59, x60, x61, x62, x63, x64, x65, x66, x67, x68, x69, x70, x71, x72, x73, x74, x75, x76, x77, x78, x79, x80, x81, x82, x83, x84, x85, x86, x87, x88, x89, x90, x91, x92, x93, x94, x95, x96, x97, x98, x99, x100, v128, x102, x103, x104, x105, x106, x107, x108, x109, x110, x111] r127.2)
 (f131_1 n F x101 h49 x50 x51 x58 x59 x60 x61 x93 x94 x95 x96 x97 x98 x99 x100 x103 x104 x105 x106 x107 x108 x109 x110 x111)
noncomputable def f131_3 (n : Nat) (F : Fns) (v34 : AV) (v36 : AV) (v45 : AV) (v46 : AV) (x1 : AV) (x2 : AV) (x3 : AV) (x4 : AV) (x5 : AV) (x6 : AV) (x7 : AV) (x8 : AV) (x9 : AV) (x10 : AV) (x11 : AV) (x12 : AV) (x13 : AV) (x14 : AV) (x15 : AV) (x16 : AV) (x17 : AV) (x18 : AV) (x19 : AV) (v40 : AV) (v41 : AV) (v42 : AV) (h39 : Heap) : R :=
 loopV (fun vs48 h49 self47 => un62 vs48 fun x50 x51 x52 x53 x54 x55 x56 x57 x58 x59 x60 x61 x62 x63 x64 x65 x66 x67 x68 x69 x70 x71 x72 x73 x74 x75 x76 x77 x78 x79 x80 x81 x82 x83 x84 x85 x86 x87 x88 x89 x90 x91 x92 x93 x94 x95 x96 x97 x98 x99 x100 x101 x102 x103 x104 x105 x106 x107 x108 x109 x110 x111 =>
 (binop .lss x54 x53).bind fun v112 =>
 f131_2 n F v112 x54 x52 h49 x101 self47 x50 x51 x53 x55 x56 x57 x58 x59 x60 x61 x62 x63 x64 x65 x66 x67 x68 x69 x70 x71 x72 x73 x74 x75 x76 x77 x78 x79 x80 x81 x82 x83 x84 x85 x86 x87 x88 x89 x90 x91 x92 x93 x94 x95 x96 x97 x98 x99 x100 x102 x103 x104 x105 x106 x107 x108 x109 x110 x111) n [v34, v36, v45, v46, (.int .i64 0), x1, x2, x3, x4, x5, x6, x7, x8, x9, x10, x11, x12, x13, x14, x15, x16, x17, x18, x19, (.int .i64 0), (.int .i64 0), (.int .i64 0), (.int .i64 0), (.int .i64 0), (.int .i64 0), (.int .i64 0), (.int .i64 0), .nilSlice, .nilSlice, (.int .i64 0), (.int .i64 0), (.int .i64 0), (.bool false), (.int .i64 0), (.int .i64 0), (.int .i64 0), (.int .i64 0), (.int .i64 0), (.int .i64 2), v40, v41, (.int .i64 0), (.int .i64 0), (.int .i64 0), (.int .i64 0), v42, .nilSlice, .nilSlice, (.int .i64 0), (.int .i64 0), (.int .i64 0), (.bool false), (.int .i64 0), (.int .i64 0), (.int .i64 0), (.int .i64 0), (.int .i64 0)] h39
noncomputable def f131_4 (n : Nat) (F : Fns) (v32 : AV) (h31 : Heap) (a0 : AV) (x2 : AV) (x8 : AV) (x1 : AV) (x3 : AV) (x4 : AV) (x5 : AV) (x6 : AV) (x7 : AV) (x9 : AV) (x10 : AV) (x11 : AV) (x12 : AV) (x13 : AV) (x14 : AV) (x15 : AV) (x16 : AV) (x17 : AV) (x18 : AV) (x19 : AV) : R :=
 asB v32 fun b33 => cond b33
 (some (.ret (.tup [(.agg [(.int .i64 0), (.int .i64 0), (.int .i64 0), (.int .i64 0), (.int .i64 0), (.int .i64 0), (.int .i64 0), (.int .i64 0), .nilSlice, .nilSlice, (.int .i64 0), (.int .i64 0), (.int .i64 0), (.bool false), (.int .i64 0), (.int .i64 0), (.int .i64 0), (.int .i64 0), (.int .i64 0)]), (.bool false)]), h31, none))
 (bindC (F.plain 25 [a0] h31) (fun v34 h35 =>
 bindC (F.plain 26 [v34] h35) (fun v36 h37 =>
 bindC (F.plain 119 [a0] h37) (fun v38 h39 =>
 scal v38 fun v40 =>
 scal x2 fun v41 =>
 scal x8 fun v42 =>
 (lenA P 67 v36).bind fun v43 =>
 (fold2 min2 x8 [v43]).bind fun v44 =>
 (sliceA P h39 67 v36 (some v44) none none).bind fun v45 =>
 (lenA P 67 v45).bind fun v46 =>
 f131_3 n F v34 v36 v45 v46 x1 x2 x3 x4 x5 x6 x7 x8 x9 x10 x11 x12 x13 x14 x15 x16 x17 x18 x19 v40 v41 v42 h39)
 (fun v149 h150 => none))
 (fun v151 h152 => some (.panic v151, h152, none)))
 (fun v153 h154 => some (.panic v153, h154, none)))
noncomputable def f131_5 (n : Nat) (F : Fns) (v26 : AV) (h25 : Heap) (x1 : AV) (a0 : AV) (x3 : AV) (x2 : AV) (x8 : AV) (x4 : AV) (x5 : AV) (x6 : AV) (x7 : AV) (x9 : AV) (x10 : AV) (x11 : AV) (x12 : AV) (x13 : AV) (x14 : AV) (x15 : AV) (x16 : AV) (x17 : AV) (x18 : AV) (x19 : AV) : R :=
 asB v26 fun b27 => cond b27
 (some (.ret (.tup [(.agg [(.int .i64 0), (.int .i64 0), (.int .i64 0), (.int .i64 0), (.int .i64 0), (.int .i64 0), (.int .i64 0), (.int .i64 0), .nilSlice, .nilSlice, (.int .i64 0), (.int .i64 0), (.int .i64 0), (.bool false), (.int .i64 0), (.int .i64 0), (.int .i64 0), (.int .i64 0), (.int .i64 0)]), (.bool false)]), h25, none))
 ((eqop P true true 3 x1 (.int .i64 1)).bind fun v28 =>
 asB v28 fun b29 => cond b29
 (some (.ret (.tup [(.agg [(.int .i64 0), (.int .i64 0), (.int .i64 0), (.int .i64 0), (.int .i64 0), (.int .i64 0), (.int .i64 0), (.int .i64 0), .nilSlice, .nilSlice, (.int .i64 0), (.int .i64 0), (.int .i64 0), (.bool false), (.int .i64 0), (.int .i64 0), (.int .i64 0), (.int .i64 0), (.int .i64 0)]), (.bool false)]), h25, none))
 (bindC (F.plain 119 [a0] h25) (fun v30 h31 =>
 (eqop P false true 3 x3 v30).bind fun v32 =>
 f131_4 n F v32 h31 a0 x2 x8 x1 x3 x4 x5 x6 x7 x9 x10 x11 x12 x13 x14 x15 x16 x17 x18 x19)
 (fun v155 h156 => some (.panic v155, h156, none))))
noncomputable def f131_6 (n : Nat) (F : Fns) (a0 : AV) (h : Heap) (x1 : AV) (x2 : AV) (x3 : AV) (x4 : AV) (x5 : AV) (x6 : AV) (x7 : AV) (x8 : AV) (x9 : AV) (x10 : AV) (x11 : AV) (x12 : AV) (x13 : AV) (x14 : AV) (x15 : AV) (x16 : AV) (x17 : AV) (x18 : AV) (x19 : AV) : R :=
 bindC (F.plain 119 [a0] h) (fun v20 h21 =>
 (binop .lss v20 (.int .i64 0)).bind fun v22 =>
 asB v22 fun b23 => cond b23
 (some (.ret (.tup [(.agg [(.int .i64 0), (.int .i64 0), (.int .i64 0), (.int .i64 0), (.int .i64 0), (.int .i64 0), (.int .i64 0), (.int .i64 0), .nilSlice, .nilSlice, (.int .i64 0), (.int .i64 0), (.int .i64 0), (.bool false), (.int .i64 0), (.int .i64 0), (.int .i64 0), (.int .i64 0), (.int .i64 0)]), (.bool false)]), h21, none))
 (bindC (F.plain 166 [(.agg [x1, x2, x3, x4, x5, x6, x7, x8, x9, x10, x11, x12, x13, x14, x15, x16, x17, x18, x19])] h21) (fun v24 h25 =>
 (eqop P true true 41 v24 (.int .i64 0)).bind fun v26 =>
 f131_5 n F v26 h25 x1 a0 x3 x2 x8 x4 x5 x6 x7 x9 x10 x11 x12 x13 x14 x15 x16 x17 x18 x19)
 (fun v157 h158 => some (.panic v157, h158, none))))
 (fun v159 h160 => some (.panic v159, h160, none))
/-- countermand/peer.Answer -/
noncomputable def f131 (n : Nat) (F : Fns) (a0 a1 : AV) (h : Heap) : R :=
 unA19 a1 fun x1 x2 x3 x4 x5 x6 x7 x8 x9 x10 x11 x12 x13 x14 x15 x16 x17 x18 x19 =>
 f131_6 n F a0 h x1 x2 x3 x4 x5 x6 x7 x8 x9 x10 x11 x12 x13 x14 x15 x16 x17 x18 x19

noncomputable def f132_1 (n : Nat) (F : Fns) (x40 : AV) (x41 : AV) (v100 : AV) (v101 : AV) (h93 : Heap) : R :=
 loopV (fun vs103 h104 self102 => un5 vs103 fun x105 x106 x107 x108 x109 =>
 (binop .lss x109 x108).bind fun v110 =>
 asB v110 fun b111 => cond b111
 (asI x109 fun i112 =>
 elemP x107 i112 2 fun p113 o114 =>
 (h104.rd p113 o114 2).bind fun l115 =>
 un2 l115 fun x116 x117 =>
 bindC (F.plain 74 [(.agg [x116, x117])] h104) (fun v118 h119 =>
 bindC (F.plain 190 [x105, x106, v118] h119) (fun v120 h121 =>
 unT2 v120 fun x122 x123 =>
 (unop .not x123).bind fun v124 =>
 asB v124 fun b125 => cond b125
 (some (.ret x122, h121, none))
 ((binop .add x109 (.int .i64 1)).bind fun v126 =>
 self102 [x105, x122, x107, x108, v126] h121))
 (fun v127 h128 => some (.panic v127, h128, none)))
 (fun v129 h130 => some (.panic v129, h130, none)))
 (some (.ret x106, h104, none))) n [x40, x41, v100, v101, (.int .i64 0)] h93
noncomputable def f132_2 (n : Nat) (F : Fns) (v64 : AV) (x44 : AV) (x42 : AV) (h39 : Heap) (x40 : AV) (x41 : AV) (self37 : List AV → Heap → R) (x43 : AV) (x45 : AV) (x46 : AV) (x47 : AV) (x48 : AV) (x49 : AV) (x50 : AV) (x51 : AV) (x52 : AV) (x53 : AV) (x54 : AV) (x55 : AV) (x56 : AV) (x57 : AV) (x58 : AV) (x59 : AV) (x60 : AV) (x61 : AV) (x62 : AV) (x63 : AV) : R :=
 asB v64 fun b65 => cond b65
 (asI x44 fun i66 =>
 elemP x42 i66 9 fun p67 o68 =>
 (h39.rd p67 o68 9).bind fun l69 =>
 un9 l69 fun x70 x71 x72 x73 x74 x75 x76 x77 x78 =>
 bindC (F.plain 109 [(.agg [x70, x71, x72, x73, x74, x75, x76, x77, x78])] h39) (fun v79 h80 =>
 bindC (F.plain 190 [x40, x41, v79] h80) (fun v81 h82 =>
 unT2 v81 fun x83 x84 =>
 (binop .add x44 (.int .i64 1)).bind fun v85 =>
 self37 [x40, x83, x42, x43, v85, x45, x46, x47, x48, x49, x50, x51, x52, x53, x54, x55, x56, x57, x58, x59, x60, x61, x62, x63] h82)
 (fun v86 h87 => some (.panic v86, h87, none)))
 (fun v88 h89 => some (.panic v88, h89, none)))
 (bindC (F.plain 25 [x40] h39) (fun v90 h91 =>
 bindC (F.plain 26 [v90] h91) (fun v92 h93 =>
 (lenA P 67 v92).bind fun v94 =>
 (binop .sub v94 x52).bind fun v95 =>
 (binop .lss v95 (.int .i64 0)).bind fun v96 =>
 asB v96 fun b97 => cond b97
 (some (.ret x41, h93, none))
 ((lenA P 139 x53).bind fun v98 =>
 (fold2 min2 v95 [v98]).bind fun v99 =>
 (sliceA P h93 139 x53 (some v99) none none).bind fun v100 =>
 (lenA P 139 v100).bind fun v101 =>
 f132_1 n F x40 x41 v100 v101 h93))
 (fun v131 h132 => none))
 (fun v133 h134 => none))
noncomputable def f132_3 (n : Nat) (F : Fns) (a0 : AV) (h25 : Heap) (x3 : AV) (x10 : AV) (x1 : AV) (x2 : AV) (x4 : AV) (x5 : AV) (x6 : AV) (x7 : AV) (x8 : AV) (x9 : AV) (x11 : AV) (x12 : AV) (x13 : AV) (x14 : AV) (x15 : AV) (x16 : AV) (x17 : AV) (x18 : AV) (x19 : AV) : R :=
 bindC (F.plain 119 [a0] h25) (fun v30 h31 =>
 (eqop P false true 3 x3 v30).bind fun v32 =>
 asB v32 fun b33 => cond b33
 (some (.ret .nilSlice, h31, none))
 (bindC (F.plain 91 [a0] h31) (fun v34 h35 =>
 (lenA P 67 x10).bind fun v36 =>
 loopV (fun vs38 h39 self37 => un24 vs38 fun x40 x41 x42 x43 x44 x45 x46 x47 x48 x49 x50 x51 x52 x53 x54 x55 x56 x57 x58 x59 x60 x61 x62 x63 =>
 (binop .lss x44 x43).bind fun v64 =>
 f132_2 n F v64 x44 x42 h39 x40 x41 self37 x43 x45 x46 x47 x48 x49 x50 x51 x52 x53 x54 x55 x56 x57 x58 x59 x60 x61 x62 x63) n [v34, .nilSlice, x10, v36, (.int .i64 0), x1, x2, x3, x4, x5, x6, x7, x8, x9, x10, x11, x12, x13, x14, x15, x16, x17, x18, x19] h35)
 (fun v135 h136 => some (.panic v135, h136, none))))
 (fun v137 h138 => some (.panic v137, h138, none))
noncomputable def f132_4 (n : Nat) (F : Fns) (a0 : AV) (h : Heap) (x1 : AV) (x2 : AV) (x3 : AV) (x4 : AV) (x5 : AV) (x6 : AV) (x7 : AV) (x8 : AV) (x9 : AV) (x10 : AV) (x11 : AV) (x12 : AV) (x13 : AV) (x14 : AV) (x15 : AV) (x16 : AV) (x17 : AV) (x18 : AV) (x19 : AV) : R :=
 bindC (F.plain 119 [a0] h) (fun v20 h21 =>
 (binop .lss v20 (.int .i64 0)).bind fun v22 =>
 asB v22 fun b23 => cond b23
 (some (.ret .nilSlice, h21, none))
 (bindC (F.plain 166 [(.agg [x1, x2, x3, x4, x5, x6, x7, x8, x9, x10, x11, x12, x13, x14, x15, x16, x17, x18, x19])] h21) (fun v24 h25 =>
 (eqop P true true 41 v24 (.int .i64 0)).bind fun v26 =>
 asB v26 fun b27 => cond b27
 (some (.ret .nilSlice, h25, none))
 ((eqop P true true 3 x1 (.int .i64 2)).bind fun v28 =>
 asB v28 fun b29 => cond b29
 (some (.ret .nilSlice, h25, none))
 (f132_3 n F a0 h25 x3 x10 x1 x2 x4 x5 x6 x7 x8 x9 x11 x12 x13 x14 x15 x16 x17 x18 x19)))
 (fun v139 h140 => some (.panic v139, h140, none))))
 (fun v141 h142 => some (.panic v141, h142, none))
/-- countermand/peer.Take -/
noncomputable def f132 (n : Nat) (F : Fns) (a0 a1 : AV) (h : Heap) : R :=
 unA19 a1 fun x1 x2 x3 x4 x5 x6 x7 x8 x9 x10 x11 x12 x13 x14 x15 x16 x17 x18 x19 =>
 f132_4 n F a0 h x1 x2 x3 x4 x5 x6 x7 x8 x9 x10 x11 x12 x13 x14 x15 x16 x17 x18 x19

/-- countermand/record.Ack -/
noncomputable def f133 (n : Nat) (F : Fns) (a0 : AV) (h : Heap) : R :=
 unA4 a0 fun x1 x2 x3 x4 =>
 some (.ret (.agg [(.int .i64 4), (.int .i64 0), (.int .i64 0), (.int .i64 0), (.int .i64 0), (.int .i64 0), (.int .i64 0), (.int .i64 0), (.int .i64 0), (.int .i64 0), (.int .i64 0), (.int .i64 0), x1, x2, x3, x4, (.int .i64 0)]), h, none)

noncomputable def f134_1 (n : Nat) (F : Fns) (v60 : AV) (a0 : AV) (h23 : Heap) (x13 : AV) (x14 : AV) (x15 : AV) (x16 : AV) (x17 : AV) : R :=
 asB v60 fun b61 => cond b61
 (notNil a0 fun v62 =>
 asPtr v62 fun p63 o64 =>
 (h23.rd p63 (o64 + 0) 1).bind fun l65 =>
 un1 l65 fun x66 =>
 bindC (F.plain 195 [x66, (.agg [x13, x14, x15, x16]), x17] h23) (fun v67 h68 =>
 bindC (F.plain 194 [v67] h68) (fun v69 h70 =>
 some (.ret v69, h70, none))
 (fun v71 h72 => some (.panic v71, h72, none)))
 (fun v73 h74 => some (.panic v73, h74, none)))
 (notNil a0 fun v75 =>
 asPtr v75 fun p76 o77 =>
 (h23.rd p76 (o77 + 0) 1).bind fun l78 =>
 un1 l78 fun x79 =>
 bindC (F.plain 196 [x79, (.agg [x13, x14, x15, x16])] h23) (fun v80 h81 =>
 bindC (F.plain 194 [v80] h81) (fun v82 h83 =>
 some (.ret v82, h83, none))
 (fun v84 h85 => some (.panic v84, h85, none)))
 (fun v86 h87 => some (.panic v86, h87, none)))
noncomputable def f134_2 (n : Nat) (F : Fns) (v26 : AV) (a0 : AV) (h23 : Heap) (x2 : AV) (x3 : AV) (x4 : AV) (x5 : AV) (x6 : AV) (x7 : AV) (x8 : AV) (x9 : AV) (x10 : AV) (x1 : AV) (x11 : AV) (x12 : AV) (x13 : AV) (x14 : AV) (x15 : AV) (x16 : AV) (x17 : AV) : R :=
 asB v26 fun b27 => cond b27
 (notNil a0 fun v28 =>
 asPtr v28 fun p29 o30 =>
 (h23.rd p29 (o30 + 1) 1).bind fun l31 =>
 un1 l31 fun x32 =>
 bindC (F.plain 192 [x32, (.agg [x2, x3, x4, x5, x6, x7, x8, x9, x10])] h23) (fun v33 h34 =>
 (eqop P true false 41 v33 (.int .i64 0)).bind fun v35 =>
 asB v35 fun b36 => cond b36
 (bindC (F.plain 197 [a0] h34) (fun v37 h38 =>
 unT0 v37 fun _u =>
 some (.ret v33, h38, none))
 (fun v39 h40 => some (.panic v39, h40, none)))
 (some (.ret v33, h34, none)))
 (fun v41 h42 => some (.panic v41, h42, none)))
 ((eqop P true false 3 x1 (.int .i64 2)).bind fun v43 =>
 asB v43 fun b44 => cond b44
 (notNil a0 fun v45 =>
 asPtr v45 fun p46 o47 =>
 (h23.rd p46 (o47 + 1) 1).bind fun l48 =>
 un1 l48 fun x49 =>
 bindC (F.plain 193 [x49, (.agg [x11, x12])] h23) (fun v50 h51 =>
 (eqop P true false 41 v50 (.int .i64 0)).bind fun v52 =>
 asB v52 fun b53 => cond b53
 (bindC (F.plain 197 [a0] h51) (fun v54 h55 =>
 unT0 v54 fun _u =>
 some (.ret v50, h55, none))
 (fun v56 h57 => some (.panic v56, h57, none)))
 (some (.ret v50, h51, none)))
 (fun v58 h59 => some (.panic v58, h59, none)))
 ((eqop P true false 3 x1 (.int .i64 3)).bind fun v60 =>
 f134_1 n F v60 a0 h23 x13 x14 x15 x16 x17))
/-- (*countermand/state.State).Do -/
noncomputable def f134 (n : Nat) (F : Fns) (a0 a1 : AV) (h : Heap) : R :=
 unA17 a1 fun x1 x2 x3 x4 x5 x6 x7 x8 x9 x10 x11 x12 x13 x14 x15 x16 x17 =>
 bindC (F.plain 54 [a0] h) (fun v18 h19 =>
 (unop .not v18).bind fun v20 =>
 asB v20 fun b21 => cond b21
 (some (.ret (.int .i64 9), h19, none))
 (bindC (F.plain 191 [(.agg [x1, x2, x3, x4, x5, x6, x7, x8, x9, x10, x11, x12, x13, x14, x15, x16, x17])] h19) (fun v22 h23 =>
 (eqop P true true 41 v22 (.int .i64 0)).bind fun v24 =>
 asB v24 fun b25 => cond b25
 (some (.ret v22, h23, none))
 ((eqop P true false 3 x1 (.int .i64 1)).bind fun v26 =>
 f134_2 n F v26 a0 h23 x2 x3 x4 x5 x6 x7 x8 x9 x10 x1 x11 x12 x13 x14 x15 x16 x17))
 (fun v88 h89 => some (.panic v88, h89, none))))
 (fun v90 h91 => some (.panic v90, h91, none))

noncomputable def f135_1 (n : Nat) (F : Fns) (v74 : AV) (h73 : Heap) (a1 : AV) (a0 : AV) (x7 : AV) : R :=
 asB v74 fun b75 => cond b75
 (some (.ret (.int .i64 19), h73, none))
 ((opAppend P (h73.push (.cells [] 1)) 155 155 (.slice h73.next 0 0 0 (.ex 0)) a1).bind fun r76 =>
 (opBuildSlice P r76.2 199 1 [(0, r76.1)]).bind fun r77 =>
 notNil a0 fun v78 =>
 asPtr v78 fun p79 o80 =>
 scal r77.1 fun v81 =>
 (r77.2.wr p79 (o80 + 2) [v81]).bind fun h82 =>
 notNil a0 fun v83 =>
 asPtr v83 fun p84 o85 =>
 (h82.wr p84 (o85 + 5) [.nilSlice]).bind fun h86 =>
 (lenA P 155 x7).bind fun v87 =>
 notNil a0 fun v88 =>
 asPtr v88 fun p89 o90 =>
 (h86.wr p89 (o90 + 3) [(.int .i64 1)]).bind fun h91 =>
 notNil a0 fun v92 =>
 asPtr v92 fun p93 o94 =>
 scal v87 fun v95 =>
 (h91.wr p93 (o94 + 4) [v95]).bind fun h96 =>
 some (.ret (.int .i64 0), h96, none))
noncomputable def f135_2 (n : Nat) (F : Fns) (v48 : AV) (h35 : Heap) (p38 : Nat) (o39 : Nat) (l40 : List AV) (x41 : AV) (x42 : AV) (v36 : AV) (a0 : AV) (x7 : AV) (a1 : AV) : R :=
 asI v48 fun i49 =>
 asI v48 fun i50 =>
 (opMakeSlice P h35 155 i49 i50).bind fun r51 =>
 same (r51.2.rd p38 (o39 + 0) 2) l40
 (bindC (F.plain 115 [(.agg [x41, x42]), v36, (.int .i64 0), r51.1] r51.2) (fun v52 h53 =>
 (unop .not v52).bind fun v54 =>
 asB v54 fun b55 => cond b55
 (some (.ret (.int .i64 19), h53, none))
 (notNil a0 fun v56 =>
 asPtr v56 fun p57 o58 =>
 (h53.rd p57 (o58 + 0) 2).bind fun l59 =>
 un2 l59 fun x60 x61 =>
 bindC (F.plain 115 [(.agg [x60, x61]), v36, (.int .i64 0), x7] h53) (fun v62 h63 =>
 (unop .not v62).bind fun v64 =>
 asB v64 fun b65 => cond b65
 (some (.ret (.int .i64 19), h63, none))
 (notNil a0 fun v66 =>
 asPtr v66 fun p67 o68 =>
 (h63.rd p67 (o68 + 0) 2).bind fun l69 =>
 un2 l69 fun x70 x71 =>
 bindC (F.plain 198 [(.agg [x70, x71]), v36] h63) (fun v72 h73 =>
 (unop .not v72).bind fun v74 =>
 f135_1 n F v74 h73 a1 a0 x7)
 (fun v97 h98 => some (.panic v97, h98, none))))
 (fun v99 h100 => some (.panic v99, h100, none))))
 (fun v101 h102 => some (.panic v101, h102, none)))
noncomputable def f135_3 (n : Nat) (F : Fns) (x24 : AV) (h6 : Heap) (a0 : AV) (x7 : AV) (a1 : AV) : R :=
 bindC (F.plain 114 [x24] h6) (fun v25 h26 =>
 asB v25 fun b27 => cond b27
 (some (.ret (.int .i64 19), h26, none))
 (notNil a0 fun v28 =>
 asPtr v28 fun p29 o30 =>
 (h26.rd p29 (o30 + 0) 2).bind fun l31 =>
 un2 l31 fun x32 x33 =>
 bindC (F.plain 116 [(.agg [x32, x33])] h26) (fun v34 h35 =>
 (binop .sub (.int .i64 1) v34).bind fun v36 =>
 notNil a0 fun v37 =>
 asPtr v37 fun p38 o39 =>
 (h35.rd p38 (o39 + 0) 2).bind fun l40 =>
 un2 l40 fun x41 x42 =>
 notNil a0 fun v43 =>
 asPtr v43 fun p44 o45 =>
 (h35.rd p44 ((o45 + 0) + 1) 1).bind fun l46 =>
 un1 l46 fun x47 =>
 (binop .mul x47 (.int .i64 32)).bind fun v48 =>
 f135_2 n F v48 h35 p38 o39 l40 x41 x42 v36 a0 x7 a1)
 (fun v103 h104 => some (.panic v103, h104, none))))
 (fun v105 h106 => some (.panic v105, h106, none))
noncomputable def f135_4 (n : Nat) (F : Fns) (v3 : AV) (h2 : Heap) (a1 : AV) (a0 : AV) : R :=
 asB v3 fun b4 => cond b4
 (some (.ret (.int .i64 9), h2, none))
 (bindC (F.plain 172 [a1] h2) (fun v5 h6 =>
 unT2 v5 fun x7 x8 =>
 (eqop P true true 41 x8 (.int .i64 0)).bind fun v9 =>
 asB v9 fun b10 => cond b10
 (some (.ret x8, h6, none))
 ((lenA P 155 x7).bind fun v11 =>
 notNil a0 fun v12 =>
 asPtr v12 fun p13 o14 =>
 (h6.rd p13 ((o14 + 0) + 1) 1).bind fun l15 =>
 un1 l15 fun x16 =>
 (binop .mul x16 (.int .i64 32)).bind fun v17 =>
 (binop .gtr v11 v17).bind fun v18 =>
 asB v18 fun b19 => cond b19
 (some (.ret (.int .i64 10), h6, none))
 (notNil a0 fun v20 =>
 asPtr v20 fun p21 o22 =>
 (h6.rd p21 ((o22 + 0) + 0) 1).bind fun l23 =>
 un1 l23 fun x24 =>
 f135_3 n F x24 h6 a0 x7 a1)))
 (fun v107 h108 => some (.panic v107, h108, none)))
/-- (*countermand/wal.Log).Swap -/
noncomputable def f135 (n : Nat) (F : Fns) (a0 a1 : AV) (h : Heap) : R :=
 bindC (F.plain 113 [a0] h) (fun v1 h2 =>
 (unop .not v1).bind fun v3 =>
 f135_4 n F v3 h2 a1 a0)
 (fun v109 h110 => some (.panic v109, h110, none))

noncomputable def f136_1 (n : Nat) (F : Fns) (self18 : List AV → Heap → R) (r40 : AV × Heap) (x22 : AV) (x23 : AV) (x24 : AV) (x34 : AV) (v41 : AV) : R :=
 loopV (fun vs43 h44 self42 => un7 vs43 fun x45 x46 x47 x48 x49 x50 x51 =>
 (binop .lss x51 x50).bind fun v52 =>
 asB v52 fun b53 => cond b53
 (asI x51 fun i54 =>
 elemP x49 i54 12 fun p55 o56 =>
 (h44.rd p55 o56 12).bind fun l57 =>
 un12 l57 fun x58 x59 x60 x61 x62 x63 x64 x65 x66 x67 x68 x69 =>
 bindC (F.plain 201 [(.agg [x58, x59, x60, x61, x62, x63, x64, x65, x66, x67, x68, x69])] h44) (fun v70 h71 =>
 (opAppend P h71 155 155 x45 v70).bind fun r72 =>
 (binop .add x51 (.int .i64 1)).bind fun v73 =>
 self42 [r72.1, x46, x47, x48, x49, x50, v73] r72.2)
 (fun v74 h75 => some (.panic v74, h75, none)))
 ((binop .add x48 (.int .i64 1)).bind fun v76 =>
 self18 [x45, x46, x47, v76] h44)) n [r40.1, x22, x23, x24, x34, v41, (.int .i64 0)] r40.2
noncomputable def f136_2 (n : Nat) (F : Fns) (a0 : AV) (h14 : Heap) (v13 : AV) : R :=
 bindC (F.plain 200 [a0] h14) (fun v15 h16 =>
 (lenA P 300 v15).bind fun v17 =>
 loopV (fun vs19 h20 self18 => un4 vs19 fun x21 x22 x23 x24 =>
 (binop .lss x24 x23).bind fun v25 =>
 asB v25 fun b26 => cond b26
 (asI x24 fun i27 =>
 elemP x22 i27 4 fun p28 o29 =>
 (h20.rd p28 o29 4).bind fun l30 =>
 un4 l30 fun x31 x32 x33 x34 =>
 (convertA P 3 5 x33).bind fun v35 =>
 (lenA P 173 x34).bind fun v36 =>
 (convertA P 3 5 v36).bind fun v37 =>
 scal v35 fun v38 =>
 scal v37 fun v39 =>
 (appendA P h20 5 x21 2 [v38, v39]).bind fun r40 =>
 (lenA P 173 x34).bind fun v41 =>
 f136_1 n F self18 r40 x22 x23 x24 x34 v41)
 (some (.ret x21, h20, none))) n [v13, v15, v17, (.int .i64 0)] h16)
 (fun v77 h78 => some (.panic v77, h78, none))
/-- countermand/image.Put -/
noncomputable def f136 (n : Nat) (F : Fns) (a0 : AV) (h : Heap) : R :=
 bindC (F.plain 119 [a0] h) (fun v1 h2 =>
 (binop .lss v1 (.int .i64 0)).bind fun v3 =>
 asB v3 fun b4 => cond b4
 (some (.ret .nilSlice, h2, none))
 (bindC (F.plain 25 [a0] h2) (fun v5 h6 =>
 bindC (F.plain 26 [v5] h6) (fun v7 h8 =>
 bindC (F.plain 199 [.nilSlice, v7] h8) (fun v9 h10 =>
 bindC (F.plain 58 [v5] h10) (fun v11 h12 =>
 bindC (F.plain 199 [v9, v11] h12) (fun v13 h14 =>
 f136_2 n F a0 h14 v13)
 (fun v79 h80 => some (.panic v79, h80, none)))
 (fun v81 h82 => some (.panic v81, h82, none)))
 (fun v83 h84 => some (.panic v83, h84, none)))
 (fun v85 h86 => some (.panic v85, h86, none)))
 (fun v87 h88 => some (.panic v87, h88, none))))
 (fun v89 h90 => some (.panic v89, h90, none))

/-- (*countermand/disk.Disk).Arm -/
noncomputable def f137 (n : Nat) (F : Fns) (a0 a1 : AV) (h : Heap) : R :=
 (eqop P true true 120 a0 (.ptr none)).bind fun v1 =>
 asB v1 fun b2 => cond b2
 (notNil a0 fun v3 =>
 asPtr v3 fun p4 o5 =>
 (h.rd p4 (o5 + 0) 1).bind fun l6 =>
 un1 l6 fun x7 =>
 asB x7 fun b8 => cond b8
 (notNil a0 fun v9 =>
 asPtr v9 fun p10 o11 =>
 (h.rd p10 (o11 + 1) 1).bind fun l12 =>
 un1 l12 fun x13 =>
 (unop .not x13).bind fun v14 =>
 asB v14 fun b15 => cond b15
 ((fold2 max2 a1 [(.int .i64 (-1))]).bind fun v16 =>
 notNil a0 fun v17 =>
 asPtr v17 fun p18 o19 =>
 scal v16 fun v20 =>
 (h.wr p18 (o19 + 2) [v20]).bind fun h21 =>
 some (.ret (.tup []), h21, none))
 (some (.ret (.tup []), h, none)))
 (some (.ret (.tup []), h, none)))
 (some (.ret (.tup []), h, none))

/-- slices.Clone[[]byte,byte] -/
noncomputable def f139 (n : Nat) (F : Fns) (a0 : AV) (h : Heap) : R :=
 (eqop P true false 155 a0 .nilSlice).bind fun v1 =>
 asB v1 fun b2 => cond b2
 (some (.ret .nilSlice, h, none))
 ((opAppend P (h.push (.cells [] 1)) 155 155 (.slice h.next 0 0 0 (.ex 0)) a0).bind fun r3 =>
 some (.ret r3.1, r3.2, none))

noncomputable def f140_1 (n : Nat) (F : Fns) (h25 : Heap) (p33 : Nat) (o34 : Nat) (x26 : AV) (x29 : AV) (self23 : List AV → Heap → R) (x27 : AV) (x28 : AV) : R :=
 (h25.rd p33 o34 5).bind fun l35 =>
 un5 l35 fun x36 x37 x38 x39 x40 =>
 notNil x26 fun v41 =>
 asPtr v41 fun p42 o43 =>
 (h25.rd p42 (o43 + 2) 1).bind fun l44 =>
 un1 l44 fun x45 =>
 bindC (F.plain 203 [(.agg [x36, x37, x38, x39])] h25) (fun v46 h47 =>
 same (h47.rd p42 (o43 + 2) 1) l44
 (bindC (F.plain 161 [x40] h47) (fun v48 h49 =>
 same (h49.rd p42 (o43 + 2) 1) l44
 (unA4 v46 fun x50 x51 x52 x53 =>
 scal v48 fun v54 =>
 (appendA P h49 177 x45 1 [x50, x51, x52, x53, v54]).bind fun r55 =>
 notNil x26 fun v56 =>
 asPtr v56 fun p57 o58 =>
 scal r55.1 fun v59 =>
 (r55.2.wr p57 (o58 + 2) [v59]).bind fun h60 =>
 (binop .add x29 (.int .i64 1)).bind fun v61 =>
 self23 [x26, x27, x28, v61] h60))
 (fun v62 h63 => some (.panic v62, h63, none))))
 (fun v64 h65 => none)
noncomputable def f140_2 (n : Nat) (F : Fns) (x7 : AV) (h : Heap) (a0 : AV) : R :=
 (unop .not x7).bind fun v8 =>
 asB v8 fun b9 => cond b9
 (some (.ret (.ptr none), h, none))
 (notNil a0 fun v10 =>
 asPtr v10 fun p11 o12 =>
 (h.rd p11 (o12 + 1) 1).bind fun l13 =>
 un1 l13 fun x14 =>
 bindC (F.plain 202 [x14] h) (fun v15 h16 =>
 notNil a0 fun v17 =>
 asPtr v17 fun p18 o19 =>
 (h16.rd p18 (o19 + 2) 1).bind fun l20 =>
 un1 l20 fun x21 =>
 (lenA P 172 x21).bind fun v22 =>
 loopV (fun vs24 h25 self23 => un4 vs24 fun x26 x27 x28 x29 =>
 (binop .lss x29 x28).bind fun v30 =>
 asB v30 fun b31 => cond b31
 (asI x29 fun i32 =>
 elemP x27 i32 5 fun p33 o34 =>
 f140_1 n F h25 p33 o34 x26 x29 self23 x27 x28)
 (some (.ret x26, h25, none))) n [v15, x21, v22, (.int .i64 0)] h16)
 (fun v66 h67 => some (.panic v66, h67, none)))
/-- (*countermand/ledger.Ledger).Clone -/
noncomputable def f140 (n : Nat) (F : Fns) (a0 : AV) (h : Heap) : R :=
 (eqop P true false 101 a0 (.ptr none)).bind fun v1 =>
 asB v1 fun b2 => cond b2
 (some (.ret (.ptr none), h, none))
 (notNil a0 fun v3 =>
 asPtr v3 fun p4 o5 =>
 (h.rd p4 (o5 + 0) 1).bind fun l6 =>
 un1 l6 fun x7 =>
 f140_2 n F x7 h a0)

/-- slices.Clone[[][32]byte,[32]byte] -/
noncomputable def f141 (n : Nat) (F : Fns) (a0 : AV) (h : Heap) : R :=
 (eqop P true false 185 a0 .nilSlice).bind fun v1 =>
 asB v1 fun b2 => cond b2
 (some (.ret .nilSlice, h, none))
 ((opAppend P (h.push (.cells [] 32)) 185 185 (.slice h.next 0 0 0 (.ex 0)) a0).bind fun r3 =>
 some (.ret r3.1, r3.2, none))

/-- slices.IndexFunc[[]countermand/ledger.line,countermand/ledger.line] -/
noncomputable def f142 (n : Nat) (F : Fns) (a0 a1 : AV) (h : Heap) : R :=
 (lenA P 172 a0).bind fun v1 =>
 loopV (fun vs3 h4 self2 => un4 vs3 fun x5 x6 x7 x8 =>
 (binop .lss x8 x7).bind fun v9 =>
 asB v9 fun b10 => cond b10
 (asI x8 fun i11 =>
 elemP x5 i11 5 fun p12 o13 =>
 (h4.rd p12 o13 5).bind fun l14 =>
 un5 l14 fun x15 x16 x17 x18 x19 =>
 bindC (F.callV x6 [(.agg [x15, x16, x17, x18, x19])] h4) (fun v20 h21 =>
 asB v20 fun b22 => cond b22
 (some (.ret x8, h21, none))
 ((binop .add x8 (.int .i64 1)).bind fun v23 =>
 self2 [x5, x6, x7, v23] h21))
 (fun v24 h25 => some (.panic v24, h25, none)))
 (some (.ret (.int .i64 (-1)), h4, none))) n [a0, a1, v1, (.int .i64 0)] h

/-- slices.ContainsFunc[[]countermand/entry.Entry,countermand/entry.Entry] -/
noncomputable def f143 (n : Nat) (F : Fns) (a0 a1 : AV) (h : Heap) : R :=
 bindC (F.plain 204 [a0, a1] h) (fun v1 h2 =>
 (binop .geq v1 (.int .i64 0)).bind fun v3 =>
 some (.ret v3, h2, none))
 (fun v4 h5 => some (.panic v4, h5, none))

/-- countermand/entry.Open -/
noncomputable def f144 (n : Nat) (F : Fns) (a0 : AV) (h : Heap) : R :=
 unA12 a0 fun x1 x2 x3 x4 x5 x6 x7 x8 x9 x10 x11 x12 =>
 (unop .not x9).bind fun v13 =>
 asB v13 fun b14 => cond b14
 (some (.ret (.bool true), h, none))
 (some (.ret x10, h, none))

/-- countermand/chain.top -/
noncomputable def f145 (n : Nat) (F : Fns) (a0 : AV) (h : Heap) : R :=
 unA4 a0 fun x1 x2 x3 x4 =>
 (lenA P 173 x4).bind fun v5 =>
 (eqop P true false 3 v5 (.int .i64 0)).bind fun v6 =>
 asB v6 fun b7 => cond b7
 (some (.ret (.tup [(.agg [(.int .i64 0), (.int .i64 0), (.int .i64 0), (.int .i64 0), (.int .i64 0), (.int .i64 0), (.int .i64 0), (.int .i64 0), (.bool false), (.bool false), (.int .i64 0), (.int .i64 0)]), (.bool false)]), h, none))
 ((lenA P 173 x4).bind fun v8 =>
 (binop .sub v8 (.int .i64 1)).bind fun v9 =>
 asI v9 fun i10 =>
 elemP x4 i10 12 fun p11 o12 =>
 (h.rd p11 o12 12).bind fun l13 =>
 un12 l13 fun x14 x15 x16 x17 x18 x19 x20 x21 x22 x23 x24 x25 =>
 some (.ret (.tup [(.agg [x14, x15, x16, x17, x18, x19, x20, x21, x22, x23, x24, x25]), (.bool true)]), h, none))

/-- countermand/entry.Dead -/
noncomputable def f146 (n : Nat) (F : Fns) (a0 a1 a2 : AV) (h : Heap) : R :=
 unA12 a0 fun x1 x2 x3 x4 x5 x6 x7 x8 x9 x10 x11 x12 =>
 unA5 a1 fun x13 x14 x15 x16 x17 =>
 bindC (F.plain 205 [(.agg [x1, x2, x3, x4, x5, x6, x7, x8, x9, x10, x11, x12])] h) (fun v18 h19 =>
 unT2 v18 fun x20 x21 =>
 bindC (F.plain 144 [(.agg [x1, x2, x3, x4, x5, x6, x7, x8, x9, x10, x11, x12])] h19) (fun v22 h23 =>
 asB v22 fun b24 => cond b24
 ((binop .geq x20 x15).bind fun v25 =>
 asB v25 fun b26 => cond b26
 (bindC (F.plain 206 [x16, x17, x20, x21] h23) (fun v27 h28 =>
 (binop .geq a2 v27).bind fun v29 =>
 some (.ret v29, h28, none))
 (fun v30 h31 => some (.panic v30, h31, none)))
 (some (.ret (.bool false), h23, none)))
 (some (.ret (.bool false), h23, none)))
 (fun v32 h33 => some (.panic v32, h33, none)))
 (fun v34 h35 => some (.panic v34, h35, none))

/-- (*countermand/disk.Disk).Len -/
noncomputable def f147 (n : Nat) (F : Fns) (a0 : AV) (h : Heap) : R :=
 (eqop P true false 120 a0 (.ptr none)).bind fun v1 =>
 asB v1 fun b2 => cond b2
 (some (.ret (.int .i64 0), h, none))
 (notNil a0 fun v3 =>
 asPtr v3 fun p4 o5 =>
 (h.rd p4 (o5 + 4) 1).bind fun l6 =>
 un1 l6 fun x7 =>
 (lenA P 185 x7).bind fun v8 =>
 some (.ret v8, h, none))

/-- (countermand/wal.plate).octets -/
noncomputable def f148 (n : Nat) (F : Fns) (a0 a1 : AV) (h : Heap) : R :=
 unA2 a0 fun x1 x2 =>
 loopV (fun vs4 h5 self3 => un6 vs4 fun x6 x7 x8 x9 x10 x11 =>
 (binop .lss x9 x8).bind fun v12 =>
 asB v12 fun b13 => cond b13
 ((binop .mul x6 x11).bind fun v14 =>
 (binop .add (.int .i64 1) v14).bind fun v15 =>
 (binop .add v15 x9).bind fun v16 =>
 bindC (F.plain 165 [x10, v16] h5) (fun v17 h18 =>
 unT2 v17 fun x19 x20 =>
 (opAppend P h18 155 155 x7 x19).bind fun r21 =>
 (binop .add x9 (.int .i64 1)).bind fun v22 =>
 self3 [x6, r21.1, x8, v22, x10, x11] r21.2)
 (fun v23 h24 => some (.panic v23, h24, none)))
 (some (.ret x7, h5, none))) n [a1, .nilSlice, x2, (.int .i64 0), x1, x2] h

/-- countermand/frame.All -/
noncomputable def f149 (n : Nat) (F : Fns) (a0 : AV) (h : Heap) : R :=
 loopV (fun vs2 h3 self1 => un3 vs2 fun x4 x5 x6 =>
 (sliceA P h3 155 x4 (some x6) none none).bind fun v7 =>
 bindC (F.plain 126 [v7] h3) (fun v8 h9 =>
 unT3 v8 fun x10 x11 x12 =>
 (unop .not x12).bind fun v13 =>
 asB v13 fun b14 => cond b14
 (some (.ret (.tup [x5, x6]), h9, none))
 (scal x10 fun v15 =>
 (appendA P h9 155 x5 1 [v15]).bind fun r16 =>
 (binop .add x6 x11).bind fun v17 =>
 self1 [x4, r16.1, v17] r16.2))
 (fun v18 h19 => some (.panic v18, h19, none))) n [a0, .nilSlice, (.int .i64 0)] h

/-- countermand/state.New -/
noncomputable def f150 (n : Nat) (F : Fns) (a0 : AV) (h : Heap) : R :=
 bindC (F.plain 17 [a0, (.int .i64 0), (.int .i64 3)] h) (fun v1 h2 =>
 bindC (F.plain 202 [v1] h2) (fun v3 h4 =>
 bindC (F.plain 207 [] h4) (fun v5 h6 =>
 scal v3 fun v7 =>
 scal v5 fun v8 =>
 scal v1 fun v9 =>
 let h10 := h6.push (.cells [v7, v8, v9] 1)
 some (.ret (.ptr (some (h6.next, 0))), h10, none))
 (fun v11 h12 => some (.panic v11, h12, none)))
 (fun v13 h14 => some (.panic v13, h14, none)))
 (fun v15 h16 => some (.panic v15, h16, none))

noncomputable def f151_1 (n : Nat) (F : Fns) (v3 : AV) (h2 : Heap) (a0 : AV) : R :=
 asB v3 fun b4 => cond b4
 (some (.ret .nilSlice, h2, none))
 (notNil a0 fun v5 =>
 asPtr v5 fun p6 o7 =>
 (h2.rd p6 (o7 + 2) 1).bind fun l8 =>
 un1 l8 fun x9 =>
 (lenA P 199 x9).bind fun v10 =>
 loopV (fun vs12 h13 self11 => un4 vs12 fun x14 x15 x16 x17 =>
 (binop .lss x17 x16).bind fun v18 =>
 asB v18 fun b19 => cond b19
 (asI x17 fun i20 =>
 elemP x15 i20 1 fun p21 o22 =>
 (h13.rd p21 o22 1).bind fun l23 =>
 un1 l23 fun x24 =>
 (opAppend P (h13.push (.cells [] 1)) 155 155 (.slice h13.next 0 0 0 (.ex 0)) x24).bind fun r25 =>
 scal r25.1 fun v26 =>
 (appendA P r25.2 155 x14 1 [v26]).bind fun r27 =>
 (binop .add x17 (.int .i64 1)).bind fun v28 =>
 self11 [r27.1, x15, x16, v28] r27.2)
 (some (.ret x14, h13, none))) n [.nilSlice, x9, v10, (.int .i64 0)] h2)
/-- (*countermand/wal.Log).Records -/
noncomputable def f151 (n : Nat) (F : Fns) (a0 : AV) (h : Heap) : R :=
 bindC (F.plain 113 [a0] h) (fun v1 h2 =>
 (unop .not v1).bind fun v3 =>
 f151_1 n F v3 h2 a0)
 (fun v29 h30 => some (.panic v29, h30, none))

noncomputable def f152_1 (n : Nat) (F : Fns) (a0 : AV) (a1 : AV) (h2 : Heap) (h : Heap) (h1 : Heap) : R :=
 bindC (F.plain 209 [a0, a1] h2) (fun v3 h4 =>
 scal v3 fun v5 =>
 (h4.wr h.next 0 [v5]).bind fun h6 =>
 (h6.wr h1.next 0 [(.int .i64 0)]).bind fun h7 =>
 bindD (F.defers [(.fn 208 [] [(.ptr (some (h.next, 0))), (.ptr (some (h1.next, 0)))])] none h7) (fun h8 =>
 (h8.rd h.next 0 1).bind fun l11 =>
 un1 l11 fun x12 =>
 (h8.rd h1.next 0 1).bind fun l13 =>
 un1 l13 fun x14 =>
 some (.ret (.tup [x12, x14]), h8, none))
 (fun v9 h10 => some (.panic v9, h10, none)))
 (fun v15 h16 => bindD (F.defers [(.fn 208 [] [(.ptr (some (h.next, 0))), (.ptr (some (h1.next, 0)))])] (some v15) h16) (fun h17 =>
 (h17.rd h.next 0 1).bind fun l20 =>
 un1 l20 fun x21 =>
 (h17.rd h1.next 0 1).bind fun l22 =>
 un1 l22 fun x23 =>
 some (.ret (.tup [x21, x23]), h17, none))
 (fun v18 h19 => some (.panic v18, h19, none)))
/-- countermand/image.Get -/
noncomputable def f152 (n : Nat) (F : Fns) (a0 a1 : AV) (h : Heap) : R :=
 let h1 := h.push (.cells [(.ptr none)] 1)
 let h2 := h1.push (.cells [(.int .i64 0)] 1)
 f152_1 n F a0 a1 h2 h h1

noncomputable def f153_1 (n : Nat) (F : Fns) (v38 : AV) (h35 : Heap) (x36 : AV) (a0 : AV) (v8 : AV) (x25 : AV) (x26 : AV) (x27 : AV) (x28 : AV) (x29 : AV) (x30 : AV) (x31 : AV) (x32 : AV) (x33 : AV) : R :=
 asB v38 fun b39 => cond b39
 (some (.ret (.tup [(.agg [(.int .i64 0), (.int .i64 0), (.int .i64 0), (.int .i64 0), (.int .i64 0), (.int .i64 0), (.int .i64 0), (.int .i64 0), (.int .i64 0), (.int .i64 0), (.int .i64 0), (.int .i64 0), (.int .i64 0), (.int .i64 0), (.int .i64 0), (.bool false), (.int .i64 0)]), (.int .i64 16)]), h35, none))
 ((opBytes P h35 5 x36).bind fun v40 =>
 (opBytes P h35 5 a0).bind fun v41 =>
 (eqop P false true 9 v40 v41).bind fun v42 =>
 asB v42 fun b43 => cond b43
 (some (.ret (.tup [(.agg [(.int .i64 0), (.int .i64 0), (.int .i64 0), (.int .i64 0), (.int .i64 0), (.int .i64 0), (.int .i64 0), (.int .i64 0), (.int .i64 0), (.int .i64 0), (.int .i64 0), (.int .i64 0), (.int .i64 0), (.int .i64 0), (.int .i64 0), (.bool false), (.int .i64 0)]), (.int .i64 16)]), h35, none))
 (some (.ret (.tup [(.agg [v8, x25, x26, x27, x28, x29, x30, x31, x32, x33, (.int .i64 0), (.int .i64 0), (.int .i64 0), (.int .i64 0), (.int .i64 0), (.bool false), (.int .i64 0)]), (.int .i64 0)]), h35, none)))
noncomputable def f153_2 (n : Nat) (F : Fns) (h61 : Heap) (a0 : AV) (v66 : AV) (v8 : AV) (v58 : AV) (v59 : AV) : R :=
 (opBytes P h61 5 a0).bind fun v67 =>
 (eqop P false true 9 v66 v67).bind fun v68 =>
 asB v68 fun b69 => cond b69
 (some (.ret (.tup [(.agg [(.int .i64 0), (.int .i64 0), (.int .i64 0), (.int .i64 0), (.int .i64 0), (.int .i64 0), (.int .i64 0), (.int .i64 0), (.int .i64 0), (.int .i64 0), (.int .i64 0), (.int .i64 0), (.int .i64 0), (.int .i64 0), (.int .i64 0), (.bool false), (.int .i64 0)]), (.int .i64 16)]), h61, none))
 (some (.ret (.tup [(.agg [v8, (.int .i64 0), (.int .i64 0), (.int .i64 0), (.int .i64 0), (.int .i64 0), (.int .i64 0), (.int .i64 0), (.int .i64 0), (.int .i64 0), v58, v59, (.int .i64 0), (.int .i64 0), (.int .i64 0), (.bool false), (.int .i64 0)]), (.int .i64 0)]), h61, none))
noncomputable def f153_3 (n : Nat) (F : Fns) (v8 : AV) (v58 : AV) (v59 : AV) (h57 : Heap) (a0 : AV) : R :=
 bindC (F.plain 157 [(.agg [v8, (.int .i64 0), (.int .i64 0), (.int .i64 0), (.int .i64 0), (.int .i64 0), (.int .i64 0), (.int .i64 0), (.int .i64 0), (.int .i64 0), v58, v59, (.int .i64 0), (.int .i64 0), (.int .i64 0), (.bool false), (.int .i64 0)])] h57) (fun v60 h61 =>
 unT2 v60 fun x62 x63 =>
 (eqop P true true 41 x63 (.int .i64 0)).bind fun v64 =>
 asB v64 fun b65 => cond b65
 (some (.ret (.tup [(.agg [(.int .i64 0), (.int .i64 0), (.int .i64 0), (.int .i64 0), (.int .i64 0), (.int .i64 0), (.int .i64 0), (.int .i64 0), (.int .i64 0), (.int .i64 0), (.int .i64 0), (.int .i64 0), (.int .i64 0), (.int .i64 0), (.int .i64 0), (.bool false), (.int .i64 0)]), (.int .i64 16)]), h61, none))
 ((opBytes P h61 5 x62).bind fun v66 =>
 f153_2 n F h61 a0 v66 v8 v58 v59))
 (fun v70 h71 => some (.panic v70, h71, none))
noncomputable def f153_4 (n : Nat) (F : Fns) (h98 : Heap) (x99 : AV) (a0 : AV) (v8 : AV) (v83 : AV) (v84 : AV) (v87 : AV) (v91 : AV) (v96 : AV) : R :=
 (opBytes P h98 5 x99).bind fun v103 =>
 (opBytes P h98 5 a0).bind fun v104 =>
 (eqop P false true 9 v103 v104).bind fun v105 =>
 asB v105 fun b106 => cond b106
 (some (.ret (.tup [(.agg [(.int .i64 0), (.int .i64 0), (.int .i64 0), (.int .i64 0), (.int .i64 0), (.int .i64 0), (.int .i64 0), (.int .i64 0), (.int .i64 0), (.int .i64 0), (.int .i64 0), (.int .i64 0), (.int .i64 0), (.int .i64 0), (.int .i64 0), (.bool false), (.int .i64 0)]), (.int .i64 16)]), h98, none))
 (some (.ret (.tup [(.agg [v8, (.int .i64 0), (.int .i64 0), (.int .i64 0), (.int .i64 0), (.int .i64 0), (.int .i64 0), (.int .i64 0), (.int .i64 0), (.int .i64 0), (.int .i64 0), (.int .i64 0), v83, v84, v87, v91, v96]), (.int .i64 0)]), h98, none))
noncomputable def f153_5 (n : Nat) (F : Fns) (v8 : AV) (v83 : AV) (v84 : AV) (v87 : AV) (v91 : AV) (v96 : AV) (h95 : Heap) (a0 : AV) : R :=
 bindC (F.plain 157 [(.agg [v8, (.int .i64 0), (.int .i64 0), (.int .i64 0), (.int .i64 0), (.int .i64 0), (.int .i64 0), (.int .i64 0), (.int .i64 0), (.int .i64 0), (.int .i64 0), (.int .i64 0), v83, v84, v87, v91, v96])] h95) (fun v97 h98 =>
 unT2 v97 fun x99 x100 =>
 (eqop P true true 41 x100 (.int .i64 0)).bind fun v101 =>
 asB v101 fun b102 => cond b102
 (some (.ret (.tup [(.agg [(.int .i64 0), (.int .i64 0), (.int .i64 0), (.int .i64 0), (.int .i64 0), (.int .i64 0), (.int .i64 0), (.int .i64 0), (.int .i64 0), (.int .i64 0), (.int .i64 0), (.int .i64 0), (.int .i64 0), (.int .i64 0), (.int .i64 0), (.bool false), (.int .i64 0)]), (.int .i64 16)]), h98, none))
 (f153_4 n F h98 x99 a0 v8 v83 v84 v87 v91 v96))
 (fun v107 h108 => some (.panic v107, h108, none))
noncomputable def f153_6 (n : Nat) (F : Fns) (h112 : Heap) (x113 : AV) (a0 : AV) (v8 : AV) (v83 : AV) (v84 : AV) (v87 : AV) (v91 : AV) : R :=
 (opBytes P h112 5 x113).bind fun v117 =>
 (opBytes P h112 5 a0).bind fun v118 =>
 (eqop P false true 9 v117 v118).bind fun v119 =>
 asB v119 fun b120 => cond b120
 (some (.ret (.tup [(.agg [(.int .i64 0), (.int .i64 0), (.int .i64 0), (.int .i64 0), (.int .i64 0), (.int .i64 0), (.int .i64 0), (.int .i64 0), (.int .i64 0), (.int .i64 0), (.int .i64 0), (.int .i64 0), (.int .i64 0), (.int .i64 0), (.int .i64 0), (.bool false), (.int .i64 0)]), (.int .i64 16)]), h112, none))
 (some (.ret (.tup [(.agg [v8, (.int .i64 0), (.int .i64 0), (.int .i64 0), (.int .i64 0), (.int .i64 0), (.int .i64 0), (.int .i64 0), (.int .i64 0), (.int .i64 0), (.int .i64 0), (.int .i64 0), v83, v84, v87, v91, (.int .i64 0)]), (.int .i64 0)]), h112, none))
noncomputable def f153_7 (n : Nat) (F : Fns) (v8 : AV) (v83 : AV) (v84 : AV) (v87 : AV) (v91 : AV) (h89 : Heap) (a0 : AV) : R :=
 bindC (F.plain 157 [(.agg [v8, (.int .i64 0), (.int .i64 0), (.int .i64 0), (.int .i64 0), (.int .i64 0), (.int .i64 0), (.int .i64 0), (.int .i64 0), (.int .i64 0), (.int .i64 0), (.int .i64 0), v83, v84, v87, v91, (.int .i64 0)])] h89) (fun v111 h112 =>
 unT2 v111 fun x113 x114 =>
 (eqop P true true 41 x114 (.int .i64 0)).bind fun v115 =>
 asB v115 fun b116 => cond b116
 (some (.ret (.tup [(.agg [(.int .i64 0), (.int .i64 0), (.int .i64 0), (.int .i64 0), (.int .i64 0), (.int .i64 0), (.int .i64 0), (.int .i64 0), (.int .i64 0), (.int .i64 0), (.int .i64 0), (.int .i64 0), (.int .i64 0), (.int .i64 0), (.int .i64 0), (.bool false), (.int .i64 0)]), (.int .i64 16)]), h112, none))
 (f153_6 n F h112 x113 a0 v8 v83 v84 v87 v91))
 (fun v121 h122 => some (.panic v121, h122, none))
noncomputable def f153_8 (n : Nat) (F : Fns) (v79 : AV) (v81 : AV) (h2 : Heap) (h82 : Heap) (v8 : AV) (a0 : AV) : R :=
 scal v79 fun v83 =>
 scal v81 fun v84 =>
 bindC (F.plain 210 [(.int .i64 1), (.ptr (some (h2.next, 0)))] h82) (fun v85 h86 =>
 scal v85 fun v87 =>
 bindC (F.plain 210 [(.int .i64 1), (.ptr (some (h2.next, 0)))] h86) (fun v88 h89 =>
 (eqop P true false 3 v88 (.int .i64 1)).bind fun v90 =>
 scal v90 fun v91 =>
 (eqop P true false 3 v8 (.int .i64 3)).bind fun v92 =>
 asB v92 fun b93 => cond b93
 (bindC (F.plain 210 [(.int .i64 4), (.ptr (some (h2.next, 0)))] h89) (fun v94 h95 =>
 scal v94 fun v96 =>
 f153_5 n F v8 v83 v84 v87 v91 v96 h95 a0)
 (fun v109 h110 => some (.panic v109, h110, none)))
 (f153_7 n F v8 v83 v84 v87 v91 h89 a0))
 (fun v123 h124 => some (.panic v123, h124, none)))
 (fun v125 h126 => some (.panic v125, h126, none))
noncomputable def f153_9 (n : Nat) (F : Fns) (h132 : Heap) (a0 : AV) (v137 : AV) (v8 : AV) : R :=
 (opBytes P h132 5 a0).bind fun v138 =>
 (eqop P false true 9 v137 v138).bind fun v139 =>
 asB v139 fun b140 => cond b140
 (some (.ret (.tup [(.agg [(.int .i64 0), (.int .i64 0), (.int .i64 0), (.int .i64 0), (.int .i64 0), (.int .i64 0), (.int .i64 0), (.int .i64 0), (.int .i64 0), (.int .i64 0), (.int .i64 0), (.int .i64 0), (.int .i64 0), (.int .i64 0), (.int .i64 0), (.bool false), (.int .i64 0)]), (.int .i64 16)]), h132, none))
 (some (.ret (.tup [(.agg [v8, (.int .i64 0), (.int .i64 0), (.int .i64 0), (.int .i64 0), (.int .i64 0), (.int .i64 0), (.int .i64 0), (.int .i64 0), (.int .i64 0), (.int .i64 0), (.int .i64 0), (.int .i64 0), (.int .i64 0), (.int .i64 0), (.bool false), (.int .i64 0)]), (.int .i64 0)]), h132, none))
noncomputable def f153_10 (n : Nat) (F : Fns) (v8 : AV) (h7 : Heap) (a0 : AV) : R :=
 bindC (F.plain 157 [(.agg [v8, (.int .i64 0), (.int .i64 0), (.int .i64 0), (.int .i64 0), (.int .i64 0), (.int .i64 0), (.int .i64 0), (.int .i64 0), (.int .i64 0), (.int .i64 0), (.int .i64 0), (.int .i64 0), (.int .i64 0), (.int .i64 0), (.bool false), (.int .i64 0)])] h7) (fun v131 h132 =>
 unT2 v131 fun x133 x134 =>
 (eqop P true true 41 x134 (.int .i64 0)).bind fun v135 =>
 asB v135 fun b136 => cond b136
 (some (.ret (.tup [(.agg [(.int .i64 0), (.int .i64 0), (.int .i64 0), (.int .i64 0), (.int .i64 0), (.int .i64 0), (.int .i64 0), (.int .i64 0), (.int .i64 0), (.int .i64 0), (.int .i64 0), (.int .i64 0), (.int .i64 0), (.int .i64 0), (.int .i64 0), (.bool false), (.int .i64 0)]), (.int .i64 16)]), h132, none))
 ((opBytes P h132 5 x133).bind fun v137 =>
 f153_9 n F h132 a0 v137 v8))
 (fun v141 h142 => some (.panic v141, h142, none))
noncomputable def f153_11 (n : Nat) (F : Fns) (h164 : Heap) (x165 : AV) (a0 : AV) (v8 : AV) (v149 : AV) (v150 : AV) (v153 : AV) (v157 : AV) (v162 : AV) : R :=
 (opBytes P h164 5 x165).bind fun v169 =>
 (opBytes P h164 5 a0).bind fun v170 =>
 (eqop P false true 9 v169 v170).bind fun v171 =>
 asB v171 fun b172 => cond b172
 (some (.ret (.tup [(.agg [(.int .i64 0), (.int .i64 0), (.int .i64 0), (.int .i64 0), (.int .i64 0), (.int .i64 0), (.int .i64 0), (.int .i64 0), (.int .i64 0), (.int .i64 0), (.int .i64 0), (.int .i64 0), (.int .i64 0), (.int .i64 0), (.int .i64 0), (.bool false), (.int .i64 0)]), (.int .i64 16)]), h164, none))
 (some (.ret (.tup [(.agg [v8, (.int .i64 0), (.int .i64 0), (.int .i64 0), (.int .i64 0), (.int .i64 0), (.int .i64 0), (.int .i64 0), (.int .i64 0), (.int .i64 0), (.int .i64 0), (.int .i64 0), v149, v150, v153, v157, v162]), (.int .i64 0)]), h164, none))
noncomputable def f153_12 (n : Nat) (F : Fns) (v8 : AV) (v149 : AV) (v150 : AV) (v153 : AV) (v157 : AV) (v162 : AV) (h161 : Heap) (a0 : AV) : R :=
 bindC (F.plain 157 [(.agg [v8, (.int .i64 0), (.int .i64 0), (.int .i64 0), (.int .i64 0), (.int .i64 0), (.int .i64 0), (.int .i64 0), (.int .i64 0), (.int .i64 0), (.int .i64 0), (.int .i64 0), v149, v150, v153, v157, v162])] h161) (fun v163 h164 =>
 unT2 v163 fun x165 x166 =>
 (eqop P true true 41 x166 (.int .i64 0)).bind fun v167 =>
 asB v167 fun b168 => cond b168
 (some (.ret (.tup [(.agg [(.int .i64 0), (.int .i64 0), (.int .i64 0), (.int .i64 0), (.int .i64 0), (.int .i64 0), (.int .i64 0), (.int .i64 0), (.int .i64 0), (.int .i64 0), (.int .i64 0), (.int .i64 0), (.int .i64 0), (.int .i64 0), (.int .i64 0), (.bool false), (.int .i64 0)]), (.int .i64 16)]), h164, none))
 (f153_11 n F h164 x165 a0 v8 v149 v150 v153 v157 v162))
 (fun v173 h174 => some (.panic v173, h174, none))
noncomputable def f153_13 (n : Nat) (F : Fns) (h178 : Heap) (x179 : AV) (a0 : AV) (v8 : AV) (v149 : AV) (v150 : AV) (v153 : AV) (v157 : AV) : R :=
 (opBytes P h178 5 x179).bind fun v183 =>
 (opBytes P h178 5 a0).bind fun v184 =>
 (eqop P false true 9 v183 v184).bind fun v185 =>
 asB v185 fun b186 => cond b186
 (some (.ret (.tup [(.agg [(.int .i64 0), (.int .i64 0), (.int .i64 0), (.int .i64 0), (.int .i64 0), (.int .i64 0), (.int .i64 0), (.int .i64 0), (.int .i64 0), (.int .i64 0), (.int .i64 0), (.int .i64 0), (.int .i64 0), (.int .i64 0), (.int .i64 0), (.bool false), (.int .i64 0)]), (.int .i64 16)]), h178, none))
 (some (.ret (.tup [(.agg [v8, (.int .i64 0), (.int .i64 0), (.int .i64 0), (.int .i64 0), (.int .i64 0), (.int .i64 0), (.int .i64 0), (.int .i64 0), (.int .i64 0), (.int .i64 0), (.int .i64 0), v149, v150, v153, v157, (.int .i64 0)]), (.int .i64 0)]), h178, none))
noncomputable def f153_14 (n : Nat) (F : Fns) (v8 : AV) (v149 : AV) (v150 : AV) (v153 : AV) (v157 : AV) (h155 : Heap) (a0 : AV) : R :=
 bindC (F.plain 157 [(.agg [v8, (.int .i64 0), (.int .i64 0), (.int .i64 0), (.int .i64 0), (.int .i64 0), (.int .i64 0), (.int .i64 0), (.int .i64 0), (.int .i64 0), (.int .i64 0), (.int .i64 0), v149, v150, v153, v157, (.int .i64 0)])] h155) (fun v177 h178 =>
 unT2 v177 fun x179 x180 =>
 (eqop P true true 41 x180 (.int .i64 0)).bind fun v181 =>
 asB v181 fun b182 => cond b182
 (some (.ret (.tup [(.agg [(.int .i64 0), (.int .i64 0), (.int .i64 0), (.int .i64 0), (.int .i64 0), (.int .i64 0), (.int .i64 0), (.int .i64 0), (.int .i64 0), (.int .i64 0), (.int .i64 0), (.int .i64 0), (.int .i64 0), (.int .i64 0), (.int .i64 0), (.bool false), (.int .i64 0)]), (.int .i64 16)]), h178, none))
 (f153_13 n F h178 x179 a0 v8 v149 v150 v153 v157))
 (fun v187 h188 => some (.panic v187, h188, none))
noncomputable def f153_15 (n : Nat) (F : Fns) (h2 : Heap) (h148 : Heap) (v8 : AV) (v149 : AV) (v150 : AV) (a0 : AV) : R :=
 bindC (F.plain 210 [(.int .i64 1), (.ptr (some (h2.next, 0)))] h148) (fun v151 h152 =>
 scal v151 fun v153 =>
 bindC (F.plain 210 [(.int .i64 1), (.ptr (some (h2.next, 0)))] h152) (fun v154 h155 =>
 (eqop P true false 3 v154 (.int .i64 1)).bind fun v156 =>
 scal v156 fun v157 =>
 (eqop P true false 3 v8 (.int .i64 3)).bind fun v158 =>
 asB v158 fun b159 => cond b159
 (bindC (F.plain 210 [(.int .i64 4), (.ptr (some (h2.next, 0)))] h155) (fun v160 h161 =>
 scal v160 fun v162 =>
 f153_12 n F v8 v149 v150 v153 v157 v162 h161 a0)
 (fun v175 h176 => some (.panic v175, h176, none)))
 (f153_14 n F v8 v149 v150 v153 v157 h155 a0))
 (fun v189 h190 => some (.panic v189, h190, none)))
 (fun v191 h192 => some (.panic v191, h192, none))
noncomputable def f153_16 (n : Nat) (F : Fns) (h198 : Heap) (a0 : AV) (v203 : AV) (v8 : AV) : R :=
 (opBytes P h198 5 a0).bind fun v204 =>
 (eqop P false true 9 v203 v204).bind fun v205 =>
 asB v205 fun b206 => cond b206
 (some (.ret (.tup [(.agg [(.int .i64 0), (.int .i64 0), (.int .i64 0), (.int .i64 0), (.int .i64 0), (.int .i64 0), (.int .i64 0), (.int .i64 0), (.int .i64 0), (.int .i64 0), (.int .i64 0), (.int .i64 0), (.int .i64 0), (.int .i64 0), (.int .i64 0), (.bool false), (.int .i64 0)]), (.int .i64 16)]), h198, none))
 (some (.ret (.tup [(.agg [v8, (.int .i64 0), (.int .i64 0), (.int .i64 0), (.int .i64 0), (.int .i64 0), (.int .i64 0), (.int .i64 0), (.int .i64 0), (.int .i64 0), (.int .i64 0), (.int .i64 0), (.int .i64 0), (.int .i64 0), (.int .i64 0), (.bool false), (.int .i64 0)]), (.int .i64 0)]), h198, none))
noncomputable def f153_17 (n : Nat) (F : Fns) (v8 : AV) (h7 : Heap) (a0 : AV) : R :=
 bindC (F.plain 157 [(.agg [v8, (.int .i64 0), (.int .i64 0), (.int .i64 0), (.int .i64 0), (.int .i64 0), (.int .i64 0), (.int .i64 0), (.int .i64 0), (.int .i64 0), (.int .i64 0), (.int .i64 0), (.int .i64 0), (.int .i64 0), (.int .i64 0), (.bool false), (.int .i64 0)])] h7) (fun v197 h198 =>
 unT2 v197 fun x199 x200 =>
 (eqop P true true 41 x200 (.int .i64 0)).bind fun v201 =>
 asB v201 fun b202 => cond b202
 (some (.ret (.tup [(.agg [(.int .i64 0), (.int .i64 0), (.int .i64 0), (.int .i64 0), (.int .i64 0), (.int .i64 0), (.int .i64 0), (.int .i64 0), (.int .i64 0), (.int .i64 0), (.int .i64 0), (.int .i64 0), (.int .i64 0), (.int .i64 0), (.int .i64 0), (.bool false), (.int .i64 0)]), (.int .i64 16)]), h198, none))
 ((opBytes P h198 5 x199).bind fun v203 =>
 f153_16 n F h198 a0 v203 v8))
 (fun v207 h208 => some (.panic v207, h208, none))
noncomputable def f153_18 (n : Nat) (F : Fns) (v76 : AV) (h2 : Heap) (h7 : Heap) (v8 : AV) (a0 : AV) : R :=
 asB v76 fun b77 => cond b77
 (asB v76 fun b78 => cond b78
 (bindC (F.plain 210 [(.int .i64 1), (.ptr (some (h2.next, 0)))] h7) (fun v79 h80 =>
 bindC (F.plain 210 [(.int .i64 2), (.ptr (some (h2.next, 0)))] h80) (fun v81 h82 =>
 f153_8 n F v79 v81 h2 h82 v8 a0)
 (fun v127 h128 => some (.panic v127, h128, none)))
 (fun v129 h130 => some (.panic v129, h130, none)))
 (f153_10 n F v8 h7 a0))
 ((eqop P true false 3 v8 (.int .i64 4)).bind fun v143 =>
 asB v143 fun b144 => cond b144
 (bindC (F.plain 210 [(.int .i64 1), (.ptr (some (h2.next, 0)))] h7) (fun v145 h146 =>
 bindC (F.plain 210 [(.int .i64 2), (.ptr (some (h2.next, 0)))] h146) (fun v147 h148 =>
 scal v145 fun v149 =>
 scal v147 fun v150 =>
 f153_15 n F h2 h148 v8 v149 v150 a0)
 (fun v193 h194 => some (.panic v193, h194, none)))
 (fun v195 h196 => some (.panic v195, h196, none)))
 (f153_17 n F v8 h7 a0))
noncomputable def f153_19 (n : Nat) (F : Fns) (v9 : AV) (h7 : Heap) (h2 : Heap) (v8 : AV) (a0 : AV) : R :=
 asB v9 fun b10 => cond b10
 ((h7.rd h2.next 0 1).bind fun l11 =>
 un1 l11 fun x12 =>
 (h7.rd h2.next 0 1).bind fun l13 =>
 un1 l13 fun x14 =>
 bindC (F.plain 182 [x14] h7) (fun v15 h16 =>
 same (h16.rd h2.next 0 1) l11
 (bindC (F.plain 179 [x12, v15] h16) (fun v17 h18 =>
 unT2 v17 fun x19 x20 =>
 bindC (F.plain 211 [x19] h18) (fun v21 h22 =>
 unT2 v21 fun x23 x24 =>
 unA9 x23 fun x25 x26 x27 x28 x29 x30 x31 x32 x33 =>
 bindC (F.plain 157 [(.agg [v8, x25, x26, x27, x28, x29, x30, x31, x32, x33, (.int .i64 0), (.int .i64 0), (.int .i64 0), (.int .i64 0), (.int .i64 0), (.bool false), (.int .i64 0)])] h22) (fun v34 h35 =>
 unT2 v34 fun x36 x37 =>
 (eqop P true true 41 x37 (.int .i64 0)).bind fun v38 =>
 f153_1 n F v38 h35 x36 a0 v8 x25 x26 x27 x28 x29 x30 x31 x32 x33)
 (fun v44 h45 => some (.panic v44, h45, none)))
 (fun v46 h47 => some (.panic v46, h47, none)))
 (fun v48 h49 => some (.panic v48, h49, none))))
 (fun v50 h51 => some (.panic v50, h51, none)))
 ((eqop P true false 3 v8 (.int .i64 2)).bind fun v52 =>
 asB v52 fun b53 => cond b53
 (bindC (F.plain 210 [(.int .i64 1), (.ptr (some (h2.next, 0)))] h7) (fun v54 h55 =>
 bindC (F.plain 210 [(.int .i64 2), (.ptr (some (h2.next, 0)))] h55) (fun v56 h57 =>
 scal v54 fun v58 =>
 scal v56 fun v59 =>
 f153_3 n F v8 v58 v59 h57 a0)
 (fun v72 h73 => some (.panic v72, h73, none)))
 (fun v74 h75 => some (.panic v74, h75, none)))
 ((eqop P true false 3 v8 (.int .i64 3)).bind fun v76 =>
 f153_18 n F v76 h2 h7 v8 a0))
/-- countermand/record.Get -/
noncomputable def f153 (n : Nat) (F : Fns) (a0 : AV) (h : Heap) : R :=
 bindC (F.plain 127 [a0] h) (fun v1 h2 =>
 let h3 := h2.push (.cells [(.ptr none)] 1)
 scal v1 fun v4 =>
 (h3.wr h2.next 0 [v4]).bind fun h5 =>
 bindC (F.plain 210 [(.int .i64 1), (.ptr (some (h2.next, 0)))] h5) (fun v6 h7 =>
 scal v6 fun v8 =>
 (eqop P true false 3 v8 (.int .i64 1)).bind fun v9 =>
 f153_19 n F v9 h7 h2 v8 a0)
 (fun v209 h210 => some (.panic v209, h210, none)))
 (fun v211 h212 => some (.panic v211, h212, none))

noncomputable def f154_1 (n : Nat) (F : Fns) (a1 : AV) (h : Heap) (x1 : AV) (x2 : AV) (x3 : AV) (x4 : AV) : R :=
 bindC (F.plain 212 [a1] h) (fun v5 h6 =>
 (unop .not v5).bind fun v7 =>
 asB v7 fun b8 => cond b8
 (some (.ret (.agg [(.int .i64 0), (.int .i64 0)]), h6, none))
 (asI a1 fun i9 =>
 inArr i9 4 fun j10 =>
 (take? [x1, x2, x3, x4] (0 + j10 * 1) 1).bind fun l11 =>
 un1 l11 fun x12 =>
 (binop .geq x12 (.int .i64 65535)).bind fun v13 =>
 asB v13 fun b14 => cond b14
 (some (.ret (.agg [(.int .i64 0), (.int .i64 0)]), h6, none))
 (asI a1 fun i15 =>
 inArr i15 4 fun j16 =>
 (take? [x1, x2, x3, x4] (0 + j16 * 1) 1).bind fun l17 =>
 un1 l17 fun x18 =>
 (binop .add x18 (.int .i64 1)).bind fun v19 =>
 scal a1 fun v20 =>
 scal v19 fun v21 =>
 some (.ret (.agg [v20, v21]), h6, none))))
 (fun v22 h23 => some (.panic v22, h23, none))
/-- countermand/vector.Next -/
noncomputable def f154 (n : Nat) (F : Fns) (a0 a1 : AV) (h : Heap) : R :=
 unA4 a0 fun x1 x2 x3 x4 =>
 f154_1 n F a1 h x1 x2 x3 x4

/-- (*countermand/logs.Logs).Clock -/
noncomputable def f155 (n : Nat) (F : Fns) (a0 : AV) (h : Heap) : R :=
 bindC (F.plain 56 [a0] h) (fun v1 h2 =>
 (unop .not v1).bind fun v3 =>
 asB v3 fun b4 => cond b4
 (some (.ret (.int .i64 0), h2, none))
 (notNil a0 fun v5 =>
 asPtr v5 fun p6 o7 =>
 (h2.rd p6 ((o7 + 33) + 0) 1).bind fun l8 =>
 un1 l8 fun x9 =>
 notNil a0 fun v10 =>
 asPtr v10 fun p11 o12 =>
 (h2.rd p11 ((o12 + 33) + 1) 1).bind fun l13 =>
 un1 l13 fun x14 =>
 notNil a0 fun v15 =>
 asPtr v15 fun p16 o17 =>
 (h2.rd p16 ((o17 + 33) + 2) 1).bind fun l18 =>
 un1 l18 fun x19 =>
 notNil a0 fun v20 =>
 asPtr v20 fun p21 o22 =>
 (h2.rd p21 ((o22 + 33) + 3) 1).bind fun l23 =>
 un1 l23 fun x24 =>
 (fold2 max2 x9 [x14, x19, x24]).bind fun v25 =>
 some (.ret v25, h2, none)))
 (fun v26 h27 => some (.panic v26, h27, none))

noncomputable def f156_1 (n : Nat) (F : Fns) (x20 : AV) (x21 : AV) (h16 : Heap) (x22 : AV) (x28 : AV) : R :=
 bindC (F.plain 213 [(.agg [x20, x21])] h16) (fun v41 h42 =>
 (unop .not v41).bind fun v43 =>
 asB v43 fun b44 => cond b44
 (some (.ret (.int .i64 4), h42, none))
 (bindC (F.plain 62 [x22, (.int .i64 1), (.int .i64 1073741824)] h42) (fun v45 h46 =>
 (unop .not v45).bind fun v47 =>
 asB v47 fun b48 => cond b48
 (some (.ret (.int .i64 4), h46, none))
 (bindC (F.plain 62 [x28, (.int .i64 0), (.int .i64 65535)] h46) (fun v49 h50 =>
 (unop .not v49).bind fun v51 =>
 asB v51 fun b52 => cond b52
 (some (.ret (.int .i64 4), h50, none))
 (some (.ret (.int .i64 0), h50, none)))
 (fun v53 h54 => some (.panic v53, h54, none))))
 (fun v55 h56 => some (.panic v55, h56, none))))
 (fun v57 h58 => some (.panic v57, h58, none))
noncomputable def f156_2 (n : Nat) (F : Fns) (v10 : AV) (v11 : AV) (v12 : AV) (v13 : AV) (x1 : AV) (x2 : AV) (x3 : AV) (x4 : AV) (x5 : AV) (x6 : AV) (x7 : AV) (x8 : AV) (x9 : AV) (h : Heap) : R :=
 loopV (fun vs15 h16 self14 => un12 vs15 fun x17 x18 x19 x20 x21 x22 x23 x24 x25 x26 x27 x28 =>
 (binop .lss x19 (.int .i64 4)).bind fun v29 =>
 asB v29 fun b30 => cond b30
 ((indexA P 113 x18 x19).bind fun v31 =>
 asB x17 fun b32 => cond b32
 (bindC (F.plain 62 [v31, (.int .i64 0), (.int .i64 255)] h16) (fun v33 h34 =>
 (binop .add x19 (.int .i64 1)).bind fun v35 =>
 self14 [v33, x18, v35, x20, x21, x22, x23, x24, x25, x26, x27, x28] h34)
 (fun v36 h37 => some (.panic v36, h37, none)))
 ((binop .add x19 (.int .i64 1)).bind fun v38 =>
 self14 [(.bool false), x18, v38, x20, x21, x22, x23, x24, x25, x26, x27, x28] h16))
 ((unop .not x17).bind fun v39 =>
 asB v39 fun b40 => cond b40
 (some (.ret (.int .i64 4), h16, none))
 (f156_1 n F x20 x21 h16 x22 x28))) n [(.bool true), (.agg [v10, v11, v12, v13]), (.int .i64 0), x1, x2, x3, x4, x5, x6, x7, x8, x9] h
/-- countermand/change.Check -/
noncomputable def f156 (n : Nat) (F : Fns) (a0 : AV) (h : Heap) : R :=
 unA9 a0 fun x1 x2 x3 x4 x5 x6 x7 x8 x9 =>
 scal x4 fun v10 =>
 scal x5 fun v11 =>
 scal x6 fun v12 =>
 scal x8 fun v13 =>
 f156_2 n F v10 v11 v12 v13 x1 x2 x3 x4 x5 x6 x7 x8 x9 h

noncomputable def f157_1 (n : Nat) (F : Fns) (x16 : AV) (r23 : AV × Heap) (x13 : AV) (x14 : AV) (x15 : AV) (x1 : AV) (x17 : AV) : R :=
 asB x16 fun b39 => cond b39
 (bindC (F.plain 215 [r23.1, (.agg [x13, x14])] r23.2) (fun v40 h41 =>
 (convertA P 3 5 x15).bind fun v42 =>
 scal v42 fun v43 =>
 (appendA P h41 5 v40 2 [v43, (.int .u8 1)]).bind fun r44 =>
 (eqop P true false 3 x1 (.int .i64 3)).bind fun v45 =>
 asB v45 fun b46 => cond b46
 ((convertA P 3 277 x17).bind fun v47 =>
 bindC (F.plain 216 [r44.1, v47, (.int .i64 4)] r44.2) (fun v48 h49 =>
 some (.ret (.tup [v48, (.int .i64 0)]), h49, none))
 (fun v50 h51 => some (.panic v50, h51, none)))
 (some (.ret (.tup [r44.1, (.int .i64 0)]), r44.2, none)))
 (fun v52 h53 => none))
 (bindC (F.plain 215 [r23.1, (.agg [x13, x14])] r23.2) (fun v54 h55 =>
 (convertA P 3 5 x15).bind fun v56 =>
 scal v56 fun v57 =>
 (appendA P h55 5 v54 2 [v57, (.int .u8 0)]).bind fun r58 =>
 (eqop P true false 3 x1 (.int .i64 3)).bind fun v59 =>
 asB v59 fun b60 => cond b60
 ((convertA P 3 277 x17).bind fun v61 =>
 bindC (F.plain 216 [r58.1, v61, (.int .i64 4)] r58.2) (fun v62 h63 =>
 some (.ret (.tup [v62, (.int .i64 0)]), h63, none))
 (fun v64 h65 => some (.panic v64, h65, none)))
 (some (.ret (.tup [r58.1, (.int .i64 0)]), r58.2, none)))
 (fun v66 h67 => none))
noncomputable def f157_2 (n : Nat) (F : Fns) (x1 : AV) (h19 : Heap) (x2 : AV) (x3 : AV) (x4 : AV) (x5 : AV) (x6 : AV) (x7 : AV) (x8 : AV) (x9 : AV) (x10 : AV) (x11 : AV) (x12 : AV) (x16 : AV) (x13 : AV) (x14 : AV) (x15 : AV) (x17 : AV) : R :=
 (convertA P 3 5 x1).bind fun v22 =>
 (opBuildSlice P h19 155 1 [(0, v22)]).bind fun r23 =>
 (eqop P true false 3 x1 (.int .i64 1)).bind fun v24 =>
 asB v24 fun b25 => cond b25
 (bindC (F.plain 214 [(.agg [x2, x3, x4, x5, x6, x7, x8, x9, x10])] r23.2) (fun v26 h27 =>
 unT2 v26 fun x28 x29 =>
 (opAppend P h27 155 155 r23.1 x28).bind fun r30 =>
 some (.ret (.tup [r30.1, (.int .i64 0)]), r30.2, none))
 (fun v31 h32 => some (.panic v31, h32, none)))
 ((eqop P true false 3 x1 (.int .i64 2)).bind fun v33 =>
 asB v33 fun b34 => cond b34
 (bindC (F.plain 215 [r23.1, (.agg [x11, x12])] r23.2) (fun v35 h36 =>
 some (.ret (.tup [v35, (.int .i64 0)]), h36, none))
 (fun v37 h38 => some (.panic v37, h38, none)))
 (f157_1 n F x16 r23 x13 x14 x15 x1 x17))
/-- countermand/record.Put -/
noncomputable def f157 (n : Nat) (F : Fns) (a0 : AV) (h : Heap) : R :=
 unA17 a0 fun x1 x2 x3 x4 x5 x6 x7 x8 x9 x10 x11 x12 x13 x14 x15 x16 x17 =>
 bindC (F.plain 191 [(.agg [x1, x2, x3, x4, x5, x6, x7, x8, x9, x10, x11, x12, x13, x14, x15, x16, x17])] h) (fun v18 h19 =>
 (eqop P true true 41 v18 (.int .i64 0)).bind fun v20 =>
 asB v20 fun b21 => cond b21
 (some (.ret (.tup [.nilSlice, v18]), h19, none))
 (f157_2 n F x1 h19 x2 x3 x4 x5 x6 x7 x8 x9 x10 x11 x12 x16 x13 x14 x15 x17))
 (fun v68 h69 => some (.panic v68, h69, none))
end Go.Proofs.YtahbihcbidkbaaaGreat.Ev

/-
  Printed by mk.py: the equations with the evaluator.
-/
set_option maxRecDepth 100000
set_option maxHeartbeats 4000000
namespace Go.Proofs.YtahbihcbidkbaaaGreat.Ev
open Go
theorem f131_eq (n : Nat) (F : Fns) (a0 a1 : AV) (h : Heap) : callStep cx n F 131 [a0, a1] h none = f131 n F a0 a1 h := by kernel_rfl
theorem f132_eq (n : Nat) (F : Fns) (a0 a1 : AV) (h : Heap) : callStep cx n F 132 [a0, a1] h none = f132 n F a0 a1 h := by kernel_rfl
theorem f133_eq (n : Nat) (F : Fns) (a0 : AV) (h : Heap) : callStep cx n F 133 [a0] h none = f133 n F a0 h := by kernel_rfl
theorem f134_eq (n : Nat) (F : Fns) (a0 a1 : AV) (h : Heap) : callStep cx n F 134 [a0, a1] h none = f134 n F a0 a1 h := by kernel_rfl
theorem f135_eq (n : Nat) (F : Fns) (a0 a1 : AV) (h : Heap) : callStep cx n F 135 [a0, a1] h none = f135 n F a0 a1 h := by kernel_rfl
theorem f136_eq (n : Nat) (F : Fns) (a0 : AV) (h : Heap) : callStep cx n F 136 [a0] h none = f136 n F a0 h := by kernel_rfl
theorem f137_eq (n : Nat) (F : Fns) (a0 a1 : AV) (h : Heap) : callStep cx n F 137 [a0, a1] h none = f137 n F a0 a1 h := by kernel_rfl
theorem f139_eq (n : Nat) (F : Fns) (a0 : AV) (h : Heap) : callStep cx n F 139 [a0] h none = f139 n F a0 h := by kernel_rfl
theorem f140_eq (n : Nat) (F : Fns) (a0 : AV) (h : Heap) : callStep cx n F 140 [a0] h none = f140 n F a0 h := by kernel_rfl
theorem f141_eq (n : Nat) (F : Fns) (a0 : AV) (h : Heap) : callStep cx n F 141 [a0] h none = f141 n F a0 h := by kernel_rfl
theorem f142_eq (n : Nat) (F : Fns) (a0 a1 : AV) (h : Heap) : callStep cx n F 142 [a0, a1] h none = f142 n F a0 a1 h := by kernel_rfl
theorem f143_eq (n : Nat) (F : Fns) (a0 a1 : AV) (h : Heap) : callStep cx n F 143 [a0, a1] h none = f143 n F a0 a1 h := by kernel_rfl
theorem f144_eq (n : Nat) (F : Fns) (a0 : AV) (h : Heap) : callStep cx n F 144 [a0] h none = f144 n F a0 h := by kernel_rfl
theorem f145_eq (n : Nat) (F : Fns) (a0 : AV) (h : Heap) : callStep cx n F 145 [a0] h none = f145 n F a0 h := by kernel_rfl
theorem f146_eq (n : Nat) (F : Fns) (a0 a1 a2 : AV) (h : Heap) : callStep cx n F 146 [a0, a1, a2] h none = f146 n F a0 a1 a2 h := by kernel_rfl
theorem f147_eq (n : Nat) (F : Fns) (a0 : AV) (h : Heap) : callStep cx n F 147 [a0] h none = f147 n F a0 h := by kernel_rfl
theorem f148_eq (n : Nat) (F : Fns) (a0 a1 : AV) (h : Heap) : callStep cx n F 148 [a0, a1] h none = f148 n F a0 a1 h := by kernel_rfl
theorem f149_eq (n : Nat) (F : Fns) (a0 : AV) (h : Heap) : callStep cx n F 149 [a0] h none = f149 n F a0 h := by kernel_rfl
theorem f150_eq (n : Nat) (F : Fns) (a0 : AV) (h : Heap) : callStep cx n F 150 [a0] h none = f150 n F a0 h := by kernel_rfl
theorem f151_eq (n : Nat) (F : Fns) (a0 : AV) (h : Heap) : callStep cx n F 151 [a0] h none = f151 n F a0 h := by kernel_rfl
theorem f152_eq (n : Nat) (F : Fns) (a0 a1 : AV) (h : Heap) : callStep cx n F 152 [a0, a1] h none = f152 n F a0 a1 h := by kernel_rfl
theorem f153_eq (n : Nat) (F : Fns) (a0 : AV) (h : Heap) : callStep cx n F 153 [a0] h none = f153 n F a0 h := by kernel_rfl
theorem f154_eq (n : Nat) (F : Fns) (a0 a1 : AV) (h : Heap) : callStep cx n F 154 [a0, a1] h none = f154 n F a0 a1 h := by kernel_rfl
theorem f155_eq (n : Nat) (F : Fns) (a0 : AV) (h : Heap) : callStep cx n F 155 [a0] h none = f155 n F a0 h := by kernel_rfl
theorem f156_eq (n : Nat) (F : Fns) (a0 : AV) (h : Heap) : callStep cx n F 156 [a0] h none = f156 n F a0 h := by kernel_rfl
theorem f157_eq (n : Nat) (F : Fns) (a0 : AV) (h : Heap) : callStep cx n F 157 [a0] h none = f157 n F a0 h := by kernel_rfl
end Go.Proofs.YtahbihcbidkbaaaGreat.Ev
