/-
  Printed by mk.py: the functions as the evaluator has them.
-/
import Derived.Test.YtahbihcbidkbaaaGreatJt
import Derived.KernelRfl
set_option linter.unusedVariables false
set_option maxRecDepth 100000
namespace Go.Proofs.YtahbihcbidkbaaaGreat.Ev
open Go
noncomputable def f45_1 (n : Nat) (F : Fns) (v68 : AV) (h69 : Heap) (a0 : AV) (x3 : AV) (x4 : AV) : R :=
 asB v68 fun b70 => cond b70
 (bindC (F.plain 35 [(.int .i64 9)] h69) (fun v71 h72 =>
 unA3 v71 fun x73 x74 x75 =>
 some (.ret (.agg [x73, x74, x75]), h72, none))
 (fun v76 h77 => some (.panic v76, h77, none)))
 (notNil a0 fun v78 =>
 asPtr v78 fun p79 o80 =>
 (h69.rd p79 ((o80 + 0) + 0) 1).bind fun l81 =>
 un1 l81 fun x82 =>
 bindC (F.plain 83 [x82, x3, x4] h69) (fun v83 h84 =>
 (unop .not v83).bind fun v85 =>
 asB v85 fun b86 => cond b86
 (bindC (F.plain 35 [(.int .i64 4)] h84) (fun v87 h88 =>
 unA3 v87 fun x89 x90 x91 =>
 some (.ret (.agg [x89, x90, x91]), h88, none))
 (fun v92 h93 => some (.panic v92, h93, none)))
 (some (.ret (.agg [(.int .i64 0), (.int .i64 0), (.int .i64 0)]), h84, none)))
 (fun v94 h95 => some (.panic v94, h95, none)))
noncomputable def f45_2 (n : Nat) (F : Fns) (v43 : AV) (a0 : AV) (h20 : Heap) (x3 : AV) (x4 : AV) : R :=
 asB v43 fun b44 => cond b44
 (notNil a0 fun v45 =>
 asPtr v45 fun p46 o47 =>
 (h20.rd p46 ((o47 + 0) + 0) 1).bind fun l48 =>
 un1 l48 fun x49 =>
 bindC (F.plain 81 [x49, x3] h20) (fun v50 h51 =>
 (unop .not v50).bind fun v52 =>
 asB v52 fun b53 => cond b53
 (bindC (F.plain 35 [(.int .i64 10)] h51) (fun v54 h55 =>
 unA3 v54 fun x56 x57 x58 =>
 some (.ret (.agg [x56, x57, x58]), h55, none))
 (fun v59 h60 => some (.panic v59, h60, none)))
 (some (.ret (.agg [(.int .i64 0), (.int .i64 0), (.int .i64 0)]), h51, none)))
 (fun v61 h62 => some (.panic v61, h62, none)))
 (notNil a0 fun v63 =>
 asPtr v63 fun p64 o65 =>
 (h20.rd p64 ((o65 + 0) + 0) 1).bind fun l66 =>
 un1 l66 fun x67 =>
 bindC (F.plain 82 [x67, x3] h20) (fun v68 h69 =>
 f45_1 n F v68 h69 a0 x3 x4)
 (fun v96 h97 => some (.panic v96, h97, none)))
noncomputable def f45_3 (n : Nat) (F : Fns) (x18 : AV) (x3 : AV) (h : Heap) (x1 : AV) (a0 : AV) (x4 : AV) : R :=
 bindC (F.plain 76 [x18, x3] h) (fun v19 h20 =>
 (binop .lss v19 (.int .i64 0)).bind fun v21 =>
 asB v21 fun b22 => cond b22
 (bindC (F.plain 35 [(.int .i64 14)] h20) (fun v23 h24 =>
 unA3 v23 fun x25 x26 x27 =>
 some (.ret (.agg [x25, x26, x27]), h24, none))
 (fun v28 h29 => some (.panic v28, h29, none)))
 ((eqop P true false 3 x1 (.int .i64 8)).bind fun v30 =>
 asB v30 fun b31 => cond b31
 (notNil a0 fun v32 =>
 asPtr v32 fun p33 o34 =>
 (h20.rd p33 ((o34 + 0) + 0) 1).bind fun l35 =>
 un1 l35 fun x36 =>
 bindC (F.plain 77 [x36, x3] h20) (fun v37 h38 =>
 unT2 v37 fun x39 x40 =>
 some (.ret (.agg [(.int .i64 0), (.int .i64 0), (.int .i64 0)]), h38, none))
 (fun v41 h42 => some (.panic v41, h42, none)))
 ((eqop P true false 3 x1 (.int .i64 9)).bind fun v43 =>
 f45_2 n F v43 a0 h20 x3 x4)))
 (fun v98 h99 => some (.panic v98, h99, none))
/-- (*countermand/world.World).disturb -/
noncomputable def f45 (n : Nat) (F : Fns) (a0 a1 : AV) (h : Heap) : R :=
 unA13 a1 fun x1 x2 x3 x4 x5 x6 x7 x8 x9 x10 x11 x12 x13 =>
 notNil a0 fun v14 =>
 asPtr v14 fun p15 o16 =>
 (h.rd p15 ((o16 + 0) + 0) 1).bind fun l17 =>
 un1 l17 fun x18 =>
 f45_3 n F x18 x3 h x1 a0 x4

noncomputable def f46_1 (n : Nat) (F : Fns) (v77 : AV) (h : Heap) (a1 : AV) (x4 : AV) : R :=
 asB v77 fun b78 => cond b78
 (bindC (F.plain 35 [(.int .i64 4)] h) (fun v79 h80 =>
 unA3 v79 fun x81 x82 x83 =>
 some (.ret (.agg [x81, x82, x83]), h80, none))
 (fun v84 h85 => some (.panic v84, h85, none)))
 (bindC (F.plain 51 [a1] h) (fun v86 h87 =>
 (unop .not v86).bind fun v88 =>
 asB v88 fun b89 => cond b89
 (bindC (F.plain 35 [(.int .i64 19)] h87) (fun v90 h91 =>
 unA3 v90 fun x92 x93 x94 =>
 some (.ret (.agg [x92, x93, x94]), h91, none))
 (fun v95 h96 => some (.panic v95, h96, none)))
 ((binop .sub x4 (.int .i64 1)).bind fun v97 =>
 bindC (F.plain 88 [a1, v97] h87) (fun v98 h99 =>
 unT0 v98 fun _u =>
 some (.ret (.agg [(.int .i64 0), (.int .i64 0), (.int .i64 0)]), h99, none))
 (fun v100 h101 => some (.panic v100, h101, none))))
 (fun v102 h103 => some (.panic v102, h103, none)))
noncomputable def f46_2 (n : Nat) (F : Fns) (v49 : AV) (a1 : AV) (h : Heap) (x1 : AV) (x4 : AV) : R :=
 asB v49 fun b50 => cond b50
 (bindC (F.plain 86 [a1] h) (fun v51 h52 =>
 bindC (F.plain 35 [v51] h52) (fun v53 h54 =>
 unA3 v53 fun x55 x56 x57 =>
 some (.ret (.agg [x55, x56, x57]), h54, none))
 (fun v58 h59 => some (.panic v58, h59, none)))
 (fun v60 h61 => some (.panic v60, h61, none)))
 ((eqop P true false 3 x1 (.int .i64 15)).bind fun v62 =>
 asB v62 fun b63 => cond b63
 (bindC (F.plain 87 [a1] h) (fun v64 h65 =>
 bindC (F.plain 35 [v64] h65) (fun v66 h67 =>
 unA3 v66 fun x68 x69 x70 =>
 some (.ret (.agg [x68, x69, x70]), h67, none))
 (fun v71 h72 => some (.panic v71, h72, none)))
 (fun v73 h74 => some (.panic v73, h74, none)))
 ((eqop P true false 3 x1 (.int .i64 14)).bind fun v75 =>
 asB v75 fun b76 => cond b76
 ((binop .gtr x4 (.int .i64 4096)).bind fun v77 =>
 f46_1 n F v77 h a1 x4)
 (some (.ret (.agg [(.int .i64 0), (.int .i64 0), (.int .i64 0)]), h, none))))
noncomputable def f46_3 (n : Nat) (F : Fns) (v14 : AV) (x4 : AV) (h : Heap) (a0 : AV) (x1 : AV) (a1 : AV) : R :=
 asB v14 fun b15 => cond b15
 ((binop .gtr x4 (.int .i64 255)).bind fun v16 =>
 asB v16 fun b17 => cond b17
 (bindC (F.plain 35 [(.int .i64 4)] h) (fun v18 h19 =>
 unA3 v18 fun x20 x21 x22 =>
 some (.ret (.agg [x20, x21, x22]), h19, none))
 (fun v23 h24 => some (.panic v23, h24, none)))
 (notNil a0 fun v25 =>
 asPtr v25 fun p26 o27 =>
 (h.rd p26 ((o27 + 0) + 1) 1).bind fun l28 =>
 un1 l28 fun x29 =>
 bindC (F.plain 84 [x29, x4] h) (fun v30 h31 =>
 unT0 v30 fun _u =>
 some (.ret (.agg [(.int .i64 0), (.int .i64 0), (.int .i64 0)]), h31, none))
 (fun v32 h33 => some (.panic v32, h33, none))))
 ((eqop P true false 3 x1 (.int .i64 12)).bind fun v34 =>
 asB v34 fun b35 => cond b35
 (bindC (F.plain 85 [a1] h) (fun v36 h37 =>
 (unop .not v36).bind fun v38 =>
 asB v38 fun b39 => cond b39
 (bindC (F.plain 35 [(.int .i64 19)] h37) (fun v40 h41 =>
 unA3 v40 fun x42 x43 x44 =>
 some (.ret (.agg [x42, x43, x44]), h41, none))
 (fun v45 h46 => some (.panic v45, h46, none)))
 (some (.ret (.agg [(.int .i64 0), (.int .i64 0), (.int .i64 0)]), h37, none)))
 (fun v47 h48 => some (.panic v47, h48, none)))
 ((eqop P true false 3 x1 (.int .i64 13)).bind fun v49 =>
 f46_2 n F v49 a1 h x1 x4))
/-- (*countermand/world.World).harm -/
noncomputable def f46 (n : Nat) (F : Fns) (a0 a1 a2 : AV) (h : Heap) : R :=
 unA13 a2 fun x1 x2 x3 x4 x5 x6 x7 x8 x9 x10 x11 x12 x13 =>
 (eqop P true false 3 x1 (.int .i64 11)).bind fun v14 =>
 f46_3 n F v14 x4 h a0 x1 a1

/-- (*countermand/gate.Gate).Clone -/
noncomputable def f47 (n : Nat) (F : Fns) (a0 : AV) (h : Heap) : R :=
 (eqop P true false 25 a0 (.ptr none)).bind fun v1 =>
 asB v1 fun b2 => cond b2
 (some (.ret (.ptr none), h, none))
 (notNil a0 fun v3 =>
 asPtr v3 fun p4 o5 =>
 (h.rd p4 (o5 + 0) 1).bind fun l6 =>
 un1 l6 fun x7 =>
 bindC (F.plain 89 [x7] h) (fun v8 h9 =>
 bindC (F.plain 13 [a0] h9) (fun v10 h11 =>
 notNil a0 fun v12 =>
 asPtr v12 fun p13 o14 =>
 (h11.rd p13 (o14 + 2) 1).bind fun l15 =>
 same (h9.rd p13 (o14 + 2) 1) l15
 (same (h.rd p13 (o14 + 2) 1) l15
 (un1 l15 fun x16 =>
 scal v8 fun v17 =>
 scal v10 fun v18 =>
 scal x16 fun v19 =>
 let h20 := h11.push (.cells [v17, v18, v19] 1)
 some (.ret (.ptr (some (h11.next, 0))), h20, none))))
 (fun v21 h22 => none))
 (fun v23 h24 => none))

/-- slices.Clone[[]countermand/api.Request,countermand/api.Request] -/
noncomputable def f48 (n : Nat) (F : Fns) (a0 : AV) (h : Heap) : R :=
 (eqop P true false 53 a0 .nilSlice).bind fun v1 =>
 asB v1 fun b2 => cond b2
 (some (.ret .nilSlice, h, none))
 ((opAppend P (h.push (.cells [] 9)) 53 53 (.slice h.next 0 0 0 (.ex 0)) a0).bind fun r3 =>
 some (.ret r3.1, r3.2, none))

/-- countermand/settle.one$1 -/
noncomputable def f49 (n : Nat) (F : Fns) (a0 a1 : AV) (h : Heap) : R :=
 asPtr a1 fun p1 o2 =>
 (h.rd p1 o2 1).bind fun l3 =>
 un1 l3 fun x4 =>
 scal x4 fun v5 =>
 scal a0 fun v6 =>
 (opBuildSlice P h 99 1 [(0, .agg [v5, v6, (.int .i64 0), (.int .i64 0), (.int .i64 0), (.int .i64 0), (.int .i64 0), (.int .i64 0), (.int .i64 0), (.int .i64 0), (.int .i64 0), (.int .i64 0), (.int .i64 0)])]).bind fun r7 =>
 some (.ret r7.1, r7.2, none)

noncomputable def f50_1 (n : Nat) (F : Fns) (v1 : AV) (h : Heap) (a0 : AV) : R :=
 asB v1 fun b2 => cond b2
 (some (.ret (.ptr none), h, none))
 (let h3 := h.push (.cells [.nilSlice] 1)
 notNil a0 fun v4 =>
 asPtr v4 fun p5 o6 =>
 (h3.rd p5 (o6 + 0) 1).bind fun l7 =>
 un1 l7 fun x8 =>
 (lenA P 76 x8).bind fun v9 =>
 loopV (fun vs11 h12 self10 => un4 vs11 fun x13 x14 x15 x16 =>
 (binop .lss x16 x15).bind fun v17 =>
 asB v17 fun b18 => cond b18
 (asI x16 fun i19 =>
 elemP x14 i19 3 fun p20 o21 =>
 (h12.rd p20 o21 3).bind fun l22 =>
 un3 l22 fun x23 x24 x25 =>
 bindC (F.plain 90 [x13, (.agg [x23, x24, x25])] h12) (fun v26 h27 =>
 (binop .add x16 (.int .i64 1)).bind fun v28 =>
 self10 [x13, x14, x15, v28] h27)
 (fun v29 h30 => some (.panic v29, h30, none)))
 (some (.ret x13, h12, none))) n [(.ptr (some (h.next, 0))), x8, v9, (.int .i64 0)] h3)
/-- (*countermand/wire.Wire).Clone -/
noncomputable def f50 (n : Nat) (F : Fns) (a0 : AV) (h : Heap) : R :=
 (eqop P true false 24 a0 (.ptr none)).bind fun v1 =>
 f50_1 n F v1 h a0

/-- (*countermand/node.Node).Up -/
noncomputable def f51 (n : Nat) (F : Fns) (a0 : AV) (h : Heap) : R :=
 (eqop P true true 82 a0 (.ptr none)).bind fun v1 =>
 asB v1 fun b2 => cond b2
 (notNil a0 fun v3 =>
 asPtr v3 fun p4 o5 =>
 (h.rd p4 (o5 + 0) 1).bind fun l6 =>
 un1 l6 fun x7 =>
 (eqop P true true 119 x7 (.ptr none)).bind fun v8 =>
 some (.ret v8, h, none))
 (some (.ret (.bool false), h, none))

/-- (*countermand/node.Node).State -/
noncomputable def f52 (n : Nat) (F : Fns) (a0 : AV) (h : Heap) : R :=
 bindC (F.plain 51 [a0] h) (fun v1 h2 =>
 (unop .not v1).bind fun v3 =>
 asB v3 fun b4 => cond b4
 (some (.ret (.ptr none), h2, none))
 (notNil a0 fun v5 =>
 asPtr v5 fun p6 o7 =>
 (h2.rd p6 (o7 + 0) 1).bind fun l8 =>
 un1 l8 fun x9 =>
 notNil x9 fun v10 =>
 asPtr v10 fun p11 o12 =>
 (h2.rd p11 (o12 + 1) 1).bind fun l13 =>
 un1 l13 fun x14 =>
 bindC (F.plain 91 [x14] h2) (fun v15 h16 =>
 some (.ret v15, h16, none))
 (fun v17 h18 => some (.panic v17, h18, none))))
 (fun v19 h20 => some (.panic v19, h20, none))

noncomputable def f53_1 (n : Nat) (F : Fns) (v8 : AV) (h : Heap) (a0 : AV) : R :=
 asB v8 fun b9 => cond b9
 (some (.ret (.ptr none), h, none))
 (notNil a0 fun v10 =>
 asPtr v10 fun p11 o12 =>
 (h.rd p11 (o12 + 7) 1).bind fun l13 =>
 un1 l13 fun x14 =>
 bindC (F.plain 92 [x14] h) (fun v15 h16 =>
 bindC (F.plain 93 [v15] h16) (fun v17 h18 =>
 unT0 v17 fun _u =>
 notNil a0 fun v19 =>
 asPtr v19 fun p20 o21 =>
 (h18.rd p20 (o21 + 6) 1).bind fun l22 =>
 un1 l22 fun x23 =>
 bindC (F.plain 64 [x23, v15] h18) (fun v24 h25 =>
 notNil v24 fun v26 =>
 asPtr v26 fun p27 o28 =>
 (h25.rd p27 (o28 + 1) 1).bind fun l29 =>
 un1 l29 fun x30 =>
 some (.ret x30, h25, none))
 (fun v31 h32 => some (.panic v31, h32, none)))
 (fun v33 h34 => some (.panic v33, h34, none)))
 (fun v35 h36 => some (.panic v35, h36, none)))
/-- (*countermand/node.Node).Stored -/
noncomputable def f53 (n : Nat) (F : Fns) (a0 : AV) (h : Heap) : R :=
 (eqop P true false 82 a0 (.ptr none)).bind fun v1 =>
 asB v1 fun b2 => cond b2
 (some (.ret (.ptr none), h, none))
 (notNil a0 fun v3 =>
 asPtr v3 fun p4 o5 =>
 (h.rd p4 (o5 + 7) 1).bind fun l6 =>
 un1 l6 fun x7 =>
 (eqop P true false 120 x7 (.ptr none)).bind fun v8 =>
 f53_1 n F v8 h a0)

/-- (*countermand/state.State).is -/
noncomputable def f54 (n : Nat) (F : Fns) (a0 : AV) (h : Heap) : R :=
 (eqop P true true 69 a0 (.ptr none)).bind fun v1 =>
 asB v1 fun b2 => cond b2
 (notNil a0 fun v3 =>
 asPtr v3 fun p4 o5 =>
 (h.rd p4 (o5 + 0) 1).bind fun l6 =>
 un1 l6 fun x7 =>
 (eqop P true true 101 x7 (.ptr none)).bind fun v8 =>
 some (.ret v8, h, none))
 (some (.ret (.bool false), h, none))

noncomputable def f55_1 (n : Nat) (F : Fns) (v60 : AV) (h94 : Heap) (h2 : Heap) (v91 : AV) (a0 : AV) : R :=
 scal v60 fun v95 =>
 (h94.wr h2.next 1 [v95]).bind fun h96 =>
 unA25 v91 fun x97 x98 x99 x100 x101 x102 x103 x104 x105 x106 x107 x108 x109 x110 x111 x112 x113 x114 x115 x116 x117 x118 x119 x120 x121 =>
 (h96.wr h2.next 2 [x97, x98, x99, x100, x101, x102, x103, x104, x105, x106, x107, x108, x109, x110, x111, x112, x113, x114, x115, x116, x117, x118, x119, x120, x121]).bind fun h122 =>
 notNil a0 fun v123 =>
 asPtr v123 fun p124 o125 =>
 (h122.rd p124 (o125 + 28) 1).bind fun l126 =>
 un1 l126 fun x127 =>
 bindC (F.plain 96 [x127] h122) (fun v128 h129 =>
 scal v128 fun v130 =>
 (h129.wr h2.next 28 [v130]).bind fun h131 =>
 some (.ret (.ptr (some (h2.next, 0))), h131, none))
 (fun v132 h133 => some (.panic v132, h133, none))
noncomputable def f55_2 (n : Nat) (F : Fns) (h54 : Heap) (p56 : Nat) (o57 : Nat) (h47 : Heap) (a0 : AV) (v53 : AV) (h2 : Heap) : R :=
 (h54.rd p56 ((o57 + 0) + 1) 1).bind fun l58 =>
 same (h47.rd p56 ((o57 + 0) + 1) 1) l58
 (un1 l58 fun x59 =>
 bindC (F.plain 94 [x59] h54) (fun v60 h61 =>
 notNil a0 fun v62 =>
 asPtr v62 fun p63 o64 =>
 (h61.rd p63 ((o64 + 0) + 2) 25).bind fun l65 =>
 same (h54.rd p63 ((o64 + 0) + 2) 25) l65
 (same (h47.rd p63 ((o64 + 0) + 2) 25) l65
 (un25 l65 fun x66 x67 x68 x69 x70 x71 x72 x73 x74 x75 x76 x77 x78 x79 x80 x81 x82 x83 x84 x85 x86 x87 x88 x89 x90 =>
 bindC (F.plain 95 [(.agg [x66, x67, x68, x69, x70, x71, x72, x73, x74, x75, x76, x77, x78, x79, x80, x81, x82, x83, x84, x85, x86, x87, x88, x89, x90]), .nilSlice] h61) (fun v91 h92 =>
 scal v53 fun v93 =>
 (h92.wr h2.next 0 [v93]).bind fun h94 =>
 f55_1 n F v60 h94 h2 v91 a0)
 (fun v134 h135 => some (.panic v134, h135, none)))))
 (fun v136 h137 => none))
noncomputable def f55_3 (n : Nat) (F : Fns) (h2 : Heap) (x9 : AV) (x10 : AV) (x11 : AV) (x12 : AV) (x13 : AV) (x14 : AV) (x15 : AV) (x16 : AV) (x17 : AV) (x18 : AV) (x19 : AV) (x20 : AV) (x21 : AV) (x22 : AV) (x23 : AV) (x24 : AV) (x25 : AV) (x26 : AV) (x27 : AV) (x28 : AV) (x29 : AV) (x30 : AV) (x31 : AV) (x32 : AV) (x33 : AV) (x34 : AV) (x35 : AV) (x36 : AV) (x37 : AV) (x38 : AV) (x39 : AV) (x40 : AV) (x41 : AV) (x42 : AV) (x43 : AV) (x44 : AV) (x45 : AV) (a0 : AV) : R :=
 let h46 := h2.push (.cells [.nilSlice, .nilSlice, (.int .i64 0), (.int .i64 0), (.int .i64 0), (.int .i64 0), (.int .i64 0), (.int .i64 0), (.int .i64 0), (.int .i64 0), (.int .i64 0), (.int .i64 0), (.int .i64 0), (.int .i64 0), (.int .i64 0), (.int .i64 0), (.int .i64 0), (.int .i64 0), (.int .i64 0), (.int .i64 0), (.int .i64 0), (.int .i64 0), (.int .i64 0), (.int .i64 0), (.int .i64 0), (.int .i64 0), .nilSlice, (.bool false), (.ptr none), (.int .i64 0), (.int .i64 0), (.int .i64 0), (.int .i64 0), (.int .i64 0), (.int .i64 0), (.int .i64 0), (.int .i64 0)] 1)
 (h46.wr h2.next 0 [x9, x10, x11, x12, x13, x14, x15, x16, x17, x18, x19, x20, x21, x22, x23, x24, x25, x26, x27, x28, x29, x30, x31, x32, x33, x34, x35, x36, x37, x38, x39, x40, x41, x42, x43, x44, x45]).bind fun h47 =>
 notNil a0 fun v48 =>
 asPtr v48 fun p49 o50 =>
 (h47.rd p49 ((o50 + 0) + 0) 1).bind fun l51 =>
 un1 l51 fun x52 =>
 bindC (F.plain 57 [x52] h47) (fun v53 h54 =>
 notNil a0 fun v55 =>
 asPtr v55 fun p56 o57 =>
 f55_2 n F h54 p56 o57 h47 a0 v53 h2)
 (fun v138 h139 => none)
/-- (*countermand/logs.Logs).Clone -/
noncomputable def f55 (n : Nat) (F : Fns) (a0 : AV) (h : Heap) : R :=
 bindC (F.plain 56 [a0] h) (fun v1 h2 =>
 (unop .not v1).bind fun v3 =>
 asB v3 fun b4 => cond b4
 (some (.ret (.ptr none), h2, none))
 (notNil a0 fun v5 =>
 asPtr v5 fun p6 o7 =>
 (h2.rd p6 o7 37).bind fun l8 =>
 un37 l8 fun x9 x10 x11 x12 x13 x14 x15 x16 x17 x18 x19 x20 x21 x22 x23 x24 x25 x26 x27 x28 x29 x30 x31 x32 x33 x34 x35 x36 x37 x38 x39 x40 x41 x42 x43 x44 x45 =>
 f55_3 n F h2 x9 x10 x11 x12 x13 x14 x15 x16 x17 x18 x19 x20 x21 x22 x23 x24 x25 x26 x27 x28 x29 x30 x31 x32 x33 x34 x35 x36 x37 x38 x39 x40 x41 x42 x43 x44 x45 a0))
 (fun v140 h141 => some (.panic v140, h141, none))

/-- (*countermand/logs.Logs).is -/
noncomputable def f56 (n : Nat) (F : Fns) (a0 : AV) (h : Heap) : R :=
 (eqop P true true 68 a0 (.ptr none)).bind fun v1 =>
 asB v1 fun b2 => cond b2
 (notNil a0 fun v3 =>
 asPtr v3 fun p4 o5 =>
 (h.rd p4 (o5 + 27) 1).bind fun l6 =>
 un1 l6 fun x7 =>
 some (.ret x7, h, none))
 (some (.ret (.bool false), h, none))

/-- slices.Clone[[]countermand/api.Change,countermand/api.Change] -/
noncomputable def f57 (n : Nat) (F : Fns) (a0 : AV) (h : Heap) : R :=
 (eqop P true false 67 a0 .nilSlice).bind fun v1 =>
 asB v1 fun b2 => cond b2
 (some (.ret .nilSlice, h, none))
 ((opAppend P (h.push (.cells [] 9)) 67 67 (.slice h.next 0 0 0 (.ex 0)) a0).bind fun r3 =>
 some (.ret r3.1, r3.2, none))

/-- (*countermand/logs.Logs).Tentative -/
noncomputable def f58 (n : Nat) (F : Fns) (a0 : AV) (h : Heap) : R :=
 bindC (F.plain 56 [a0] h) (fun v1 h2 =>
 (unop .not v1).bind fun v3 =>
 asB v3 fun b4 => cond b4
 (some (.ret .nilSlice, h2, none))
 (notNil a0 fun v5 =>
 asPtr v5 fun p6 o7 =>
 (h2.rd p6 (o7 + 28) 1).bind fun l8 =>
 un1 l8 fun x9 =>
 bindC (F.plain 97 [x9] h2) (fun v10 h11 =>
 some (.ret v10, h11, none))
 (fun v12 h13 => some (.panic v12, h13, none))))
 (fun v14 h15 => some (.panic v14, h15, none))

/-- (*countermand/ledger.Ledger).Quiet -/
noncomputable def f59 (n : Nat) (F : Fns) (a0 : AV) (h : Heap) : R :=
 bindC (F.plain 99 [a0] h) (fun v1 h2 =>
 bindC (F.plain 98 [v1, (.fn 100 [] [])] h2) (fun v3 h4 =>
 (unop .not v3).bind fun v5 =>
 some (.ret v5, h4, none))
 (fun v6 h7 => some (.panic v6, h7, none)))
 (fun v8 h9 => some (.panic v8, h9, none))

/-- (*countermand/state.State).book -/
noncomputable def f60 (n : Nat) (F : Fns) (a0 : AV) (h : Heap) : R :=
 bindC (F.plain 54 [a0] h) (fun v1 h2 =>
 (unop .not v1).bind fun v3 =>
 asB v3 fun b4 => cond b4
 (some (.ret (.ptr none), h2, none))
 (notNil a0 fun v5 =>
 asPtr v5 fun p6 o7 =>
 (h2.rd p6 (o7 + 0) 1).bind fun l8 =>
 un1 l8 fun x9 =>
 some (.ret x9, h2, none)))
 (fun v10 h11 => some (.panic v10, h11, none))

noncomputable def f61_1 (n : Nat) (F : Fns) (v33 : AV) (x31 : AV) (h34 : Heap) (x13 : AV) (x28 : AV) (x29 : AV) (x16 : AV) (self9 : List AV → Heap → R) (x12 : AV) (x14 : AV) (x15 : AV) (x17 : AV) (x18 : AV) (x19 : AV) (x20 : AV) (x21 : AV) : R :=
 asB v33 fun b35 => cond b35
 ((lenA P 173 x31).bind fun v36 =>
 (binop .sub v36 (.int .i64 1)).bind fun v37 =>
 asI v37 fun i38 =>
 elemP x31 i38 12 fun p39 o40 =>
 (h34.rd p39 o40 12).bind fun l41 =>
 un12 l41 fun x42 x43 x44 x45 x46 x47 x48 x49 x50 x51 x52 x53 =>
 bindC (F.plain 103 [(.agg [x42, x43, x44, x45, x46, x47, x48, x49, x50, x51, x52, x53])] h34) (fun v54 h55 =>
 scal x42 fun v56 =>
 scal v54 fun v57 =>
 (appendA P h55 94 x13 1 [x28, x29, v56, v57]).bind fun r58 =>
 (binop .add x16 (.int .i64 1)).bind fun v59 =>
 self9 [x12, r58.1, x14, x15, v59, x17, x18, x19, x20, x21] r58.2)
 (fun v60 h61 => some (.panic v60, h61, none)))
 ((binop .add x16 (.int .i64 1)).bind fun v62 =>
 self9 [x12, x13, x14, x15, v62, x17, x18, x19, x20, x21] h34)
noncomputable def f61_2 (n : Nat) (F : Fns) (a0 : AV) (h : Heap) (a2 : AV) (x1 : AV) (x2 : AV) (x3 : AV) (x4 : AV) (x5 : AV) : R :=
 bindC (F.plain 99 [a0] h) (fun v6 h7 =>
 (lenA P 172 v6).bind fun v8 =>
 loopV (fun vs10 h11 self9 => un10 vs10 fun x12 x13 x14 x15 x16 x17 x18 x19 x20 x21 =>
 (binop .lss x16 x15).bind fun v22 =>
 asB v22 fun b23 => cond b23
 (asI x16 fun i24 =>
 elemP x14 i24 5 fun p25 o26 =>
 (h11.rd p25 o26 5).bind fun l27 =>
 un5 l27 fun x28 x29 x30 x31 x32 =>
 bindC (F.plain 102 [(.agg [x28, x29, x30, x31]), (.agg [x17, x18, x19, x20, x21]), x12] h11) (fun v33 h34 =>
 f61_1 n F v33 x31 h34 x13 x28 x29 x16 self9 x12 x14 x15 x17 x18 x19 x20 x21)
 (fun v63 h64 => some (.panic v63, h64, none)))
 (some (.ret x13, h11, none))) n [a2, .nilSlice, v6, v8, (.int .i64 0), x1, x2, x3, x4, x5] h7)
 (fun v65 h66 => some (.panic v65, h66, none))
/-- (*countermand/ledger.Ledger).Dead -/
noncomputable def f61 (n : Nat) (F : Fns) (a0 a1 a2 : AV) (h : Heap) : R :=
 unA5 a1 fun x1 x2 x3 x4 x5 =>
 f61_2 n F a0 h a2 x1 x2 x3 x4 x5

/-- countermand/num.In -/
noncomputable def f62 (n : Nat) (F : Fns) (a0 a1 a2 : AV) (h : Heap) : R :=
 (binop .geq a0 a1).bind fun v1 =>
 asB v1 fun b2 => cond b2
 ((binop .leq a0 a2).bind fun v3 =>
 some (.ret v3, h, none))
 (some (.ret (.bool false), h, none))

/-- countermand/disk.New -/
noncomputable def f63 (n : Nat) (F : Fns) (a0 : AV) (h : Heap) : R :=
 bindC (F.plain 17 [a0, (.int .i64 0), (.int .i64 256)] h) (fun v1 h2 =>
 asI v1 fun i3 =>
 asI v1 fun i4 =>
 (opMakeSlice P h2 185 i3 i4).bind fun r5 =>
 scal r5.1 fun v6 =>
 let h7 := r5.2.push (.cells [(.bool true), (.bool false), (.int .i64 (-1)), (.int .i64 0), v6] 1)
 some (.ret (.ptr (some (r5.2.next, 0))), h7, none))
 (fun v8 h9 => some (.panic v8, h9, none))

/-- countermand/node.open -/
noncomputable def f64 (n : Nat) (F : Fns) (a0 a1 : AV) (h : Heap) : R :=
 bindC (F.plain 104 [a1] h) (fun v1 h2 =>
 unT2 v1 fun x3 x4 =>
 (unop .not x4).bind fun v5 =>
 asB v5 fun b6 => cond b6
 (some (.ret (.ptr none), h2, none))
 (bindC (F.plain 105 [a0, x3] h2) (fun v7 h8 =>
 scal x3 fun v9 =>
 scal v7 fun v10 =>
 let h11 := h8.push (.cells [v9, v10] 1)
 some (.ret (.ptr (some (h8.next, 0))), h11, none))
 (fun v12 h13 => some (.panic v12, h13, none))))
 (fun v14 h15 => some (.panic v14, h15, none))

noncomputable def f65_1 (n : Nat) (F : Fns) (v26 : AV) (x4 : AV) (v14 : AV) (x8 : AV) (x9 : AV) (x10 : AV) (x11 : AV) (v16 : AV) (v20 : AV) (v24 : AV) (x12 : AV) (x13 : AV) (h15 : Heap) : R :=
 asB v26 fun b27 => cond b27
 (scal x4 fun v28 =>
 (binop .and v14 (.int .i64 8)).bind fun v29 =>
 (eqop P true true 3 v29 (.int .i64 0)).bind fun v30 =>
 asB v30 fun b31 => cond b31
 (scal x8 fun v32 =>
 scal x9 fun v33 =>
 scal x10 fun v34 =>
 scal x11 fun v35 =>
 some (.ret (.agg [v16, v20, v24, v28, (.int .i64 0), (.int .i64 0), (.int .i64 0), v32, v33, v34, v35, x12, x13]), h15, none))
 (some (.ret (.agg [v16, v20, v24, v28, (.int .i64 0), (.int .i64 0), (.int .i64 0), (.int .i64 0), (.int .i64 0), (.int .i64 0), (.int .i64 0), (.int .i64 0), (.int .i64 0)]), h15, none)))
 ((binop .and v14 (.int .i64 8)).bind fun v36 =>
 (eqop P true true 3 v36 (.int .i64 0)).bind fun v37 =>
 asB v37 fun b38 => cond b38
 (scal x8 fun v39 =>
 scal x9 fun v40 =>
 scal x10 fun v41 =>
 scal x11 fun v42 =>
 some (.ret (.agg [v16, v20, v24, (.int .i64 0), (.int .i64 0), (.int .i64 0), (.int .i64 0), v39, v40, v41, v42, x12, x13]), h15, none))
 (some (.ret (.agg [v16, v20, v24, (.int .i64 0), (.int .i64 0), (.int .i64 0), (.int .i64 0), (.int .i64 0), (.int .i64 0), (.int .i64 0), (.int .i64 0), (.int .i64 0), (.int .i64 0)]), h15, none)))
noncomputable def f65_2 (n : Nat) (F : Fns) (v44 : AV) (x4 : AV) (v14 : AV) (x8 : AV) (x9 : AV) (x10 : AV) (x11 : AV) (v16 : AV) (v20 : AV) (x12 : AV) (x13 : AV) (h15 : Heap) : R :=
 asB v44 fun b45 => cond b45
 (scal x4 fun v46 =>
 (binop .and v14 (.int .i64 8)).bind fun v47 =>
 (eqop P true true 3 v47 (.int .i64 0)).bind fun v48 =>
 asB v48 fun b49 => cond b49
 (scal x8 fun v50 =>
 scal x9 fun v51 =>
 scal x10 fun v52 =>
 scal x11 fun v53 =>
 some (.ret (.agg [v16, v20, (.int .i64 0), v46, (.int .i64 0), (.int .i64 0), (.int .i64 0), v50, v51, v52, v53, x12, x13]), h15, none))
 (some (.ret (.agg [v16, v20, (.int .i64 0), v46, (.int .i64 0), (.int .i64 0), (.int .i64 0), (.int .i64 0), (.int .i64 0), (.int .i64 0), (.int .i64 0), (.int .i64 0), (.int .i64 0)]), h15, none)))
 ((binop .and v14 (.int .i64 8)).bind fun v54 =>
 (eqop P true true 3 v54 (.int .i64 0)).bind fun v55 =>
 asB v55 fun b56 => cond b56
 (scal x8 fun v57 =>
 scal x9 fun v58 =>
 scal x10 fun v59 =>
 scal x11 fun v60 =>
 some (.ret (.agg [v16, v20, (.int .i64 0), (.int .i64 0), (.int .i64 0), (.int .i64 0), (.int .i64 0), v57, v58, v59, v60, x12, x13]), h15, none))
 (some (.ret (.agg [v16, v20, (.int .i64 0), (.int .i64 0), (.int .i64 0), (.int .i64 0), (.int .i64 0), (.int .i64 0), (.int .i64 0), (.int .i64 0), (.int .i64 0), (.int .i64 0), (.int .i64 0)]), h15, none)))
noncomputable def f65_3 (n : Nat) (F : Fns) (v66 : AV) (x4 : AV) (v14 : AV) (x8 : AV) (x9 : AV) (x10 : AV) (x11 : AV) (v16 : AV) (v64 : AV) (x12 : AV) (x13 : AV) (h15 : Heap) : R :=
 asB v66 fun b67 => cond b67
 (scal x4 fun v68 =>
 (binop .and v14 (.int .i64 8)).bind fun v69 =>
 (eqop P true true 3 v69 (.int .i64 0)).bind fun v70 =>
 asB v70 fun b71 => cond b71
 (scal x8 fun v72 =>
 scal x9 fun v73 =>
 scal x10 fun v74 =>
 scal x11 fun v75 =>
 some (.ret (.agg [v16, (.int .i64 0), v64, v68, (.int .i64 0), (.int .i64 0), (.int .i64 0), v72, v73, v74, v75, x12, x13]), h15, none))
 (some (.ret (.agg [v16, (.int .i64 0), v64, v68, (.int .i64 0), (.int .i64 0), (.int .i64 0), (.int .i64 0), (.int .i64 0), (.int .i64 0), (.int .i64 0), (.int .i64 0), (.int .i64 0)]), h15, none)))
 ((binop .and v14 (.int .i64 8)).bind fun v76 =>
 (eqop P true true 3 v76 (.int .i64 0)).bind fun v77 =>
 asB v77 fun b78 => cond b78
 (scal x8 fun v79 =>
 scal x9 fun v80 =>
 scal x10 fun v81 =>
 scal x11 fun v82 =>
 some (.ret (.agg [v16, (.int .i64 0), v64, (.int .i64 0), (.int .i64 0), (.int .i64 0), (.int .i64 0), v79, v80, v81, v82, x12, x13]), h15, none))
 (some (.ret (.agg [v16, (.int .i64 0), v64, (.int .i64 0), (.int .i64 0), (.int .i64 0), (.int .i64 0), (.int .i64 0), (.int .i64 0), (.int .i64 0), (.int .i64 0), (.int .i64 0), (.int .i64 0)]), h15, none)))
noncomputable def f65_4 (n : Nat) (F : Fns) (v84 : AV) (x4 : AV) (v14 : AV) (x8 : AV) (x9 : AV) (x10 : AV) (x11 : AV) (v16 : AV) (x12 : AV) (x13 : AV) (h15 : Heap) : R :=
 asB v84 fun b85 => cond b85
 (scal x4 fun v86 =>
 (binop .and v14 (.int .i64 8)).bind fun v87 =>
 (eqop P true true 3 v87 (.int .i64 0)).bind fun v88 =>
 asB v88 fun b89 => cond b89
 (scal x8 fun v90 =>
 scal x9 fun v91 =>
 scal x10 fun v92 =>
 scal x11 fun v93 =>
 some (.ret (.agg [v16, (.int .i64 0), (.int .i64 0), v86, (.int .i64 0), (.int .i64 0), (.int .i64 0), v90, v91, v92, v93, x12, x13]), h15, none))
 (some (.ret (.agg [v16, (.int .i64 0), (.int .i64 0), v86, (.int .i64 0), (.int .i64 0), (.int .i64 0), (.int .i64 0), (.int .i64 0), (.int .i64 0), (.int .i64 0), (.int .i64 0), (.int .i64 0)]), h15, none)))
 ((binop .and v14 (.int .i64 8)).bind fun v94 =>
 (eqop P true true 3 v94 (.int .i64 0)).bind fun v95 =>
 asB v95 fun b96 => cond b96
 (scal x8 fun v97 =>
 scal x9 fun v98 =>
 scal x10 fun v99 =>
 scal x11 fun v100 =>
 some (.ret (.agg [v16, (.int .i64 0), (.int .i64 0), (.int .i64 0), (.int .i64 0), (.int .i64 0), (.int .i64 0), v97, v98, v99, v100, x12, x13]), h15, none))
 (some (.ret (.agg [v16, (.int .i64 0), (.int .i64 0), (.int .i64 0), (.int .i64 0), (.int .i64 0), (.int .i64 0), (.int .i64 0), (.int .i64 0), (.int .i64 0), (.int .i64 0), (.int .i64 0), (.int .i64 0)]), h15, none)))
noncomputable def f65_5 (n : Nat) (F : Fns) (v18 : AV) (x2 : AV) (v14 : AV) (x3 : AV) (x4 : AV) (x8 : AV) (x9 : AV) (x10 : AV) (x11 : AV) (v16 : AV) (x12 : AV) (x13 : AV) (h15 : Heap) : R :=
 asB v18 fun b19 => cond b19
 (scal x2 fun v20 =>
 (binop .and v14 (.int .i64 2)).bind fun v21 =>
 (eqop P true true 3 v21 (.int .i64 0)).bind fun v22 =>
 asB v22 fun b23 => cond b23
 (scal x3 fun v24 =>
 (binop .and v14 (.int .i64 4)).bind fun v25 =>
 (eqop P true true 3 v25 (.int .i64 0)).bind fun v26 =>
 f65_1 n F v26 x4 v14 x8 x9 x10 x11 v16 v20 v24 x12 x13 h15)
 ((binop .and v14 (.int .i64 4)).bind fun v43 =>
 (eqop P true true 3 v43 (.int .i64 0)).bind fun v44 =>
 f65_2 n F v44 x4 v14 x8 x9 x10 x11 v16 v20 x12 x13 h15))
 ((binop .and v14 (.int .i64 2)).bind fun v61 =>
 (eqop P true true 3 v61 (.int .i64 0)).bind fun v62 =>
 asB v62 fun b63 => cond b63
 (scal x3 fun v64 =>
 (binop .and v14 (.int .i64 4)).bind fun v65 =>
 (eqop P true true 3 v65 (.int .i64 0)).bind fun v66 =>
 f65_3 n F v66 x4 v14 x8 x9 x10 x11 v16 v64 x12 x13 h15)
 ((binop .and v14 (.int .i64 4)).bind fun v83 =>
 (eqop P true true 3 v83 (.int .i64 0)).bind fun v84 =>
 f65_4 n F v84 x4 v14 x8 x9 x10 x11 v16 x12 x13 h15))
/-- countermand/code.bare -/
noncomputable def f65 (n : Nat) (F : Fns) (a0 : AV) (h : Heap) : R :=
 unA13 a0 fun x1 x2 x3 x4 x5 x6 x7 x8 x9 x10 x11 x12 x13 =>
 bindC (F.plain 106 [x1] h) (fun v14 h15 =>
 scal x1 fun v16 =>
 (binop .and v14 (.int .i64 1)).bind fun v17 =>
 (eqop P true true 3 v17 (.int .i64 0)).bind fun v18 =>
 f65_5 n F v18 x2 v14 x3 x4 x8 x9 x10 x11 v16 x12 x13 h15)
 (fun v101 h102 => none)

noncomputable def f66_1 (n : Nat) (F : Fns) (v37 : AV) (x28 : AV) (x29 : AV) (x30 : AV) (x31 : AV) (x32 : AV) (x33 : AV) (x34 : AV) (x35 : AV) (x36 : AV) (h25 : Heap) (a0 : AV) (x27 : AV) : R :=
 asB v37 fun b38 => cond b38
 (bindC (F.plain 109 [(.agg [x28, x29, x30, x31, x32, x33, x34, x35, x36])] h25) (fun v39 h40 =>
 bindC (F.plain 108 [a0, v39] h40) (fun v41 h42 =>
 (eqop P true true 41 v41 (.int .i64 0)).bind fun v43 =>
 asB v43 fun b44 => cond b44
 (some (.ret (.tup [(.agg [(.int .i64 0), (.int .i64 0), (.int .i64 0), (.int .i64 0), (.int .i64 0), (.int .i64 0), (.int .i64 0), (.int .i64 0), (.int .i64 0)]), v41]), h42, none))
 (some (.ret (.tup [(.agg [x28, x29, x30, x31, x32, x33, x34, x35, x36]), (.int .i64 0)]), h42, none)))
 (fun v45 h46 => some (.panic v45, h46, none)))
 (fun v47 h48 => some (.panic v47, h48, none)))
 ((eqop P true true 41 x27 (.int .i64 0)).bind fun v49 =>
 asB v49 fun b50 => cond b50
 (some (.ret (.tup [(.agg [(.int .i64 0), (.int .i64 0), (.int .i64 0), (.int .i64 0), (.int .i64 0), (.int .i64 0), (.int .i64 0), (.int .i64 0), (.int .i64 0)]), x27]), h25, none))
 (some (.ret (.tup [(.agg [x28, x29, x30, x31, x32, x33, x34, x35, x36]), (.int .i64 0)]), h25, none)))
noncomputable def f66_2 (n : Nat) (F : Fns) (v12 : AV) (h11 : Heap) (a0 : AV) (x1 : AV) (x2 : AV) (x3 : AV) (x4 : AV) (x5 : AV) (x6 : AV) (x7 : AV) (x8 : AV) (x9 : AV) : R :=
 asB v12 fun b13 => cond b13
 (some (.ret (.tup [(.agg [(.int .i64 0), (.int .i64 0), (.int .i64 0), (.int .i64 0), (.int .i64 0), (.int .i64 0), (.int .i64 0), (.int .i64 0), (.int .i64 0)]), (.int .i64 19)]), h11, none))
 (notNil a0 fun v14 =>
 asPtr v14 fun p15 o16 =>
 (h11.rd p15 (o16 + 0) 1).bind fun l17 =>
 un1 l17 fun x18 =>
 notNil x18 fun v19 =>
 asPtr v19 fun p20 o21 =>
 (h11.rd p20 (o21 + 1) 1).bind fun l22 =>
 un1 l22 fun x23 =>
 bindC (F.plain 107 [x23, (.agg [x1, x2, x3, x4, x5, x6, x7, x8, x9])] h11) (fun v24 h25 =>
 unT2 v24 fun x26 x27 =>
 unA9 x26 fun x28 x29 x30 x31 x32 x33 x34 x35 x36 =>
 (eqop P true false 41 x27 (.int .i64 0)).bind fun v37 =>
 f66_1 n F v37 x28 x29 x30 x31 x32 x33 x34 x35 x36 h25 a0 x27)
 (fun v51 h52 => some (.panic v51, h52, none)))
/-- (*countermand/node.Node).Submit -/
noncomputable def f66 (n : Nat) (F : Fns) (a0 a1 : AV) (h : Heap) : R :=
 unA9 a1 fun x1 x2 x3 x4 x5 x6 x7 x8 x9 =>
 bindC (F.plain 51 [a0] h) (fun v10 h11 =>
 (unop .not v10).bind fun v12 =>
 f66_2 n F v12 h11 a0 x1 x2 x3 x4 x5 x6 x7 x8 x9)
 (fun v53 h54 => some (.panic v53, h54, none))

noncomputable def f67_1 (n : Nat) (F : Fns) (h41 : Heap) (p45 : Nat) (o46 : Nat) (v40 : AV) (v38 : AV) : R :=
 (h41.rd p45 ((o46 + 0) + 2) 25).bind fun l47 =>
 un25 l47 fun x48 x49 x50 x51 x52 x53 x54 x55 x56 x57 x58 x59 x60 x61 x62 x63 x64 x65 x66 x67 x68 x69 x70 x71 x72 =>
 (binop .add v40 (.int .i64 1)).bind fun v73 =>
 (sliceA P h41 67 v38 none (some v73) none).bind fun v74 =>
 bindC (F.plain 112 [(.agg [x48, x49, x50, x51, x52, x53, x54, x55, x56, x57, x58, x59, x60, x61, x62, x63, x64, x65, x66, x67, x68, x69, x70, x71, x72]), v74] h41) (fun v75 h76 =>
 unT2 v75 fun x77 x78 =>
 unA25 x77 fun x79 x80 x81 x82 x83 x84 x85 x86 x87 x88 x89 x90 x91 x92 x93 x94 x95 x96 x97 x98 x99 x100 x101 x102 x103 =>
 asI v40 fun i104 =>
 elemP x78 i104 2 fun p105 o106 =>
 (h76.rd p105 o106 2).bind fun l107 =>
 un2 l107 fun x108 x109 =>
 some (.ret (.tup [(.agg [x108, x109]), (.bool false), (.bool true)]), h76, none))
 (fun v110 h111 => none)
noncomputable def f67_2 (n : Nat) (F : Fns) (v14 : AV) (a0 : AV) (h13 : Heap) (v12 : AV) (x1 : AV) (x2 : AV) : R :=
 asB v14 fun b15 => cond b15
 (notNil a0 fun v16 =>
 asPtr v16 fun p17 o18 =>
 (h13.rd p17 ((o18 + 0) + 1) 1).bind fun l19 =>
 un1 l19 fun x20 =>
 asI v12 fun i21 =>
 elemP x20 i21 2 fun p22 o23 =>
 (h13.rd p22 o23 2).bind fun l24 =>
 un2 l24 fun x25 x26 =>
 bindC (F.plain 111 [(.agg [x25, x26])] h13) (fun v27 h28 =>
 unA2 v27 fun x29 x30 =>
 some (.ret (.tup [(.agg [x29, x30]), (.bool true), (.bool true)]), h28, none))
 (fun v31 h32 => some (.panic v31, h32, none)))
 (notNil a0 fun v33 =>
 asPtr v33 fun p34 o35 =>
 (h13.rd p34 (o35 + 28) 1).bind fun l36 =>
 un1 l36 fun x37 =>
 bindC (F.plain 97 [x37] h13) (fun v38 h39 =>
 bindC (F.plain 110 [v38, (.agg [x1, x2])] h39) (fun v40 h41 =>
 (binop .lss v40 (.int .i64 0)).bind fun v42 =>
 asB v42 fun b43 => cond b43
 (some (.ret (.tup [(.agg [(.int .i64 0), .nilSlice]), (.bool false), (.bool false)]), h41, none))
 (notNil a0 fun v44 =>
 asPtr v44 fun p45 o46 =>
 f67_1 n F h41 p45 o46 v40 v38))
 (fun v112 h113 => some (.panic v112, h113, none)))
 (fun v114 h115 => some (.panic v114, h115, none)))
/-- (*countermand/logs.Logs).Outcome -/
noncomputable def f67 (n : Nat) (F : Fns) (a0 a1 : AV) (h : Heap) : R :=
 unA2 a1 fun x1 x2 =>
 bindC (F.plain 56 [a0] h) (fun v3 h4 =>
 (unop .not v3).bind fun v5 =>
 asB v5 fun b6 => cond b6
 (some (.ret (.tup [(.agg [(.int .i64 0), .nilSlice]), (.bool false), (.bool false)]), h4, none))
 (notNil a0 fun v7 =>
 asPtr v7 fun p8 o9 =>
 (h4.rd p8 ((o9 + 0) + 0) 1).bind fun l10 =>
 un1 l10 fun x11 =>
 bindC (F.plain 110 [x11, (.agg [x1, x2])] h4) (fun v12 h13 =>
 (binop .geq v12 (.int .i64 0)).bind fun v14 =>
 f67_2 n F v14 a0 h13 v12 x1 x2)
 (fun v116 h117 => some (.panic v116, h117, none))))
 (fun v118 h119 => some (.panic v118, h119, none))

/-- (*countermand/node.Node).died -/
noncomputable def f68 (n : Nat) (F : Fns) (a0 a1 : AV) (h : Heap) : R :=
 (eqop P true false 41 a1 (.int .i64 19)).bind fun v1 =>
 asB v1 fun b2 => cond b2
 (bindC (F.plain 85 [a0] h) (fun v3 h4 =>
 some (.ret a1, h4, none))
 (fun v5 h6 => some (.panic v5, h6, none)))
 (some (.ret a1, h, none))

noncomputable def f69_1 (n : Nat) (F : Fns) (h11 : Heap) (p15 : Nat) (o16 : Nat) (a0 : AV) : R :=
 (h11.rd p15 (o16 + 4) 1).bind fun l17 =>
 un1 l17 fun x18 =>
 notNil a0 fun v19 =>
 asPtr v19 fun p20 o21 =>
 (h11.rd p20 (o21 + 5) 1).bind fun l22 =>
 un1 l22 fun x23 =>
 (lenA P 155 x23).bind fun v24 =>
 (binop .add x18 v24).bind fun v25 =>
 notNil a0 fun v26 =>
 asPtr v26 fun p27 o28 =>
 scal v25 fun v29 =>
 (h11.wr p27 (o28 + 4) [v29]).bind fun h30 =>
 notNil a0 fun v31 =>
 asPtr v31 fun p32 o33 =>
 (h30.rd p32 (o33 + 2) 1).bind fun l34 =>
 un1 l34 fun x35 =>
 (lenA P 199 x35).bind fun v36 =>
 notNil a0 fun v37 =>
 asPtr v37 fun p38 o39 =>
 (h30.wr p38 (o39 + 5) [.nilSlice]).bind fun h40 =>
 notNil a0 fun v41 =>
 asPtr v41 fun p42 o43 =>
 scal v36 fun v44 =>
 (h40.wr p42 (o43 + 3) [v44]).bind fun h45 =>
 some (.ret (.int .i64 0), h45, none)
noncomputable def f69_2 (n : Nat) (F : Fns) (h71 : Heap) (p75 : Nat) (o76 : Nat) (a0 : AV) : R :=
 (h71.rd p75 (o76 + 4) 1).bind fun l77 =>
 un1 l77 fun x78 =>
 notNil a0 fun v79 =>
 asPtr v79 fun p80 o81 =>
 (h71.rd p80 (o81 + 5) 1).bind fun l82 =>
 un1 l82 fun x83 =>
 (lenA P 155 x83).bind fun v84 =>
 (binop .add x78 v84).bind fun v85 =>
 notNil a0 fun v86 =>
 asPtr v86 fun p87 o88 =>
 scal v85 fun v89 =>
 (h71.wr p87 (o88 + 4) [v89]).bind fun h90 =>
 notNil a0 fun v91 =>
 asPtr v91 fun p92 o93 =>
 (h90.rd p92 (o93 + 2) 1).bind fun l94 =>
 un1 l94 fun x95 =>
 (lenA P 199 x95).bind fun v96 =>
 notNil a0 fun v97 =>
 asPtr v97 fun p98 o99 =>
 (h90.wr p98 (o99 + 5) [.nilSlice]).bind fun h100 =>
 notNil a0 fun v101 =>
 asPtr v101 fun p102 o103 =>
 scal v96 fun v104 =>
 (h100.wr p102 (o103 + 3) [v104]).bind fun h105 =>
 some (.ret (.int .i64 0), h105, none)
noncomputable def f69_3 (n : Nat) (F : Fns) (h11 : Heap) (p53 : Nat) (o54 : Nat) (p47 : Nat) (o48 : Nat) (l49 : List AV) (a0 : AV) (x50 : AV) (x51 : AV) : R :=
 (h11.rd p53 (o54 + 0) 2).bind fun l55 =>
 un2 l55 fun x56 x57 =>
 bindC (F.plain 116 [(.agg [x56, x57])] h11) (fun v58 h59 =>
 same (h59.rd p47 (o48 + 0) 2) l49
 (notNil a0 fun v60 =>
 asPtr v60 fun p61 o62 =>
 (h59.rd p61 (o62 + 4) 1).bind fun l63 =>
 same (h11.rd p61 (o62 + 4) 1) l63
 (un1 l63 fun x64 =>
 notNil a0 fun v65 =>
 asPtr v65 fun p66 o67 =>
 (h59.rd p66 (o67 + 5) 1).bind fun l68 =>
 same (h11.rd p66 (o67 + 5) 1) l68
 (un1 l68 fun x69 =>
 bindC (F.plain 115 [(.agg [x50, x51]), v58, x64, x69] h59) (fun v70 h71 =>
 (unop .not v70).bind fun v72 =>
 asB v72 fun b73 => cond b73
 (some (.ret (.int .i64 19), h71, none))
 (notNil a0 fun v74 =>
 asPtr v74 fun p75 o76 =>
 f69_2 n F h71 p75 o76 a0))
 (fun v106 h107 => some (.panic v106, h107, none))))))
 (fun v108 h109 => none)
noncomputable def f69_4 (n : Nat) (F : Fns) (a0 : AV) (h : Heap) : R :=
 bindC (F.plain 113 [a0] h) (fun v1 h2 =>
 (unop .not v1).bind fun v3 =>
 asB v3 fun b4 => cond b4
 (some (.ret (.int .i64 9), h2, none))
 (notNil a0 fun v5 =>
 asPtr v5 fun p6 o7 =>
 (h2.rd p6 ((o7 + 0) + 0) 1).bind fun l8 =>
 un1 l8 fun x9 =>
 bindC (F.plain 114 [x9] h2) (fun v10 h11 =>
 asB v10 fun b12 => cond b12
 (asB v10 fun b13 => cond b13
 (some (.ret (.int .i64 19), h11, none))
 (notNil a0 fun v14 =>
 asPtr v14 fun p15 o16 =>
 f69_1 n F h11 p15 o16 a0))
 (notNil a0 fun v46 =>
 asPtr v46 fun p47 o48 =>
 (h11.rd p47 (o48 + 0) 2).bind fun l49 =>
 un2 l49 fun x50 x51 =>
 notNil a0 fun v52 =>
 asPtr v52 fun p53 o54 =>
 f69_3 n F h11 p53 o54 p47 o48 l49 a0 x50 x51))
 (fun v110 h111 => some (.panic v110, h111, none))))
 (fun v112 h113 => some (.panic v112, h113, none))
/-- (*countermand/wal.Log).Sync -/
noncomputable def f69 (n : Nat) (F : Fns) (a0 : AV) (h : Heap) : R :=
 f69_4 n F a0 h

/-- (*countermand/world.outside).post -/
noncomputable def f70 (n : Nat) (F : Fns) (a0 a1 : AV) (h : Heap) : R :=
 unA19 a1 fun x1 x2 x3 x4 x5 x6 x7 x8 x9 x10 x11 x12 x13 x14 x15 x16 x17 x18 x19 =>
 bindC (F.plain 117 [(.agg [x1, x2, x3, x4, x5, x6, x7, x8, x9, x10, x11, x12, x13, x14, x15, x16, x17, x18, x19])] h) (fun v20 h21 =>
 unT2 v20 fun x22 x23 =>
 (eqop P true true 41 x23 (.int .i64 0)).bind fun v24 =>
 asB v24 fun b25 => cond b25
 (some (.ret (.int .i64 0), h21, none))
 (notNil a0 fun v26 =>
 asPtr v26 fun p27 o28 =>
 (h21.rd p27 (o28 + 0) 1).bind fun l29 =>
 un1 l29 fun x30 =>
 bindC (F.plain 118 [x30, x3, x22] h21) (fun v31 h32 =>
 (unop .not v31).bind fun v33 =>
 asB v33 fun b34 => cond b34
 (some (.ret (.int .i64 0), h32, none))
 (some (.ret (.int .i64 1), h32, none)))
 (fun v35 h36 => some (.panic v35, h36, none))))
 (fun v37 h38 => some (.panic v37, h38, none))

noncomputable def f71_1 (n : Nat) (F : Fns) (a0 : AV) (h2 : Heap) (a1 : AV) : R :=
 bindC (F.plain 25 [a0] h2) (fun v5 h6 =>
 bindC (F.plain 119 [a0] h6) (fun v7 h8 =>
 bindC (F.plain 120 [v5] h8) (fun v9 h10 =>
 bindC (F.plain 26 [v5] h10) (fun v11 h12 =>
 (lenA P 67 v11).bind fun v13 =>
 scal v7 fun v14 =>
 scal a1 fun v15 =>
 unA4 v9 fun x16 x17 x18 x19 =>
 scal v13 fun v20 =>
 some (.ret (.agg [(.int .i64 1), v14, v15, x16, x17, x18, x19, v20, .nilSlice, .nilSlice, (.int .i64 0), (.int .i64 0), (.int .i64 0), (.bool false), (.int .i64 0), (.int .i64 0), (.int .i64 0), (.int .i64 0), (.int .i64 0)]), h12, none))
 (fun v21 h22 => some (.panic v21, h22, none)))
 (fun v23 h24 => some (.panic v23, h24, none)))
 (fun v25 h26 => some (.panic v25, h26, none)))
 (fun v27 h28 => some (.panic v27, h28, none))
/-- countermand/peer.Ask -/
noncomputable def f71 (n : Nat) (F : Fns) (a0 a1 : AV) (h : Heap) : R :=
 bindC (F.plain 119 [a0] h) (fun v1 h2 =>
 (binop .lss v1 (.int .i64 0)).bind fun v3 =>
 asB v3 fun b4 => cond b4
 (some (.ret (.agg [(.int .i64 0), (.int .i64 0), (.int .i64 0), (.int .i64 0), (.int .i64 0), (.int .i64 0), (.int .i64 0), (.int .i64 0), .nilSlice, .nilSlice, (.int .i64 0), (.int .i64 0), (.int .i64 0), (.bool false), (.int .i64 0), (.int .i64 0), (.int .i64 0), (.int .i64 0), (.int .i64 0)]), h2, none))
 (f71_1 n F a0 h2 a1))
 (fun v29 h30 => some (.panic v29, h30, none))

/-- (*countermand/logs.Logs).First -/
noncomputable def f72 (n : Nat) (F : Fns) (a0 : AV) (h : Heap) : R :=
 bindC (F.plain 56 [a0] h) (fun v1 h2 =>
 (unop .not v1).bind fun v3 =>
 asB v3 fun b4 => cond b4
 (some (.ret (.tup [(.agg [(.int .i64 0), (.int .i64 0)]), (.bool false)]), h2, none))
 (notNil a0 fun v5 =>
 asPtr v5 fun p6 o7 =>
 (h2.rd p6 (o7 + 28) 1).bind fun l8 =>
 un1 l8 fun x9 =>
 bindC (F.plain 121 [x9] h2) (fun v10 h11 =>
 unT2 v10 fun x12 x13 =>
 unA9 x12 fun x14 x15 x16 x17 x18 x19 x20 x21 x22 =>
 some (.ret (.tup [(.agg [x14, x15]), x13]), h11, none))
 (fun v23 h24 => some (.panic v23, h24, none))))
 (fun v25 h26 => some (.panic v25, h26, none))

noncomputable def f73_1 (n : Nat) (F : Fns) (a0 : AV) (a1 : AV) (v5 : AV) (h2 : Heap) : R :=
 loopV (fun vs7 h8 self6 => un5 vs7 fun x9 x10 x11 x12 x13 =>
 (binop .lss x13 x12).bind fun v14 =>
 asB v14 fun b15 => cond b15
 (asI x13 fun i16 =>
 elemP x11 i16 17 fun p17 o18 =>
 (h8.rd p17 o18 17).bind fun l19 =>
 un17 l19 fun x20 x21 x22 x23 x24 x25 x26 x27 x28 x29 x30 x31 x32 x33 x34 x35 x36 =>
 bindC (F.plain 108 [x9, (.agg [x20, x21, x22, x23, x24, x25, x26, x27, x28, x29, x30, x31, x32, x33, x34, x35, x36])] h8) (fun v37 h38 =>
 (eqop P true true 41 v37 (.int .i64 0)).bind fun v39 =>
 asB v39 fun b40 => cond b40
 (some (.ret (.tup [x13, v37]), h38, none))
 ((binop .add x13 (.int .i64 1)).bind fun v41 =>
 self6 [x9, x10, x11, x12, v41] h38))
 (fun v42 h43 => some (.panic v42, h43, none)))
 ((lenA P 210 x10).bind fun v44 =>
 some (.ret (.tup [v44, (.int .i64 0)]), h8, none))) n [a0, a1, a1, v5, (.int .i64 0)] h2
/-- (*countermand/node.Node).Take -/
noncomputable def f73 (n : Nat) (F : Fns) (a0 a1 : AV) (h : Heap) : R :=
 bindC (F.plain 51 [a0] h) (fun v1 h2 =>
 (unop .not v1).bind fun v3 =>
 asB v3 fun b4 => cond b4
 (some (.ret (.tup [(.int .i64 0), (.int .i64 19)]), h2, none))
 ((lenA P 210 a1).bind fun v5 =>
 f73_1 n F a0 a1 v5 h2))
 (fun v45 h46 => some (.panic v45, h46, none))

/-- countermand/record.Commit -/
noncomputable def f74 (n : Nat) (F : Fns) (a0 : AV) (h : Heap) : R :=
 unA2 a0 fun x1 x2 =>
 some (.ret (.agg [(.int .i64 2), (.int .i64 0), (.int .i64 0), (.int .i64 0), (.int .i64 0), (.int .i64 0), (.int .i64 0), (.int .i64 0), (.int .i64 0), (.int .i64 0), x1, x2, (.int .i64 0), (.int .i64 0), (.int .i64 0), (.bool false), (.int .i64 0)]), h, none)

noncomputable def f75_1 (n : Nat) (F : Fns) (x43 : AV) (x44 : AV) (x45 : AV) (x46 : AV) (x31 : AV) (h29 : Heap) (x30 : AV) (x32 : AV) (x47 : AV) (x48 : AV) (x49 : AV) (x50 : AV) (x51 : AV) (x36 : AV) (self27 : List AV → Heap → R) (x34 : AV) (x35 : AV) : R :=
 bindC (F.plain 123 [(.agg [x43, x44, x45, x46]), x31] h29) (fun v52 h53 =>
 bindC (F.plain 108 [x30, v52] h53) (fun v54 h55 =>
 (eqop P true true 41 v54 (.int .i64 0)).bind fun v56 =>
 asB v56 fun b57 => cond b57
 (bindC (F.plain 39 [x30] h55) (fun v58 h59 =>
 (eqop P true true 41 v58 (.int .i64 0)).bind fun v60 =>
 asB v60 fun b61 => cond b61
 (some (.ret (.tup [.nilSlice, v58]), h59, none))
 (some (.ret (.tup [x32, v54]), h59, none)))
 (fun v62 h63 => some (.panic v62, h63, none)))
 ((appendA P h55 98 x32 1 [x43, x44, x45, x46, x47, x48, x49, x50, x51]).bind fun r64 =>
 (binop .add x36 (.int .i64 1)).bind fun v65 =>
 self27 [x30, x31, r64.1, v54, x34, x35, v65] r64.2))
 (fun v66 h67 => some (.panic v66, h67, none)))
 (fun v68 h69 => some (.panic v68, h69, none))
noncomputable def f75_2 (n : Nat) (F : Fns) (x14 : AV) (x19 : AV) (x20 : AV) (x21 : AV) (x22 : AV) (x23 : AV) (a1 : AV) (h2 : Heap) (a0 : AV) : R :=
 bindC (F.plain 122 [x14, (.agg [x19, x20, x21, x22, x23]), a1] h2) (fun v24 h25 =>
 (lenA P 53 v24).bind fun v26 =>
 loopV (fun vs28 h29 self27 => un7 vs28 fun x30 x31 x32 x33 x34 x35 x36 =>
 (binop .lss x36 x35).bind fun v37 =>
 asB v37 fun b38 => cond b38
 (asI x36 fun i39 =>
 elemP x34 i39 9 fun p40 o41 =>
 (h29.rd p40 o41 9).bind fun l42 =>
 un9 l42 fun x43 x44 x45 x46 x47 x48 x49 x50 x51 =>
 f75_1 n F x43 x44 x45 x46 x31 h29 x30 x32 x47 x48 x49 x50 x51 x36 self27 x34 x35)
 (bindC (F.plain 39 [x30] h29) (fun v70 h71 =>
 (eqop P true true 41 v70 (.int .i64 0)).bind fun v72 =>
 asB v72 fun b73 => cond b73
 (some (.ret (.tup [.nilSlice, v70]), h71, none))
 (some (.ret (.tup [x32, x33]), h71, none)))
 (fun v74 h75 => some (.panic v74, h75, none)))) n [a0, a1, .nilSlice, (.int .i64 0), v24, v26, (.int .i64 0)] h25)
 (fun v76 h77 => none)
/-- (*countermand/node.Node).Pump -/
noncomputable def f75 (n : Nat) (F : Fns) (a0 a1 : AV) (h : Heap) : R :=
 bindC (F.plain 51 [a0] h) (fun v1 h2 =>
 (unop .not v1).bind fun v3 =>
 asB v3 fun b4 => cond b4
 (some (.ret (.tup [.nilSlice, (.int .i64 19)]), h2, none))
 (notNil a0 fun v5 =>
 asPtr v5 fun p6 o7 =>
 (h2.rd p6 (o7 + 0) 1).bind fun l8 =>
 un1 l8 fun x9 =>
 notNil x9 fun v10 =>
 asPtr v10 fun p11 o12 =>
 (h2.rd p11 (o12 + 1) 1).bind fun l13 =>
 un1 l13 fun x14 =>
 notNil a0 fun v15 =>
 asPtr v15 fun p16 o17 =>
 (h2.rd p16 (o17 + 1) 5).bind fun l18 =>
 un5 l18 fun x19 x20 x21 x22 x23 =>
 f75_2 n F x14 x19 x20 x21 x22 x23 a1 h2 a0))
 (fun v78 h79 => some (.panic v78, h79, none))

/-- (*countermand/wire.Wire).To -/
noncomputable def f76 (n : Nat) (F : Fns) (a0 a1 : AV) (h : Heap) : R :=
 bindC (F.plain 124 [a0, a1] h) (fun v1 h2 =>
 (eqop P true false 213 v1 (.ptr none)).bind fun v3 =>
 asB v3 fun b4 => cond b4
 (some (.ret (.int .i64 (-1)), h2, none))
 (notNil v1 fun v5 =>
 asPtr v5 fun p6 o7 =>
 (h2.rd p6 (o7 + 0) 1).bind fun l8 =>
 un1 l8 fun x9 =>
 some (.ret x9, h2, none)))
 (fun v10 h11 => some (.panic v10, h11, none))

noncomputable def f77_1 (n : Nat) (F : Fns) (a0 : AV) (a1 : AV) (h : Heap) : R :=
 bindC (F.plain 124 [a0, a1] h) (fun v1 h2 =>
 (eqop P true false 213 v1 (.ptr none)).bind fun v3 =>
 asB v3 fun b4 => cond b4
 (some (.ret (.tup [.nilSlice, (.bool false)]), h2, none))
 (notNil v1 fun v5 =>
 asPtr v5 fun p6 o7 =>
 (h2.rd p6 (o7 + 1) 1).bind fun l8 =>
 un1 l8 fun x9 =>
 notNil a0 fun v10 =>
 asPtr v10 fun p11 o12 =>
 (h2.rd p11 (o12 + 0) 1).bind fun l13 =>
 un1 l13 fun x14 =>
 (binop .add a1 (.int .i64 1)).bind fun v15 =>
 bindC (F.plain 125 [x14, a1, v15] h2) (fun v16 h17 =>
 notNil a0 fun v18 =>
 asPtr v18 fun p19 o20 =>
 scal v16 fun v21 =>
 (h17.wr p19 (o20 + 0) [v21]).bind fun h22 =>
 some (.ret (.tup [x9, (.bool true)]), h22, none))
 (fun v23 h24 => some (.panic v23, h24, none))))
 (fun v25 h26 => some (.panic v25, h26, none))
/-- (*countermand/wire.Wire).Take -/
noncomputable def f77 (n : Nat) (F : Fns) (a0 a1 : AV) (h : Heap) : R :=
 f77_1 n F a0 a1 h

noncomputable def f78_1 (n : Nat) (F : Fns) (h41 : Heap) (a0 : AV) (v46 : AV) (h14 : Heap) : R :=
 (opBytes P h41 5 a0).bind fun v47 =>
 (eqop P false true 9 v46 v47).bind fun v48 =>
 asB v48 fun b49 => cond b49
 (some (.ret (.tup [(.agg [(.int .i64 0), (.int .i64 0), (.int .i64 0), (.int .i64 0), (.int .i64 0), (.int .i64 0), (.int .i64 0), (.int .i64 0), .nilSlice, .nilSlice, (.int .i64 0), (.int .i64 0), (.int .i64 0), (.bool false), (.int .i64 0), (.int .i64 0), (.int .i64 0), (.int .i64 0), (.int .i64 0)]), (.int .i64 16)]), h41, none))
 ((h41.rd h14.next 0 19).bind fun l50 =>
 un19 l50 fun x51 x52 x53 x54 x55 x56 x57 x58 x59 x60 x61 x62 x63 x64 x65 x66 x67 x68 x69 =>
 some (.ret (.tup [(.agg [x51, x52, x53, x54, x55, x56, x57, x58, x59, x60, x61, x62, x63, x64, x65, x66, x67, x68, x69]), (.int .i64 0)]), h41, none))
noncomputable def f78_2 (n : Nat) (F : Fns) (h19 : Heap) (h14 : Heap) (a0 : AV) : R :=
 (h19.rd h14.next 0 19).bind fun l20 =>
 un19 l20 fun x21 x22 x23 x24 x25 x26 x27 x28 x29 x30 x31 x32 x33 x34 x35 x36 x37 x38 x39 =>
 bindC (F.plain 117 [(.agg [x21, x22, x23, x24, x25, x26, x27, x28, x29, x30, x31, x32, x33, x34, x35, x36, x37, x38, x39])] h19) (fun v40 h41 =>
 unT2 v40 fun x42 x43 =>
 (eqop P true true 41 x43 (.int .i64 0)).bind fun v44 =>
 asB v44 fun b45 => cond b45
 (some (.ret (.tup [(.agg [(.int .i64 0), (.int .i64 0), (.int .i64 0), (.int .i64 0), (.int .i64 0), (.int .i64 0), (.int .i64 0), (.int .i64 0), .nilSlice, .nilSlice, (.int .i64 0), (.int .i64 0), (.int .i64 0), (.bool false), (.int .i64 0), (.int .i64 0), (.int .i64 0), (.int .i64 0), (.int .i64 0)]), (.int .i64 16)]), h41, none))
 ((opBytes P h41 5 x42).bind fun v46 =>
 f78_1 n F h41 a0 v46 h14))
 (fun v70 h71 => some (.panic v70, h71, none))
noncomputable def f78_3 (n : Nat) (F : Fns) (v8 : AV) (h7 : Heap) (a0 : AV) : R :=
 bindC (F.plain 128 [(.agg [v8]), (.int .i64 1)] h7) (fun v9 h10 =>
 bindC (F.plain 128 [(.agg [v8]), (.int .i64 1)] h10) (fun v11 h12 =>
 bindC (F.plain 128 [(.agg [v8]), (.int .i64 1)] h12) (fun v13 h14 =>
 scal v9 fun v15 =>
 scal v11 fun v16 =>
 scal v13 fun v17 =>
 bindC (F.plain 129 [(.agg [v8]), (.ptr (some (h14.next, 0)))] (h14.push (.cells [v15, v16, v17, (.int .i64 0), (.int .i64 0), (.int .i64 0), (.int .i64 0), (.int .i64 0), .nilSlice, .nilSlice, (.int .i64 0), (.int .i64 0), (.int .i64 0), (.bool false), (.int .i64 0), (.int .i64 0), (.int .i64 0), (.int .i64 0), (.int .i64 0)] 1))) (fun v18 h19 =>
 unT0 v18 fun _u =>
 f78_2 n F h19 h14 a0)
 (fun v72 h73 => some (.panic v72, h73, none)))
 (fun v74 h75 => none))
 (fun v76 h77 => none))
 (fun v78 h79 => none)
/-- countermand/msg.Get -/
noncomputable def f78 (n : Nat) (F : Fns) (a0 : AV) (h : Heap) : R :=
 bindC (F.plain 126 [a0] h) (fun v1 h2 =>
 unT3 v1 fun x3 x4 x5 =>
 bindC (F.plain 127 [x3] h2) (fun v6 h7 =>
 scal v6 fun v8 =>
 f78_3 n F v8 h7 a0)
 (fun v80 h81 => some (.panic v80, h81, none)))
 (fun v82 h83 => some (.panic v82, h83, none))

noncomputable def f79_1 (n : Nat) (F : Fns) (v20 : AV) (h : Heap) (x11 : AV) (x12 : AV) (x13 : AV) (x14 : AV) (x15 : AV) (x16 : AV) (x17 : AV) (x18 : AV) (x19 : AV) (x2 : AV) (a0 : AV) : R :=
 asPtr v20 fun p21 o22 =>
 (h.rd p21 (o22 + 1) 1).bind fun l23 =>
 un1 l23 fun x24 =>
 bindC (F.plain 130 [x24, (.agg [x11, x12, x13, x14, x15, x16, x17, x18, x19])] h) (fun v25 h26 =>
 (unop .not v25).bind fun v27 =>
 asB v27 fun b28 => cond b28
 (some (.ret (.int .i64 0), h26, none))
 (scal x2 fun v29 =>
 bindC (F.plain 70 [a0, (.agg [(.int .i64 4), (.int .i64 9), v29, (.int .i64 0), (.int .i64 0), (.int .i64 0), (.int .i64 0), (.int .i64 0), .nilSlice, .nilSlice, x11, x12, x13, x14, (.int .i64 0), (.int .i64 0), (.int .i64 0), (.int .i64 0), (.int .i64 0)])] h26) (fun v30 h31 =>
 some (.ret v30, h31, none))
 (fun v32 h33 => some (.panic v32, h33, none))))
 (fun v34 h35 => some (.panic v34, h35, none))
/-- (*countermand/world.outside).request -/
noncomputable def f79 (n : Nat) (F : Fns) (a0 a1 : AV) (h : Heap) : R :=
 unA19 a1 fun x1 x2 x3 x4 x5 x6 x7 x8 x9 x10 x11 x12 x13 x14 x15 x16 x17 x18 x19 =>
 notNil a0 fun v20 =>
 f79_1 n F v20 h x11 x12 x13 x14 x15 x16 x17 x18 x19 x2 a0

noncomputable def f80_1 (n : Nat) (F : Fns) (a1 : AV) (h23 : Heap) (x1 : AV) (x2 : AV) (x3 : AV) (x4 : AV) (x5 : AV) (x6 : AV) (x7 : AV) (x8 : AV) (x9 : AV) (x10 : AV) (x11 : AV) (x12 : AV) (x13 : AV) (x14 : AV) (x15 : AV) (x16 : AV) (x17 : AV) (x18 : AV) (x19 : AV) (a0 : AV) : R :=
 bindC (F.plain 52 [a1] h23) (fun v26 h27 =>
 bindC (F.plain 131 [v26, (.agg [x1, x2, x3, x4, x5, x6, x7, x8, x9, x10, x11, x12, x13, x14, x15, x16, x17, x18, x19])] h27) (fun v28 h29 =>
 unT2 v28 fun x30 x31 =>
 unA19 x30 fun x32 x33 x34 x35 x36 x37 x38 x39 x40 x41 x42 x43 x44 x45 x46 x47 x48 x49 x50 =>
 notNil a0 fun v51 =>
 asPtr v51 fun p52 o53 =>
 bindC (F.plain 70 [(.ptr (some (p52, (o53 + 0)))), (.agg [x32, x33, x34, x35, x36, x37, x38, x39, x40, x41, x42, x43, x44, x45, x46, x47, x48, x49, x50])] h29) (fun v54 h55 =>
 scal v54 fun v56 =>
 some (.ret (.agg [(.int .i64 0), v56, (.int .i64 0)]), h55, none))
 (fun v57 h58 => some (.panic v57, h58, none)))
 (fun v59 h60 => none))
 (fun v61 h62 => none)
noncomputable def f80_2 (n : Nat) (F : Fns) (h87 : Heap) (p88 : Nat) (o89 : Nat) (r85 : AV × Heap) (v86 : AV) (a1 : AV) : R :=
 (h87.rd p88 o89 17).bind fun l90 =>
 same (r85.2.rd p88 o89 17) l90
 (un17 l90 fun x91 x92 x93 x94 x95 x96 x97 x98 x99 x100 x101 x102 x103 x104 x105 x106 x107 =>
 bindC (F.plain 134 [v86, (.agg [x91, x92, x93, x94, x95, x96, x97, x98, x99, x100, x101, x102, x103, x104, x105, x106, x107])] h87) (fun v108 h109 =>
 (eqop P true true 41 v108 (.int .i64 0)).bind fun v110 =>
 asB v110 fun b111 => cond b111
 (some (.ret (.agg [(.int .i64 0), (.int .i64 0), (.int .i64 0)]), h109, none))
 (bindC (F.plain 73 [a1, r85.1] h109) (fun v112 h113 =>
 unT2 v112 fun x114 x115 =>
 scal x115 fun v116 =>
 scal x114 fun v117 =>
 some (.ret (.agg [v116, v117, (.int .i64 0)]), h113, none))
 (fun v118 h119 => some (.panic v118, h119, none))))
 (fun v120 h121 => some (.panic v120, h121, none)))
noncomputable def f80_3 (n : Nat) (F : Fns) (v65 : AV) (a1 : AV) (h : Heap) (x1 : AV) (x2 : AV) (x3 : AV) (x4 : AV) (x5 : AV) (x6 : AV) (x7 : AV) (x8 : AV) (x9 : AV) (x10 : AV) (x11 : AV) (x12 : AV) (x13 : AV) (x14 : AV) (x15 : AV) (x16 : AV) (x17 : AV) (x18 : AV) (x19 : AV) : R :=
 asB v65 fun b66 => cond b66
 (bindC (F.plain 52 [a1] h) (fun v67 h68 =>
 bindC (F.plain 132 [v67, (.agg [x1, x2, x3, x4, x5, x6, x7, x8, x9, x10, x11, x12, x13, x14, x15, x16, x17, x18, x19])] h68) (fun v69 h70 =>
 bindC (F.plain 73 [a1, v69] h70) (fun v71 h72 =>
 unT2 v71 fun x73 x74 =>
 scal x74 fun v75 =>
 scal x73 fun v76 =>
 some (.ret (.agg [v75, v76, (.int .i64 0)]), h72, none))
 (fun v77 h78 => some (.panic v77, h78, none)))
 (fun v79 h80 => some (.panic v79, h80, none)))
 (fun v81 h82 => none))
 (bindC (F.plain 133 [(.agg [x11, x12, x13, x14])] h) (fun v83 h84 =>
 (opBuildSlice P h84 210 1 [(0, v83)]).bind fun r85 =>
 bindC (F.plain 52 [a1] r85.2) (fun v86 h87 =>
 elemP r85.1 0 17 fun p88 o89 =>
 f80_2 n F h87 p88 o89 r85 v86 a1)
 (fun v122 h123 => none))
 (fun v124 h125 => some (.panic v124, h125, none)))
/-- (*countermand/world.World).hear -/
noncomputable def f80 (n : Nat) (F : Fns) (a0 a1 a2 : AV) (h : Heap) : R :=
 unA19 a2 fun x1 x2 x3 x4 x5 x6 x7 x8 x9 x10 x11 x12 x13 x14 x15 x16 x17 x18 x19 =>
 (eqop P true false 3 x1 (.int .i64 1)).bind fun v20 =>
 asB v20 fun b21 => cond b21
 (bindC (F.plain 39 [a1] h) (fun v22 h23 =>
 (eqop P true true 41 v22 (.int .i64 0)).bind fun v24 =>
 asB v24 fun b25 => cond b25
 (some (.ret (.agg [(.int .i64 0), (.int .i64 0), (.int .i64 0)]), h23, none))
 (f80_1 n F a1 h23 x1 x2 x3 x4 x5 x6 x7 x8 x9 x10 x11 x12 x13 x14 x15 x16 x17 x18 x19 a0))
 (fun v63 h64 => some (.panic v63, h64, none)))
 ((eqop P true false 3 x1 (.int .i64 2)).bind fun v65 =>
 f80_3 n F v65 a1 h x1 x2 x3 x4 x5 x6 x7 x8 x9 x10 x11 x12 x13 x14 x15 x16 x17 x18 x19)

/-- (*countermand/wire.Wire).Copy -/
noncomputable def f81 (n : Nat) (F : Fns) (a0 a1 : AV) (h : Heap) : R :=
 bindC (F.plain 124 [a0, a1] h) (fun v1 h2 =>
 (eqop P true true 213 v1 (.ptr none)).bind fun v3 =>
 asB v3 fun b4 => cond b4
 (notNil v1 fun v5 =>
 asPtr v5 fun p6 o7 =>
 (h2.rd p6 o7 3).bind fun l8 =>
 un3 l8 fun x9 x10 x11 =>
 bindC (F.plain 90 [a0, (.agg [x9, x10, x11])] h2) (fun v12 h13 =>
 some (.ret v12, h13, none))
 (fun v14 h15 => some (.panic v14, h15, none)))
 (some (.ret (.bool false), h2, none)))
 (fun v16 h17 => some (.panic v16, h17, none))

/-- (*countermand/wire.Wire).Broken -/
noncomputable def f82 (n : Nat) (F : Fns) (a0 a1 : AV) (h : Heap) : R :=
 bindC (F.plain 124 [a0, a1] h) (fun v1 h2 =>
 (eqop P true true 213 v1 (.ptr none)).bind fun v3 =>
 asB v3 fun b4 => cond b4
 (notNil v1 fun v5 =>
 asPtr v5 fun p6 o7 =>
 (h2.rd p6 (o7 + 2) 1).bind fun l8 =>
 un1 l8 fun x9 =>
 some (.ret x9, h2, none))
 (some (.ret (.bool false), h2, none)))
 (fun v10 h11 => some (.panic v10, h11, none))

noncomputable def f83_1 (n : Nat) (F : Fns) (v13 : AV) (v19 : AV) (h2 : Heap) (v1 : AV) (a2 : AV) : R :=
 (binop .geq v13 v19).bind fun v20 =>
 asB v20 fun b21 => cond b21
 (some (.ret (.bool false), h2, none))
 (notNil v1 fun v22 =>
 asPtr v22 fun p23 o24 =>
 (h2.rd p23 (o24 + 1) 1).bind fun l25 =>
 un1 l25 fun x26 =>
 (binop .quo a2 (.int .i64 8)).bind fun v27 =>
 asI v27 fun i28 =>
 elemP x26 i28 1 fun p29 o30 =>
 (h2.rd p29 o30 1).bind fun l31 =>
 un1 l31 fun x32 =>
 (binop .rem a2 (.int .i64 8)).bind fun v33 =>
 (binop .shl (.int .u8 1) v33).bind fun v34 =>
 (binop .xor x32 v34).bind fun v35 =>
 asI v27 fun i36 =>
 elemP x26 i36 1 fun p37 o38 =>
 scal v35 fun v39 =>
 (h2.wr p37 o38 [v39]).bind fun h40 =>
 notNil v1 fun v41 =>
 asPtr v41 fun p42 o43 =>
 (h40.wr p42 (o43 + 2) [(.bool true)]).bind fun h44 =>
 some (.ret (.bool true), h44, none))
/-- (*countermand/wire.Wire).Flip -/
noncomputable def f83 (n : Nat) (F : Fns) (a0 a1 a2 : AV) (h : Heap) : R :=
 bindC (F.plain 124 [a0, a1] h) (fun v1 h2 =>
 (eqop P true false 213 v1 (.ptr none)).bind fun v3 =>
 asB v3 fun b4 => cond b4
 (some (.ret (.bool false), h2, none))
 (notNil v1 fun v5 =>
 asPtr v5 fun p6 o7 =>
 (h2.rd p6 (o7 + 2) 1).bind fun l8 =>
 un1 l8 fun x9 =>
 asB x9 fun b10 => cond b10
 (some (.ret (.bool false), h2, none))
 ((binop .lss a2 (.int .i64 0)).bind fun v11 =>
 asB v11 fun b12 => cond b12
 (some (.ret (.bool false), h2, none))
 ((binop .quo a2 (.int .i64 8)).bind fun v13 =>
 notNil v1 fun v14 =>
 asPtr v14 fun p15 o16 =>
 (h2.rd p15 (o16 + 1) 1).bind fun l17 =>
 un1 l17 fun x18 =>
 (lenA P 155 x18).bind fun v19 =>
 f83_1 n F v13 v19 h2 v1 a2))))
 (fun v45 h46 => some (.panic v45, h46, none))

/-- (*countermand/gate.Gate).Refuse -/
noncomputable def f84 (n : Nat) (F : Fns) (a0 a1 : AV) (h : Heap) : R :=
 (eqop P true true 25 a0 (.ptr none)).bind fun v1 =>
 asB v1 fun b2 => cond b2
 (bindC (F.plain 17 [a1, (.int .i64 0), (.int .i64 255)] h) (fun v3 h4 =>
 notNil a0 fun v5 =>
 asPtr v5 fun p6 o7 =>
 scal v3 fun v8 =>
 (h4.wr p6 (o7 + 2) [v8]).bind fun h9 =>
 some (.ret (.tup []), h9, none))
 (fun v10 h11 => some (.panic v10, h11, none)))
 (some (.ret (.tup []), h, none))

/-- (*countermand/node.Node).Crash -/
noncomputable def f85 (n : Nat) (F : Fns) (a0 : AV) (h : Heap) : R :=
 bindC (F.plain 51 [a0] h) (fun v1 h2 =>
 (unop .not v1).bind fun v3 =>
 asB v3 fun b4 => cond b4
 (some (.ret (.bool false), h2, none))
 (notNil a0 fun v5 =>
 asPtr v5 fun p6 o7 =>
 (h2.wr p6 (o7 + 0) [(.ptr none)]).bind fun h8 =>
 some (.ret (.bool true), h8, none)))
 (fun v9 h10 => some (.panic v9, h10, none))
end Go.Proofs.YtahbihcbidkbaaaGreat.Ev

/-
  Printed by mk.py: the equations with the evaluator.
-/
set_option maxRecDepth 100000
set_option maxHeartbeats 4000000
namespace Go.Proofs.YtahbihcbidkbaaaGreat.Ev
open Go
theorem f45_eq (n : Nat) (F : Fns) (a0 a1 : AV) (h : Heap) : callStep cx n F 45 [a0, a1] h none = f45 n F a0 a1 h := by kernel_rfl
theorem f46_eq (n : Nat) (F : Fns) (a0 a1 a2 : AV) (h : Heap) : callStep cx n F 46 [a0, a1, a2] h none = f46 n F a0 a1 a2 h := by kernel_rfl
theorem f47_eq (n : Nat) (F : Fns) (a0 : AV) (h : Heap) : callStep cx n F 47 [a0] h none = f47 n F a0 h := by kernel_rfl
theorem f48_eq (n : Nat) (F : Fns) (a0 : AV) (h : Heap) : callStep cx n F 48 [a0] h none = f48 n F a0 h := by kernel_rfl
theorem f49_eq (n : Nat) (F : Fns) (a0 a1 : AV) (h : Heap) : callStep cx n F 49 [a0, a1] h none = f49 n F a0 a1 h := by kernel_rfl
theorem f50_eq (n : Nat) (F : Fns) (a0 : AV) (h : Heap) : callStep cx n F 50 [a0] h none = f50 n F a0 h := by kernel_rfl
theorem f51_eq (n : Nat) (F : Fns) (a0 : AV) (h : Heap) : callStep cx n F 51 [a0] h none = f51 n F a0 h := by kernel_rfl
theorem f52_eq (n : Nat) (F : Fns) (a0 : AV) (h : Heap) : callStep cx n F 52 [a0] h none = f52 n F a0 h := by kernel_rfl
theorem f53_eq (n : Nat) (F : Fns) (a0 : AV) (h : Heap) : callStep cx n F 53 [a0] h none = f53 n F a0 h := by kernel_rfl
theorem f54_eq (n : Nat) (F : Fns) (a0 : AV) (h : Heap) : callStep cx n F 54 [a0] h none = f54 n F a0 h := by kernel_rfl
theorem f55_eq (n : Nat) (F : Fns) (a0 : AV) (h : Heap) : callStep cx n F 55 [a0] h none = f55 n F a0 h := by kernel_rfl
theorem f56_eq (n : Nat) (F : Fns) (a0 : AV) (h : Heap) : callStep cx n F 56 [a0] h none = f56 n F a0 h := by kernel_rfl
theorem f57_eq (n : Nat) (F : Fns) (a0 : AV) (h : Heap) : callStep cx n F 57 [a0] h none = f57 n F a0 h := by kernel_rfl
theorem f58_eq (n : Nat) (F : Fns) (a0 : AV) (h : Heap) : callStep cx n F 58 [a0] h none = f58 n F a0 h := by kernel_rfl
theorem f59_eq (n : Nat) (F : Fns) (a0 : AV) (h : Heap) : callStep cx n F 59 [a0] h none = f59 n F a0 h := by kernel_rfl
theorem f60_eq (n : Nat) (F : Fns) (a0 : AV) (h : Heap) : callStep cx n F 60 [a0] h none = f60 n F a0 h := by kernel_rfl
theorem f61_eq (n : Nat) (F : Fns) (a0 a1 a2 : AV) (h : Heap) : callStep cx n F 61 [a0, a1, a2] h none = f61 n F a0 a1 a2 h := by kernel_rfl
theorem f62_eq (n : Nat) (F : Fns) (a0 a1 a2 : AV) (h : Heap) : callStep cx n F 62 [a0, a1, a2] h none = f62 n F a0 a1 a2 h := by kernel_rfl
theorem f63_eq (n : Nat) (F : Fns) (a0 : AV) (h : Heap) : callStep cx n F 63 [a0] h none = f63 n F a0 h := by kernel_rfl
theorem f64_eq (n : Nat) (F : Fns) (a0 a1 : AV) (h : Heap) : callStep cx n F 64 [a0, a1] h none = f64 n F a0 a1 h := by kernel_rfl
theorem f65_eq (n : Nat) (F : Fns) (a0 : AV) (h : Heap) : callStep cx n F 65 [a0] h none = f65 n F a0 h := by kernel_rfl
theorem f66_eq (n : Nat) (F : Fns) (a0 a1 : AV) (h : Heap) : callStep cx n F 66 [a0, a1] h none = f66 n F a0 a1 h := by kernel_rfl
theorem f67_eq (n : Nat) (F : Fns) (a0 a1 : AV) (h : Heap) : callStep cx n F 67 [a0, a1] h none = f67 n F a0 a1 h := by kernel_rfl
theorem f68_eq (n : Nat) (F : Fns) (a0 a1 : AV) (h : Heap) : callStep cx n F 68 [a0, a1] h none = f68 n F a0 a1 h := by kernel_rfl
theorem f69_eq (n : Nat) (F : Fns) (a0 : AV) (h : Heap) : callStep cx n F 69 [a0] h none = f69 n F a0 h := by kernel_rfl
theorem f70_eq (n : Nat) (F : Fns) (a0 a1 : AV) (h : Heap) : callStep cx n F 70 [a0, a1] h none = f70 n F a0 a1 h := by kernel_rfl
theorem f71_eq (n : Nat) (F : Fns) (a0 a1 : AV) (h : Heap) : callStep cx n F 71 [a0, a1] h none = f71 n F a0 a1 h := by kernel_rfl
theorem f72_eq (n : Nat) (F : Fns) (a0 : AV) (h : Heap) : callStep cx n F 72 [a0] h none = f72 n F a0 h := by kernel_rfl
theorem f73_eq (n : Nat) (F : Fns) (a0 a1 : AV) (h : Heap) : callStep cx n F 73 [a0, a1] h none = f73 n F a0 a1 h := by kernel_rfl
theorem f74_eq (n : Nat) (F : Fns) (a0 : AV) (h : Heap) : callStep cx n F 74 [a0] h none = f74 n F a0 h := by kernel_rfl
theorem f75_eq (n : Nat) (F : Fns) (a0 a1 : AV) (h : Heap) : callStep cx n F 75 [a0, a1] h none = f75 n F a0 a1 h := by kernel_rfl
theorem f76_eq (n : Nat) (F : Fns) (a0 a1 : AV) (h : Heap) : callStep cx n F 76 [a0, a1] h none = f76 n F a0 a1 h := by kernel_rfl
theorem f77_eq (n : Nat) (F : Fns) (a0 a1 : AV) (h : Heap) : callStep cx n F 77 [a0, a1] h none = f77 n F a0 a1 h := by kernel_rfl
theorem f78_eq (n : Nat) (F : Fns) (a0 : AV) (h : Heap) : callStep cx n F 78 [a0] h none = f78 n F a0 h := by kernel_rfl
theorem f79_eq (n : Nat) (F : Fns) (a0 a1 : AV) (h : Heap) : callStep cx n F 79 [a0, a1] h none = f79 n F a0 a1 h := by kernel_rfl
theorem f80_eq (n : Nat) (F : Fns) (a0 a1 a2 : AV) (h : Heap) : callStep cx n F 80 [a0, a1, a2] h none = f80 n F a0 a1 a2 h := by kernel_rfl
theorem f81_eq (n : Nat) (F : Fns) (a0 a1 : AV) (h : Heap) : callStep cx n F 81 [a0, a1] h none = f81 n F a0 a1 h := by kernel_rfl
theorem f82_eq (n : Nat) (F : Fns) (a0 a1 : AV) (h : Heap) : callStep cx n F 82 [a0, a1] h none = f82 n F a0 a1 h := by kernel_rfl
theorem f83_eq (n : Nat) (F : Fns) (a0 a1 a2 : AV) (h : Heap) : callStep cx n F 83 [a0, a1, a2] h none = f83 n F a0 a1 a2 h := by kernel_rfl
theorem f84_eq (n : Nat) (F : Fns) (a0 a1 : AV) (h : Heap) : callStep cx n F 84 [a0, a1] h none = f84 n F a0 a1 h := by kernel_rfl
theorem f85_eq (n : Nat) (F : Fns) (a0 : AV) (h : Heap) : callStep cx n F 85 [a0] h none = f85 n F a0 h := by kernel_rfl
end Go.Proofs.YtahbihcbidkbaaaGreat.Ev
