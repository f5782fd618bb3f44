/-
  Printed by mk.py: the functions as the evaluator has them.
-/
import Derived.Test.YtahbihcbidkbaaaGreatJt
import Derived.KernelRfl
set_option linter.unusedVariables false
set_option maxRecDepth 100000
namespace Go.Proofs.YtahbihcbidkbaaaGreat.Ev
open Go
noncomputable def f286_1 (n : Nat) (F : Fns) (v40 : AV) (h35 : Heap) (a1 : AV) (x36 : AV) (x1 : AV) (x2 : AV) (x3 : AV) (x4 : AV) (x5 : AV) (x6 : AV) (x7 : AV) (x8 : AV) (x9 : AV) (x10 : AV) (x11 : AV) (x12 : AV) (x13 : AV) (x14 : AV) (x15 : AV) (x16 : AV) (x17 : AV) (x18 : AV) (x19 : AV) (x20 : AV) (x21 : AV) (x22 : AV) (x23 : AV) (x24 : AV) (x25 : AV) : R :=
 asB v40 fun b41 => cond b41
 (some (.ret (.tup [(.agg [(.int .i64 0), (.int .i64 0), (.int .i64 0), (.int .i64 0), (.int .i64 0), (.int .i64 0), (.int .i64 0), (.int .i64 0), (.int .i64 0), (.int .i64 0), (.int .i64 0), (.int .i64 0), (.int .i64 0), (.int .i64 0), (.int .i64 0), (.int .i64 0), (.int .i64 0), (.int .i64 0), (.int .i64 0), (.int .i64 0), (.int .i64 0), (.int .i64 0), (.int .i64 0), (.int .i64 0), .nilSlice]), (.int .i64 7)]), h35, none))
 (asI a1 fun i42 =>
 inArr i42 8 fun j43 =>
 scal x36 fun v44 =>
 (lay? [x1, x2, x3, x4, x5, x6, x7, x8, x9, x10, x11, x12, x13, x14, x15, x16, x17, x18, x19, x20, x21, x22, x23, x24, x25] (16 + j43 * 1) [v44]).bind fun l45 =>
 un25 l45 fun x46 x47 x48 x49 x50 x51 x52 x53 x54 x55 x56 x57 x58 x59 x60 x61 x62 x63 x64 x65 x66 x67 x68 x69 x70 =>
 some (.ret (.tup [(.agg [x46, x47, x48, x49, x50, x51, x52, x53, x54, x55, x56, x57, x58, x59, x60, x61, x62, x63, x64, x65, x66, x67, x68, x69, x70]), (.int .i64 0)]), h35, none))
noncomputable def f286_2 (n : Nat) (F : Fns) (x33 : AV) (a2 : AV) (h27 : Heap) (a1 : AV) (x1 : AV) (x2 : AV) (x3 : AV) (x4 : AV) (x5 : AV) (x6 : AV) (x7 : AV) (x8 : AV) (x9 : AV) (x10 : AV) (x11 : AV) (x12 : AV) (x13 : AV) (x14 : AV) (x15 : AV) (x16 : AV) (x17 : AV) (x18 : AV) (x19 : AV) (x20 : AV) (x21 : AV) (x22 : AV) (x23 : AV) (x24 : AV) (x25 : AV) : R :=
 bindC (F.plain 304 [x33, a2] h27) (fun v34 h35 =>
 unT2 v34 fun x36 x37 =>
 (unop .not x37).bind fun v38 =>
 asB v38 fun b39 => cond b39
 (some (.ret (.tup [(.agg [(.int .i64 0), (.int .i64 0), (.int .i64 0), (.int .i64 0), (.int .i64 0), (.int .i64 0), (.int .i64 0), (.int .i64 0), (.int .i64 0), (.int .i64 0), (.int .i64 0), (.int .i64 0), (.int .i64 0), (.int .i64 0), (.int .i64 0), (.int .i64 0), (.int .i64 0), (.int .i64 0), (.int .i64 0), (.int .i64 0), (.int .i64 0), (.int .i64 0), (.int .i64 0), (.int .i64 0), .nilSlice]), (.int .i64 7)]), h35, none))
 ((binop .gtr x36 (.int .i64 1099511627776)).bind fun v40 =>
 f286_1 n F v40 h35 a1 x36 x1 x2 x3 x4 x5 x6 x7 x8 x9 x10 x11 x12 x13 x14 x15 x16 x17 x18 x19 x20 x21 x22 x23 x24 x25))
 (fun v71 h72 => some (.panic v71, h72, none))
noncomputable def f286_3 (n : Nat) (F : Fns) (v28 : AV) (h27 : Heap) (a1 : AV) (x1 : AV) (x2 : AV) (x3 : AV) (x4 : AV) (x5 : AV) (x6 : AV) (x7 : AV) (x8 : AV) (x9 : AV) (x10 : AV) (x11 : AV) (x12 : AV) (x13 : AV) (x14 : AV) (x15 : AV) (x16 : AV) (x17 : AV) (x18 : AV) (x19 : AV) (x20 : AV) (x21 : AV) (x22 : AV) (x23 : AV) (x24 : AV) (x25 : AV) (a2 : AV) : R :=
 asB v28 fun b29 => cond b29
 (some (.ret (.tup [(.agg [(.int .i64 0), (.int .i64 0), (.int .i64 0), (.int .i64 0), (.int .i64 0), (.int .i64 0), (.int .i64 0), (.int .i64 0), (.int .i64 0), (.int .i64 0), (.int .i64 0), (.int .i64 0), (.int .i64 0), (.int .i64 0), (.int .i64 0), (.int .i64 0), (.int .i64 0), (.int .i64 0), (.int .i64 0), (.int .i64 0), (.int .i64 0), (.int .i64 0), (.int .i64 0), (.int .i64 0), .nilSlice]), (.int .i64 4)]), h27, none))
 (asI a1 fun i30 =>
 inArr i30 8 fun j31 =>
 (take? [x1, x2, x3, x4, x5, x6, x7, x8, x9, x10, x11, x12, x13, x14, x15, x16, x17, x18, x19, x20, x21, x22, x23, x24, x25] (16 + j31 * 1) 1).bind fun l32 =>
 un1 l32 fun x33 =>
 f286_2 n F x33 a2 h27 a1 x1 x2 x3 x4 x5 x6 x7 x8 x9 x10 x11 x12 x13 x14 x15 x16 x17 x18 x19 x20 x21 x22 x23 x24 x25)
/-- countermand/purse.Give -/
noncomputable def f286 (n : Nat) (F : Fns) (a0 a1 a2 : AV) (h : Heap) : R :=
 unA25 a0 fun x1 x2 x3 x4 x5 x6 x7 x8 x9 x10 x11 x12 x13 x14 x15 x16 x17 x18 x19 x20 x21 x22 x23 x24 x25 =>
 bindC (F.plain 305 [a1, a2] h) (fun v26 h27 =>
 (unop .not v26).bind fun v28 =>
 f286_3 n F v28 h27 a1 x1 x2 x3 x4 x5 x6 x7 x8 x9 x10 x11 x12 x13 x14 x15 x16 x17 x18 x19 x20 x21 x22 x23 x24 x25 a2)
 (fun v73 h74 => some (.panic v73, h74, none))

/-- (*countermand/booking.work).tell -/
noncomputable def f287 (n : Nat) (F : Fns) (a0 a1 a2 a3 : AV) (h : Heap) : R :=
 notNil a0 fun v1 =>
 asPtr v1 fun p2 o3 =>
 (h.rd p2 (o3 + 25) 1).bind fun l4 =>
 un1 l4 fun x5 =>
 notNil a0 fun v6 =>
 asPtr v6 fun p7 o8 =>
 (h.rd p7 (o8 + 26) 2).bind fun l9 =>
 un2 l9 fun x10 x11 =>
 scal a1 fun v12 =>
 scal a2 fun v13 =>
 scal a3 fun v14 =>
 (appendA P h 96 x5 1 [v12, v13, v14, x10, x11]).bind fun r15 =>
 notNil a0 fun v16 =>
 asPtr v16 fun p17 o18 =>
 scal r15.1 fun v19 =>
 (r15.2.wr p17 (o18 + 25) [v19]).bind fun h20 =>
 some (.ret (.tup []), h20, none)

noncomputable def f289_1 (n : Nat) (F : Fns) (x31 : AV) (x32 : AV) (x33 : AV) (x34 : AV) (x35 : AV) (x36 : AV) (x37 : AV) (x38 : AV) (x39 : AV) (x40 : AV) (x41 : AV) (x42 : AV) (x43 : AV) (x44 : AV) (x45 : AV) (x46 : AV) (x47 : AV) (x48 : AV) (x49 : AV) (x50 : AV) (x51 : AV) (x52 : AV) (x53 : AV) (x54 : AV) (x55 : AV) (x20 : AV) (v24 : AV) (h16 : Heap) (a0 : AV) (x7 : AV) (x17 : AV) (x18 : AV) (x19 : AV) (x22 : AV) (x23 : AV) : R :=
 bindC (F.plain 310 [(.agg [x31, x32, x33, x34, x35, x36, x37, x38, x39, x40, x41, x42, x43, x44, x45, x46, x47, x48, x49, x50, x51, x52, x53, x54, x55]), x20, v24] h16) (fun v56 h57 =>
 unT2 v56 fun x58 x59 =>
 bindC (F.plain 284 [a0, x58, x59] h57) (fun v60 h61 =>
 unT0 v60 fun _u =>
 scal x7 fun v62 =>
 bindC (F.plain 312 [a0, (.agg [x17, x18, x19, x20, v62, x22, x23]), (.int .i64 1)] h61) (fun v63 h64 =>
 unT0 v63 fun _u =>
 bindC (F.plain 287 [a0, (.int .i64 2), x20, x7] h64) (fun v65 h66 =>
 unT0 v65 fun _u =>
 some (.ret (.tup []), h66, none))
 (fun v67 h68 => some (.panic v67, h68, none)))
 (fun v69 h70 => some (.panic v69, h70, none)))
 (fun v71 h72 => some (.panic v71, h72, none)))
 (fun v73 h74 => some (.panic v73, h74, none))
noncomputable def f289_2 (n : Nat) (F : Fns) (x79 : AV) (x80 : AV) (x81 : AV) (x82 : AV) (x83 : AV) (x84 : AV) (x85 : AV) (x86 : AV) (x87 : AV) (x88 : AV) (x89 : AV) (x90 : AV) (x91 : AV) (x92 : AV) (x93 : AV) (x94 : AV) (x95 : AV) (x96 : AV) (x97 : AV) (x98 : AV) (x99 : AV) (x100 : AV) (x101 : AV) (x102 : AV) (x103 : AV) (x20 : AV) (v104 : AV) (h16 : Heap) (a0 : AV) (x7 : AV) (x17 : AV) (x18 : AV) (x19 : AV) (x22 : AV) (x23 : AV) : R :=
 bindC (F.plain 285 [(.agg [x79, x80, x81, x82, x83, x84, x85, x86, x87, x88, x89, x90, x91, x92, x93, x94, x95, x96, x97, x98, x99, x100, x101, x102, x103]), x20, v104] h16) (fun v105 h106 =>
 unT2 v105 fun x107 x108 =>
 bindC (F.plain 284 [a0, x107, x108] h106) (fun v109 h110 =>
 unT0 v109 fun _u =>
 scal x7 fun v111 =>
 bindC (F.plain 312 [a0, (.agg [x17, x18, x19, x20, v111, x22, x23]), (.int .i64 1)] h110) (fun v112 h113 =>
 unT0 v112 fun _u =>
 bindC (F.plain 287 [a0, (.int .i64 2), x20, x7] h113) (fun v114 h115 =>
 unT0 v114 fun _u =>
 some (.ret (.tup []), h115, none))
 (fun v116 h117 => some (.panic v116, h117, none)))
 (fun v118 h119 => some (.panic v118, h119, none)))
 (fun v120 h121 => some (.panic v120, h121, none)))
 (fun v122 h123 => some (.panic v122, h123, none))
noncomputable def f289_3 (n : Nat) (F : Fns) (v25 : AV) (a0 : AV) (h16 : Heap) (x20 : AV) (v24 : AV) (x7 : AV) (x17 : AV) (x18 : AV) (x19 : AV) (x22 : AV) (x23 : AV) : R :=
 asB v25 fun b26 => cond b26
 (notNil a0 fun v27 =>
 asPtr v27 fun p28 o29 =>
 (h16.rd p28 (o29 + 0) 25).bind fun l30 =>
 un25 l30 fun x31 x32 x33 x34 x35 x36 x37 x38 x39 x40 x41 x42 x43 x44 x45 x46 x47 x48 x49 x50 x51 x52 x53 x54 x55 =>
 f289_1 n F x31 x32 x33 x34 x35 x36 x37 x38 x39 x40 x41 x42 x43 x44 x45 x46 x47 x48 x49 x50 x51 x52 x53 x54 x55 x20 v24 h16 a0 x7 x17 x18 x19 x22 x23)
 (notNil a0 fun v75 =>
 asPtr v75 fun p76 o77 =>
 (h16.rd p76 (o77 + 0) 25).bind fun l78 =>
 un25 l78 fun x79 x80 x81 x82 x83 x84 x85 x86 x87 x88 x89 x90 x91 x92 x93 x94 x95 x96 x97 x98 x99 x100 x101 x102 x103 =>
 (unop .neg v24).bind fun v104 =>
 f289_2 n F x79 x80 x81 x82 x83 x84 x85 x86 x87 x88 x89 x90 x91 x92 x93 x94 x95 x96 x97 x98 x99 x100 x101 x102 x103 x20 v104 h16 a0 x7 x17 x18 x19 x22 x23)
/-- (*countermand/booking.work).amend -/
noncomputable def f289 (n : Nat) (F : Fns) (a0 a1 : AV) (h : Heap) : R :=
 unA9 a1 fun x1 x2 x3 x4 x5 x6 x7 x8 x9 =>
 bindC (F.plain 62 [x7, (.int .i64 1), (.int .i64 1000)] h) (fun v10 h11 =>
 bindC (F.plain 283 [v10, (.int .i64 4)] h11) (fun v12 h13 =>
 unT0 v12 fun _u =>
 (opBuildSlice P h13 269 1 [(0, .int .i64 1)]).bind fun r14 =>
 bindC (F.plain 311 [a0, (.agg [x8, x9]), r14.1] r14.2) (fun v15 h16 =>
 unA7 v15 fun x17 x18 x19 x20 x21 x22 x23 =>
 (binop .sub x7 x21).bind fun v24 =>
 (binop .geq v24 (.int .i64 0)).bind fun v25 =>
 f289_3 n F v25 a0 h16 x20 v24 x7 x17 x18 x19 x22 x23)
 (fun v124 h125 => some (.panic v124, h125, none)))
 (fun v126 h127 => some (.panic v126, h127, none)))
 (fun v128 h129 => some (.panic v128, h129, none))

noncomputable def f290_1 (n : Nat) (F : Fns) (x63 : AV) (x64 : AV) (x65 : AV) (x66 : AV) (x67 : AV) (x68 : AV) (x69 : AV) (x70 : AV) (x71 : AV) (x72 : AV) (x73 : AV) (x74 : AV) (x75 : AV) (x76 : AV) (x77 : AV) (x78 : AV) (x79 : AV) (x80 : AV) (x81 : AV) (x82 : AV) (x83 : AV) (x84 : AV) (x85 : AV) (x86 : AV) (x87 : AV) (x15 : AV) (x18 : AV) (h56 : Heap) (a0 : AV) (x13 : AV) (x14 : AV) (x16 : AV) (x17 : AV) (x19 : AV) : R :=
 bindC (F.plain 286 [(.agg [x63, x64, x65, x66, x67, x68, x69, x70, x71, x72, x73, x74, x75, x76, x77, x78, x79, x80, x81, x82, x83, x84, x85, x86, x87]), x15, x18] h56) (fun v88 h89 =>
 unT2 v88 fun x90 x91 =>
 bindC (F.plain 284 [a0, x90, x91] h89) (fun v92 h93 =>
 unT0 v92 fun _u =>
 bindC (F.plain 287 [a0, (.int .i64 10), x15, x18] h93) (fun v94 h95 =>
 unT0 v94 fun _u =>
 bindC (F.plain 312 [a0, (.agg [x13, x14, x15, x16, x17, x18, x19]), (.int .i64 4)] h95) (fun v96 h97 =>
 unT0 v96 fun _u =>
 bindC (F.plain 287 [a0, (.int .i64 7), x15, (.int .i64 2)] h97) (fun v98 h99 =>
 unT0 v98 fun _u =>
 some (.ret (.tup []), h99, none))
 (fun v100 h101 => some (.panic v100, h101, none)))
 (fun v102 h103 => some (.panic v102, h103, none)))
 (fun v104 h105 => some (.panic v104, h105, none)))
 (fun v106 h107 => some (.panic v106, h107, none)))
 (fun v108 h109 => some (.panic v108, h109, none))
noncomputable def f290_2 (n : Nat) (F : Fns) (v57 : AV) (a0 : AV) (h56 : Heap) (x15 : AV) (x18 : AV) (x13 : AV) (x14 : AV) (x16 : AV) (x17 : AV) (x19 : AV) : R :=
 asB v57 fun b58 => cond b58
 (notNil a0 fun v59 =>
 asPtr v59 fun p60 o61 =>
 (h56.rd p60 (o61 + 0) 25).bind fun l62 =>
 un25 l62 fun x63 x64 x65 x66 x67 x68 x69 x70 x71 x72 x73 x74 x75 x76 x77 x78 x79 x80 x81 x82 x83 x84 x85 x86 x87 =>
 f290_1 n F x63 x64 x65 x66 x67 x68 x69 x70 x71 x72 x73 x74 x75 x76 x77 x78 x79 x80 x81 x82 x83 x84 x85 x86 x87 x15 x18 h56 a0 x13 x14 x16 x17 x19)
 (bindC (F.plain 312 [a0, (.agg [x13, x14, x15, x16, x17, x18, x19]), (.int .i64 4)] h56) (fun v110 h111 =>
 unT0 v110 fun _u =>
 bindC (F.plain 287 [a0, (.int .i64 7), x15, (.int .i64 2)] h111) (fun v112 h113 =>
 unT0 v112 fun _u =>
 some (.ret (.tup []), h113, none))
 (fun v114 h115 => some (.panic v114, h115, none)))
 (fun v116 h117 => some (.panic v116, h117, none)))
noncomputable def f290_3 (n : Nat) (F : Fns) (h12 : Heap) (p21 : Nat) (o22 : Nat) (x16 : AV) (x17 : AV) (a0 : AV) (x19 : AV) (x15 : AV) (x18 : AV) (x13 : AV) (x14 : AV) : R :=
 (h12.rd p21 (o22 + 0) 25).bind fun l23 =>
 un25 l23 fun x24 x25 x26 x27 x28 x29 x30 x31 x32 x33 x34 x35 x36 x37 x38 x39 x40 x41 x42 x43 x44 x45 x46 x47 x48 =>
 bindC (F.plain 285 [(.agg [x24, x25, x26, x27, x28, x29, x30, x31, x32, x33, x34, x35, x36, x37, x38, x39, x40, x41, x42, x43, x44, x45, x46, x47, x48]), x16, x17] h12) (fun v49 h50 =>
 unT2 v49 fun x51 x52 =>
 bindC (F.plain 284 [a0, x51, x52] h50) (fun v53 h54 =>
 unT0 v53 fun _u =>
 bindC (F.plain 287 [a0, (.int .i64 3), x16, x17] h54) (fun v55 h56 =>
 unT0 v55 fun _u =>
 (eqop P true false 3 x19 (.int .i64 2)).bind fun v57 =>
 f290_2 n F v57 a0 h56 x15 x18 x13 x14 x16 x17 x19)
 (fun v118 h119 => some (.panic v118, h119, none)))
 (fun v120 h121 => some (.panic v120, h121, none)))
 (fun v122 h123 => some (.panic v122, h123, none))
/-- (*countermand/booking.work).cancel -/
noncomputable def f290 (n : Nat) (F : Fns) (a0 a1 : AV) (h : Heap) : R :=
 unA9 a1 fun x1 x2 x3 x4 x5 x6 x7 x8 x9 =>
 (opBuildSlice P h 269 2 [(0, .int .i64 1), (1, .int .i64 2)]).bind fun r10 =>
 bindC (F.plain 311 [a0, (.agg [x8, x9]), r10.1] r10.2) (fun v11 h12 =>
 unA7 v11 fun x13 x14 x15 x16 x17 x18 x19 =>
 notNil a0 fun v20 =>
 asPtr v20 fun p21 o22 =>
 f290_3 n F h12 p21 o22 x16 x17 a0 x19 x15 x18 x13 x14)
 (fun v124 h125 => some (.panic v124, h125, none))

noncomputable def f291_1 (n : Nat) (F : Fns) (x60 : AV) (x61 : AV) (x62 : AV) (x63 : AV) (x64 : AV) (x65 : AV) (x66 : AV) (x67 : AV) (x68 : AV) (x69 : AV) (x70 : AV) (x71 : AV) (x72 : AV) (x73 : AV) (x74 : AV) (x75 : AV) (x76 : AV) (x77 : AV) (x78 : AV) (x79 : AV) (x80 : AV) (x81 : AV) (x82 : AV) (x83 : AV) (x84 : AV) (x15 : AV) (x51 : AV) (h55 : Heap) (a0 : AV) (x13 : AV) (x14 : AV) (x16 : AV) (x17 : AV) (x19 : AV) : R :=
 bindC (F.plain 314 [(.agg [x60, x61, x62, x63, x64, x65, x66, x67, x68, x69, x70, x71, x72, x73, x74, x75, x76, x77, x78, x79, x80, x81, x82, x83, x84]), x15, x51] h55) (fun v85 h86 =>
 unT2 v85 fun x87 x88 =>
 bindC (F.plain 284 [a0, x87, x88] h86) (fun v89 h90 =>
 unT0 v89 fun _u =>
 scal x51 fun v91 =>
 bindC (F.plain 312 [a0, (.agg [x13, x14, x15, x16, x17, v91, x19]), (.int .i64 2)] h90) (fun v92 h93 =>
 unT0 v92 fun _u =>
 bindC (F.plain 287 [a0, (.int .i64 4), x15, x51] h93) (fun v94 h95 =>
 unT0 v94 fun _u =>
 bindC (F.plain 287 [a0, (.int .i64 9), x15, x51] h95) (fun v96 h97 =>
 unT0 v96 fun _u =>
 some (.ret (.tup []), h97, none))
 (fun v98 h99 => some (.panic v98, h99, none)))
 (fun v100 h101 => some (.panic v100, h101, none)))
 (fun v102 h103 => some (.panic v102, h103, none)))
 (fun v104 h105 => some (.panic v104, h105, none)))
 (fun v106 h107 => some (.panic v106, h107, none))
noncomputable def f291_2 (n : Nat) (F : Fns) (x24 : AV) (x25 : AV) (x26 : AV) (x27 : AV) (x28 : AV) (x29 : AV) (x30 : AV) (x31 : AV) (x32 : AV) (x33 : AV) (x34 : AV) (x35 : AV) (x36 : AV) (x37 : AV) (x38 : AV) (x39 : AV) (x40 : AV) (x41 : AV) (x42 : AV) (x43 : AV) (x44 : AV) (x45 : AV) (x46 : AV) (x47 : AV) (x48 : AV) (x16 : AV) (x17 : AV) (h12 : Heap) (a0 : AV) (x15 : AV) (x13 : AV) (x14 : AV) (x19 : AV) : R :=
 bindC (F.plain 313 [(.agg [x24, x25, x26, x27, x28, x29, x30, x31, x32, x33, x34, x35, x36, x37, x38, x39, x40, x41, x42, x43, x44, x45, x46, x47, x48]), x16, x17] h12) (fun v49 h50 =>
 unT2 v49 fun x51 x52 =>
 (eqop P true false 41 x52 (.int .i64 0)).bind fun v53 =>
 bindC (F.plain 283 [v53, x52] h50) (fun v54 h55 =>
 unT0 v54 fun _u =>
 notNil a0 fun v56 =>
 asPtr v56 fun p57 o58 =>
 (h55.rd p57 (o58 + 0) 25).bind fun l59 =>
 un25 l59 fun x60 x61 x62 x63 x64 x65 x66 x67 x68 x69 x70 x71 x72 x73 x74 x75 x76 x77 x78 x79 x80 x81 x82 x83 x84 =>
 f291_1 n F x60 x61 x62 x63 x64 x65 x66 x67 x68 x69 x70 x71 x72 x73 x74 x75 x76 x77 x78 x79 x80 x81 x82 x83 x84 x15 x51 h55 a0 x13 x14 x16 x17 x19)
 (fun v108 h109 => some (.panic v108, h109, none)))
 (fun v110 h111 => some (.panic v110, h111, none))
/-- (*countermand/booking.work).pay -/
noncomputable def f291 (n : Nat) (F : Fns) (a0 a1 : AV) (h : Heap) : R :=
 unA9 a1 fun x1 x2 x3 x4 x5 x6 x7 x8 x9 =>
 (opBuildSlice P h 269 1 [(0, .int .i64 1)]).bind fun r10 =>
 bindC (F.plain 311 [a0, (.agg [x8, x9]), r10.1] r10.2) (fun v11 h12 =>
 unA7 v11 fun x13 x14 x15 x16 x17 x18 x19 =>
 notNil a0 fun v20 =>
 asPtr v20 fun p21 o22 =>
 (h12.rd p21 (o22 + 0) 25).bind fun l23 =>
 un25 l23 fun x24 x25 x26 x27 x28 x29 x30 x31 x32 x33 x34 x35 x36 x37 x38 x39 x40 x41 x42 x43 x44 x45 x46 x47 x48 =>
 f291_2 n F x24 x25 x26 x27 x28 x29 x30 x31 x32 x33 x34 x35 x36 x37 x38 x39 x40 x41 x42 x43 x44 x45 x46 x47 x48 x16 x17 h12 a0 x15 x13 x14 x19)
 (fun v112 h113 => some (.panic v112, h113, none))

noncomputable def f292_1 (n : Nat) (F : Fns) (a0 : AV) (x13 : AV) (x14 : AV) (x15 : AV) (x16 : AV) (x17 : AV) (x18 : AV) (x19 : AV) (h12 : Heap) : R :=
 bindC (F.plain 312 [a0, (.agg [x13, x14, x15, x16, x17, x18, x19]), (.int .i64 3)] h12) (fun v20 h21 =>
 unT0 v20 fun _u =>
 bindC (F.plain 287 [a0, (.int .i64 5), x16, x17] h21) (fun v22 h23 =>
 unT0 v22 fun _u =>
 bindC (F.plain 287 [a0, (.int .i64 6), x16, x17] h23) (fun v24 h25 =>
 unT0 v24 fun _u =>
 bindC (F.plain 287 [a0, (.int .i64 11), x16, x17] h25) (fun v26 h27 =>
 unT0 v26 fun _u =>
 bindC (F.plain 287 [a0, (.int .i64 7), x15, (.int .i64 3)] h27) (fun v28 h29 =>
 unT0 v28 fun _u =>
 some (.ret (.tup []), h29, none))
 (fun v30 h31 => some (.panic v30, h31, none)))
 (fun v32 h33 => some (.panic v32, h33, none)))
 (fun v34 h35 => some (.panic v34, h35, none)))
 (fun v36 h37 => some (.panic v36, h37, none)))
 (fun v38 h39 => some (.panic v38, h39, none))
/-- (*countermand/booking.work).ship -/
noncomputable def f292 (n : Nat) (F : Fns) (a0 a1 : AV) (h : Heap) : R :=
 unA9 a1 fun x1 x2 x3 x4 x5 x6 x7 x8 x9 =>
 (opBuildSlice P h 269 1 [(0, .int .i64 2)]).bind fun r10 =>
 bindC (F.plain 311 [a0, (.agg [x8, x9]), r10.1] r10.2) (fun v11 h12 =>
 unA7 v11 fun x13 x14 x15 x16 x17 x18 x19 =>
 f292_1 n F a0 x13 x14 x15 x16 x17 x18 x19 h12)
 (fun v40 h41 => some (.panic v40, h41, none))

noncomputable def f293_1 (n : Nat) (F : Fns) (x24 : AV) (x25 : AV) (x26 : AV) (x27 : AV) (x28 : AV) (x29 : AV) (x30 : AV) (x31 : AV) (x32 : AV) (x33 : AV) (x34 : AV) (x35 : AV) (x36 : AV) (x37 : AV) (x38 : AV) (x39 : AV) (x40 : AV) (x41 : AV) (x42 : AV) (x43 : AV) (x44 : AV) (x45 : AV) (x46 : AV) (x47 : AV) (x48 : AV) (x15 : AV) (x18 : AV) (h12 : Heap) (a0 : AV) (x13 : AV) (x14 : AV) (x16 : AV) (x17 : AV) (x19 : AV) : R :=
 bindC (F.plain 286 [(.agg [x24, x25, x26, x27, x28, x29, x30, x31, x32, x33, x34, x35, x36, x37, x38, x39, x40, x41, x42, x43, x44, x45, x46, x47, x48]), x15, x18] h12) (fun v49 h50 =>
 unT2 v49 fun x51 x52 =>
 bindC (F.plain 284 [a0, x51, x52] h50) (fun v53 h54 =>
 unT0 v53 fun _u =>
 bindC (F.plain 312 [a0, (.agg [x13, x14, x15, x16, x17, x18, x19]), (.int .i64 5)] h54) (fun v55 h56 =>
 unT0 v55 fun _u =>
 bindC (F.plain 287 [a0, (.int .i64 10), x15, x18] h56) (fun v57 h58 =>
 unT0 v57 fun _u =>
 some (.ret (.tup []), h58, none))
 (fun v59 h60 => some (.panic v59, h60, none)))
 (fun v61 h62 => some (.panic v61, h62, none)))
 (fun v63 h64 => some (.panic v63, h64, none)))
 (fun v65 h66 => some (.panic v65, h66, none))
/-- (*countermand/booking.work).refund -/
noncomputable def f293 (n : Nat) (F : Fns) (a0 a1 : AV) (h : Heap) : R :=
 unA9 a1 fun x1 x2 x3 x4 x5 x6 x7 x8 x9 =>
 (opBuildSlice P h 269 1 [(0, .int .i64 3)]).bind fun r10 =>
 bindC (F.plain 311 [a0, (.agg [x8, x9]), r10.1] r10.2) (fun v11 h12 =>
 unA7 v11 fun x13 x14 x15 x16 x17 x18 x19 =>
 notNil a0 fun v20 =>
 asPtr v20 fun p21 o22 =>
 (h12.rd p21 (o22 + 0) 25).bind fun l23 =>
 un25 l23 fun x24 x25 x26 x27 x28 x29 x30 x31 x32 x33 x34 x35 x36 x37 x38 x39 x40 x41 x42 x43 x44 x45 x46 x47 x48 =>
 f293_1 n F x24 x25 x26 x27 x28 x29 x30 x31 x32 x33 x34 x35 x36 x37 x38 x39 x40 x41 x42 x43 x44 x45 x46 x47 x48 x15 x18 h12 a0 x13 x14 x16 x17 x19)
 (fun v67 h68 => some (.panic v67, h68, none))

noncomputable def f294_1 (n : Nat) (F : Fns) (v32 : AV) (h31 : Heap) (a1 : AV) (a2 : AV) (x1 : AV) (x2 : AV) (x3 : AV) (x4 : AV) (x5 : AV) (x6 : AV) (x7 : AV) (x8 : AV) (x9 : AV) (x10 : AV) (x11 : AV) (x12 : AV) (x13 : AV) (x14 : AV) (x15 : AV) (x16 : AV) (x17 : AV) (x18 : AV) (x19 : AV) (x20 : AV) (x21 : AV) (x22 : AV) (x23 : AV) (x24 : AV) (x25 : AV) : R :=
 asB v32 fun b33 => cond b33
 (some (.ret (.tup [(.agg [(.int .i64 0), (.int .i64 0), (.int .i64 0), (.int .i64 0), (.int .i64 0), (.int .i64 0), (.int .i64 0), (.int .i64 0), (.int .i64 0), (.int .i64 0), (.int .i64 0), (.int .i64 0), (.int .i64 0), (.int .i64 0), (.int .i64 0), (.int .i64 0), (.int .i64 0), (.int .i64 0), (.int .i64 0), (.int .i64 0), (.int .i64 0), (.int .i64 0), (.int .i64 0), (.int .i64 0), .nilSlice]), (.int .i64 4)]), h31, none))
 (asI a1 fun i34 =>
 inArr i34 8 fun j35 =>
 scal a2 fun v36 =>
 (lay? [x1, x2, x3, x4, x5, x6, x7, x8, x9, x10, x11, x12, x13, x14, x15, x16, x17, x18, x19, x20, x21, x22, x23, x24, x25] (8 + j35 * 1) [v36]).bind fun l37 =>
 un25 l37 fun x38 x39 x40 x41 x42 x43 x44 x45 x46 x47 x48 x49 x50 x51 x52 x53 x54 x55 x56 x57 x58 x59 x60 x61 x62 =>
 some (.ret (.tup [(.agg [x38, x39, x40, x41, x42, x43, x44, x45, x46, x47, x48, x49, x50, x51, x52, x53, x54, x55, x56, x57, x58, x59, x60, x61, x62]), (.int .i64 0)]), h31, none))
noncomputable def f294_2 (n : Nat) (F : Fns) (v28 : AV) (h27 : Heap) (a2 : AV) (a1 : AV) (x1 : AV) (x2 : AV) (x3 : AV) (x4 : AV) (x5 : AV) (x6 : AV) (x7 : AV) (x8 : AV) (x9 : AV) (x10 : AV) (x11 : AV) (x12 : AV) (x13 : AV) (x14 : AV) (x15 : AV) (x16 : AV) (x17 : AV) (x18 : AV) (x19 : AV) (x20 : AV) (x21 : AV) (x22 : AV) (x23 : AV) (x24 : AV) (x25 : AV) : R :=
 asB v28 fun b29 => cond b29
 (some (.ret (.tup [(.agg [(.int .i64 0), (.int .i64 0), (.int .i64 0), (.int .i64 0), (.int .i64 0), (.int .i64 0), (.int .i64 0), (.int .i64 0), (.int .i64 0), (.int .i64 0), (.int .i64 0), (.int .i64 0), (.int .i64 0), (.int .i64 0), (.int .i64 0), (.int .i64 0), (.int .i64 0), (.int .i64 0), (.int .i64 0), (.int .i64 0), (.int .i64 0), (.int .i64 0), (.int .i64 0), (.int .i64 0), .nilSlice]), (.int .i64 4)]), h27, none))
 (bindC (F.plain 62 [a2, (.int .i64 0), (.int .i64 1073741824)] h27) (fun v30 h31 =>
 (unop .not v30).bind fun v32 =>
 f294_1 n F v32 h31 a1 a2 x1 x2 x3 x4 x5 x6 x7 x8 x9 x10 x11 x12 x13 x14 x15 x16 x17 x18 x19 x20 x21 x22 x23 x24 x25)
 (fun v63 h64 => some (.panic v63, h64, none)))
/-- countermand/shelf.Price -/
noncomputable def f294 (n : Nat) (F : Fns) (a0 a1 a2 : AV) (h : Heap) : R :=
 unA25 a0 fun x1 x2 x3 x4 x5 x6 x7 x8 x9 x10 x11 x12 x13 x14 x15 x16 x17 x18 x19 x20 x21 x22 x23 x24 x25 =>
 bindC (F.plain 307 [a1] h) (fun v26 h27 =>
 (unop .not v26).bind fun v28 =>
 f294_2 n F v28 h27 a2 a1 x1 x2 x3 x4 x5 x6 x7 x8 x9 x10 x11 x12 x13 x14 x15 x16 x17 x18 x19 x20 x21 x22 x23 x24 x25)
 (fun v65 h66 => some (.panic v65, h66, none))

/-- slices.IndexFunc[[]int,int] -/
noncomputable def f295 (n : Nat) (F : Fns) (a0 a1 : AV) (h : Heap) : R :=
 (lenA P 269 a0).bind fun v1 =>
 loopV (fun vs3 h4 self2 => un4 vs3 fun x5 x6 x7 x8 =>
 (binop .lss x8 x7).bind fun v9 =>
 asB v9 fun b10 => cond b10
 (asI x8 fun i11 =>
 elemP x5 i11 1 fun p12 o13 =>
 (h4.rd p12 o13 1).bind fun l14 =>
 un1 l14 fun x15 =>
 bindC (F.callV x6 [x15] h4) (fun v16 h17 =>
 asB v16 fun b18 => cond b18
 (some (.ret x8, h17, none))
 ((binop .add x8 (.int .i64 1)).bind fun v19 =>
 self2 [x5, x6, x7, v19] h17))
 (fun v20 h21 => some (.panic v20, h21, none)))
 (some (.ret (.int .i64 (-1)), h4, none))) n [a0, a1, v1, (.int .i64 0)] h

/-- slices.IndexFunc[[]countermand/api.Id,countermand/api.Id] -/
noncomputable def f296 (n : Nat) (F : Fns) (a0 a1 : AV) (h : Heap) : R :=
 (lenA P 139 a0).bind fun v1 =>
 loopV (fun vs3 h4 self2 => un4 vs3 fun x5 x6 x7 x8 =>
 (binop .lss x8 x7).bind fun v9 =>
 asB v9 fun b10 => cond b10
 (asI x8 fun i11 =>
 elemP x5 i11 2 fun p12 o13 =>
 (h4.rd p12 o13 2).bind fun l14 =>
 un2 l14 fun x15 x16 =>
 bindC (F.callV x6 [(.agg [x15, x16])] h4) (fun v17 h18 =>
 asB v17 fun b19 => cond b19
 (some (.ret x8, h18, none))
 ((binop .add x8 (.int .i64 1)).bind fun v20 =>
 self2 [x5, x6, x7, v20] h18))
 (fun v21 h22 => some (.panic v21, h22, none)))
 (some (.ret (.int .i64 (-1)), h4, none))) n [a0, a1, v1, (.int .i64 0)] h

/-- countermand/delay.Ready -/
noncomputable def f297 (n : Nat) (F : Fns) (a0 a1 a2 a3 a4 : AV) (h : Heap) : R :=
 (binop .lss a2 (.int .i64 1)).bind fun v1 =>
 asB v1 fun b2 => cond b2
 (some (.ret (.bool true), h, none))
 (bindC (F.plain 206 [a0, a1, a2, a3] h) (fun v3 h4 =>
 (binop .geq a4 v3).bind fun v5 =>
 some (.ret v5, h4, none))
 (fun v6 h7 => some (.panic v6, h7, none)))

/-- slices.Backward[[]countermand/api.Change,countermand/api.Change] -/
noncomputable def f298 (n : Nat) (F : Fns) (a0 : AV) (h : Heap) : R :=
 scal a0 fun v1 =>
 let h2 := h.push (.cells [v1] 1)
 some (.ret (.fn 315 [] [(.ptr (some (h.next, 0)))]), h2, none)

/-- countermand/stamp.Less -/
noncomputable def f299 (n : Nat) (F : Fns) (a0 a1 : AV) (h : Heap) : R :=
 unA9 a0 fun x1 x2 x3 x4 x5 x6 x7 x8 x9 =>
 unA9 a1 fun x10 x11 x12 x13 x14 x15 x16 x17 x18 =>
 bindC (F.plain 316 [(.agg [x1, x2, x3, x4, x5, x6, x7, x8, x9]), (.agg [x10, x11, x12, x13, x14, x15, x16, x17, x18])] h) (fun v19 h20 =>
 (binop .lss v19 (.int .i64 0)).bind fun v21 =>
 some (.ret v21, h20, none))
 (fun v22 h23 => some (.panic v22, h23, none))

/-- (*countermand/tent.Tent).Free$1 -/
noncomputable def f300 (n : Nat) (F : Fns) (a0 a1 : AV) (h : Heap) : R :=
 unA9 a0 fun x1 x2 x3 x4 x5 x6 x7 x8 x9 =>
 asPtr a1 fun p10 o11 =>
 (h.rd p10 (o11 + 0) 1).bind fun l12 =>
 un1 l12 fun x13 =>
 (eqop P false false 3 x1 x13).bind fun v14 =>
 asB v14 fun b15 => cond b15
 (asPtr a1 fun p16 o17 =>
 (h.rd p16 (o17 + 1) 1).bind fun l18 =>
 un1 l18 fun x19 =>
 (binop .lss x2 x19).bind fun v20 =>
 some (.ret v20, h, none))
 (some (.ret (.bool false), h, none))

noncomputable def f301_1 (n : Nat) (F : Fns) (v17 : AV) (x12 : AV) (x10 : AV) (h8 : Heap) (x9 : AV) (self6 : List AV → Heap → R) (x11 : AV) (x13 : AV) (x14 : AV) (x15 : AV) (x16 : AV) : R :=
 asB v17 fun b18 => cond b18
 (asI x12 fun i19 =>
 elemP x10 i19 12 fun p20 o21 =>
 (h8.rd p20 o21 12).bind fun l22 =>
 un12 l22 fun x23 x24 x25 x26 x27 x28 x29 x30 x31 x32 x33 x34 =>
 bindC (F.plain 247 [(.agg [x23, x24, x25, x26, x27, x28, x29, x30, x31, x32, x33, x34])] h8) (fun v35 h36 =>
 (unop .not v35).bind fun v37 =>
 asB v37 fun b38 => cond b38
 (some (.ret (.bool false), h36, none))
 ((binop .leq x23 x9).bind fun v39 =>
 asB v39 fun b40 => cond b40
 (some (.ret (.bool false), h36, none))
 ((binop .add x12 (.int .i64 1)).bind fun v41 =>
 self6 [x23, x10, x11, v41, x13, x14, x15, x16] h36)))
 (fun v42 h43 => some (.panic v42, h43, none)))
 (bindC (F.plain 62 [x15, x9, (.int .i64 255)] h8) (fun v44 h45 =>
 some (.ret v44, h45, none))
 (fun v46 h47 => some (.panic v46, h47, none)))
/-- countermand/ledger.whole -/
noncomputable def f301 (n : Nat) (F : Fns) (a0 : AV) (h : Heap) : R :=
 unA4 a0 fun x1 x2 x3 x4 =>
 (lenA P 173 x4).bind fun v5 =>
 loopV (fun vs7 h8 self6 => un8 vs7 fun x9 x10 x11 x12 x13 x14 x15 x16 =>
 (binop .lss x12 x11).bind fun v17 =>
 f301_1 n F v17 x12 x10 h8 x9 self6 x11 x13 x14 x15 x16) n [(.int .i64 0), x4, v5, (.int .i64 0), x1, x2, x3, x4] h

/-- countermand/entry.Get$1 -/
noncomputable def f302 (n : Nat) (F : Fns) (a0 a1 : AV) (h : Heap) : R :=
 asPtr a1 fun p1 o2 =>
 (h.rd p1 o2 1).bind fun l3 =>
 un1 l3 fun x4 =>
 bindC (F.plain 177 [x4, a0] h) (fun v5 h6 =>
 unT2 v5 fun x7 x8 =>
 (convertA P 277 3 x7).bind fun v9 =>
 some (.ret v9, h6, none))
 (fun v10 h11 => some (.panic v10, h11, none))

/-- countermand/shelf.fine -/
noncomputable def f303 (n : Nat) (F : Fns) (a0 a1 : AV) (h : Heap) : R :=
 bindC (F.plain 307 [a0] h) (fun v1 h2 =>
 asB v1 fun b3 => cond b3
 (bindC (F.plain 62 [a1, (.int .i64 0), (.int .i64 1099511627776)] h2) (fun v4 h5 =>
 some (.ret v4, h5, none))
 (fun v6 h7 => some (.panic v6, h7, none)))
 (some (.ret (.bool false), h2, none)))
 (fun v8 h9 => some (.panic v8, h9, none))

/-- countermand/num.Add -/
noncomputable def f304 (n : Nat) (F : Fns) (a0 a1 : AV) (h : Heap) : R :=
 (binop .add a0 a1).bind fun v1 =>
 (binop .lss a0 (.int .i64 0)).bind fun v2 =>
 (binop .lss a1 (.int .i64 0)).bind fun v3 =>
 (eqop P false false 4 v2 v3).bind fun v4 =>
 asB v4 fun b5 => cond b5
 ((binop .lss v1 (.int .i64 0)).bind fun v6 =>
 (binop .lss a0 (.int .i64 0)).bind fun v7 =>
 (eqop P false true 4 v6 v7).bind fun v8 =>
 asB v8 fun b9 => cond b9
 (some (.ret (.tup [(.int .i64 0), (.bool false)]), h, none))
 (some (.ret (.tup [v1, (.bool true)]), h, none)))
 (some (.ret (.tup [v1, (.bool true)]), h, none))

/-- countermand/purse.fine -/
noncomputable def f305 (n : Nat) (F : Fns) (a0 a1 : AV) (h : Heap) : R :=
 bindC (F.plain 306 [a0] h) (fun v1 h2 =>
 asB v1 fun b3 => cond b3
 (bindC (F.plain 62 [a1, (.int .i64 0), (.int .i64 1099511627776)] h2) (fun v4 h5 =>
 some (.ret v4, h5, none))
 (fun v6 h7 => some (.panic v6, h7, none)))
 (some (.ret (.bool false), h2, none)))
 (fun v8 h9 => some (.panic v8, h9, none))

/-- countermand/purse.Buyer -/
noncomputable def f306 (n : Nat) (F : Fns) (a0 : AV) (h : Heap) : R :=
 bindC (F.plain 62 [a0, (.int .i64 0), (.int .i64 7)] h) (fun v1 h2 =>
 some (.ret v1, h2, none))
 (fun v3 h4 => some (.panic v3, h4, none))

/-- countermand/shelf.Item -/
noncomputable def f307 (n : Nat) (F : Fns) (a0 : AV) (h : Heap) : R :=
 bindC (F.plain 62 [a0, (.int .i64 0), (.int .i64 7)] h) (fun v1 h2 =>
 some (.ret v1, h2, none))
 (fun v3 h4 => some (.panic v3, h4, none))

/-- countermand/shelf.Has -/
noncomputable def f308 (n : Nat) (F : Fns) (a0 a1 a2 : AV) (h : Heap) : R :=
 unA25 a0 fun x1 x2 x3 x4 x5 x6 x7 x8 x9 x10 x11 x12 x13 x14 x15 x16 x17 x18 x19 x20 x21 x22 x23 x24 x25 =>
 bindC (F.plain 310 [(.agg [x1, x2, x3, x4, x5, x6, x7, x8, x9, x10, x11, x12, x13, x14, x15, x16, x17, x18, x19, x20, x21, x22, x23, x24, x25]), a1, a2] h) (fun v26 h27 =>
 unT2 v26 fun x28 x29 =>
 unA25 x28 fun x30 x31 x32 x33 x34 x35 x36 x37 x38 x39 x40 x41 x42 x43 x44 x45 x46 x47 x48 x49 x50 x51 x52 x53 x54 =>
 (eqop P true false 41 x29 (.int .i64 0)).bind fun v55 =>
 some (.ret v55, h27, none))
 (fun v56 h57 => some (.panic v56, h57, none))

noncomputable def f309_1 (n : Nat) (F : Fns) (v38 : AV) (h34 : Heap) (x1 : AV) (x2 : AV) (x3 : AV) (x4 : AV) (x5 : AV) (x6 : AV) (x7 : AV) (x8 : AV) (x9 : AV) (x10 : AV) (x11 : AV) (x12 : AV) (x13 : AV) (x14 : AV) (x15 : AV) (x16 : AV) (x17 : AV) (x18 : AV) (x19 : AV) (x20 : AV) (x21 : AV) (x22 : AV) (x23 : AV) (x24 : AV) (x25 : AV) (x26 : AV) (x27 : AV) (x28 : AV) (x29 : AV) (x30 : AV) (x31 : AV) (x32 : AV) : R :=
 asB v38 fun b39 => cond b39
 (some (.ret (.tup [(.agg [(.int .i64 0), (.int .i64 0), (.int .i64 0), (.int .i64 0), (.int .i64 0), (.int .i64 0), (.int .i64 0), (.int .i64 0), (.int .i64 0), (.int .i64 0), (.int .i64 0), (.int .i64 0), (.int .i64 0), (.int .i64 0), (.int .i64 0), (.int .i64 0), (.int .i64 0), (.int .i64 0), (.int .i64 0), (.int .i64 0), (.int .i64 0), (.int .i64 0), (.int .i64 0), (.int .i64 0), .nilSlice]), (.int .i64 3)]), h34, none))
 (bindC (F.plain 318 [(.agg [x1, x2, x3, x4, x5, x6, x7, x8, x9, x10, x11, x12, x13, x14, x15, x16, x17, x18, x19, x20, x21, x22, x23, x24, x25]), (.agg [x26, x27, x28, x29, x30, x31, x32])] h34) (fun v40 h41 =>
 unA25 v40 fun x42 x43 x44 x45 x46 x47 x48 x49 x50 x51 x52 x53 x54 x55 x56 x57 x58 x59 x60 x61 x62 x63 x64 x65 x66 =>
 some (.ret (.tup [(.agg [x42, x43, x44, x45, x46, x47, x48, x49, x50, x51, x52, x53, x54, x55, x56, x57, x58, x59, x60, x61, x62, x63, x64, x65, x66]), (.int .i64 0)]), h41, none))
 (fun v67 h68 => some (.panic v67, h68, none)))
noncomputable def f309_2 (n : Nat) (F : Fns) (v33 : AV) (h34 : Heap) (x25 : AV) (x1 : AV) (x2 : AV) (x3 : AV) (x4 : AV) (x5 : AV) (x6 : AV) (x7 : AV) (x8 : AV) (x9 : AV) (x10 : AV) (x11 : AV) (x12 : AV) (x13 : AV) (x14 : AV) (x15 : AV) (x16 : AV) (x17 : AV) (x18 : AV) (x19 : AV) (x20 : AV) (x21 : AV) (x22 : AV) (x23 : AV) (x24 : AV) (x26 : AV) (x27 : AV) (x28 : AV) (x29 : AV) (x30 : AV) (x31 : AV) (x32 : AV) : R :=
 (binop .geq v33 (.int .i64 0)).bind fun v35 =>
 asB v35 fun b36 => cond b36
 (some (.ret (.tup [(.agg [(.int .i64 0), (.int .i64 0), (.int .i64 0), (.int .i64 0), (.int .i64 0), (.int .i64 0), (.int .i64 0), (.int .i64 0), (.int .i64 0), (.int .i64 0), (.int .i64 0), (.int .i64 0), (.int .i64 0), (.int .i64 0), (.int .i64 0), (.int .i64 0), (.int .i64 0), (.int .i64 0), (.int .i64 0), (.int .i64 0), (.int .i64 0), (.int .i64 0), (.int .i64 0), (.int .i64 0), .nilSlice]), (.int .i64 9)]), h34, none))
 ((lenA P 107 x25).bind fun v37 =>
 (binop .geq v37 (.int .i64 32)).bind fun v38 =>
 f309_1 n F v38 h34 x1 x2 x3 x4 x5 x6 x7 x8 x9 x10 x11 x12 x13 x14 x15 x16 x17 x18 x19 x20 x21 x22 x23 x24 x25 x26 x27 x28 x29 x30 x31 x32)
/-- countermand/deal.New -/
noncomputable def f309 (n : Nat) (F : Fns) (a0 a1 : AV) (h : Heap) : R :=
 unA25 a0 fun x1 x2 x3 x4 x5 x6 x7 x8 x9 x10 x11 x12 x13 x14 x15 x16 x17 x18 x19 x20 x21 x22 x23 x24 x25 =>
 unA7 a1 fun x26 x27 x28 x29 x30 x31 x32 =>
 bindC (F.plain 317 [(.agg [x1, x2, x3, x4, x5, x6, x7, x8, x9, x10, x11, x12, x13, x14, x15, x16, x17, x18, x19, x20, x21, x22, x23, x24, x25]), (.agg [x26, x27])] h) (fun v33 h34 =>
 f309_2 n F v33 h34 x25 x1 x2 x3 x4 x5 x6 x7 x8 x9 x10 x11 x12 x13 x14 x15 x16 x17 x18 x19 x20 x21 x22 x23 x24 x26 x27 x28 x29 x30 x31 x32)
 (fun v69 h70 => some (.panic v69, h70, none))

noncomputable def f310_1 (n : Nat) (F : Fns) (x1 : AV) (x2 : AV) (x3 : AV) (x4 : AV) (x5 : AV) (x6 : AV) (x7 : AV) (x8 : AV) (x9 : AV) (x10 : AV) (x11 : AV) (x12 : AV) (x13 : AV) (x14 : AV) (x15 : AV) (x16 : AV) (x17 : AV) (x18 : AV) (x19 : AV) (x20 : AV) (x21 : AV) (x22 : AV) (x23 : AV) (x24 : AV) (x25 : AV) (j37 : Nat) (a2 : AV) (a1 : AV) (h27 : Heap) : R :=
 (take? [x1, x2, x3, x4, x5, x6, x7, x8, x9, x10, x11, x12, x13, x14, x15, x16, x17, x18, x19, x20, x21, x22, x23, x24, x25] (0 + j37 * 1) 1).bind fun l38 =>
 un1 l38 fun x39 =>
 (binop .sub x39 a2).bind fun v40 =>
 asI a1 fun i41 =>
 inArr i41 8 fun j42 =>
 scal v40 fun v43 =>
 (lay? [x1, x2, x3, x4, x5, x6, x7, x8, x9, x10, x11, x12, x13, x14, x15, x16, x17, x18, x19, x20, x21, x22, x23, x24, x25] (0 + j42 * 1) [v43]).bind fun l44 =>
 un25 l44 fun x45 x46 x47 x48 x49 x50 x51 x52 x53 x54 x55 x56 x57 x58 x59 x60 x61 x62 x63 x64 x65 x66 x67 x68 x69 =>
 some (.ret (.tup [(.agg [x45, x46, x47, x48, x49, x50, x51, x52, x53, x54, x55, x56, x57, x58, x59, x60, x61, x62, x63, x64, x65, x66, x67, x68, x69]), (.int .i64 0)]), h27, none)
noncomputable def f310_2 (n : Nat) (F : Fns) (x1 : AV) (x2 : AV) (x3 : AV) (x4 : AV) (x5 : AV) (x6 : AV) (x7 : AV) (x8 : AV) (x9 : AV) (x10 : AV) (x11 : AV) (x12 : AV) (x13 : AV) (x14 : AV) (x15 : AV) (x16 : AV) (x17 : AV) (x18 : AV) (x19 : AV) (x20 : AV) (x21 : AV) (x22 : AV) (x23 : AV) (x24 : AV) (x25 : AV) (j31 : Nat) (a2 : AV) (h27 : Heap) (a1 : AV) : R :=
 (take? [x1, x2, x3, x4, x5, x6, x7, x8, x9, x10, x11, x12, x13, x14, x15, x16, x17, x18, x19, x20, x21, x22, x23, x24, x25] (0 + j31 * 1) 1).bind fun l32 =>
 un1 l32 fun x33 =>
 (binop .lss x33 a2).bind fun v34 =>
 asB v34 fun b35 => cond b35
 (some (.ret (.tup [(.agg [(.int .i64 0), (.int .i64 0), (.int .i64 0), (.int .i64 0), (.int .i64 0), (.int .i64 0), (.int .i64 0), (.int .i64 0), (.int .i64 0), (.int .i64 0), (.int .i64 0), (.int .i64 0), (.int .i64 0), (.int .i64 0), (.int .i64 0), (.int .i64 0), (.int .i64 0), (.int .i64 0), (.int .i64 0), (.int .i64 0), (.int .i64 0), (.int .i64 0), (.int .i64 0), (.int .i64 0), .nilSlice]), (.int .i64 11)]), h27, none))
 (asI a1 fun i36 =>
 inArr i36 8 fun j37 =>
 f310_1 n F x1 x2 x3 x4 x5 x6 x7 x8 x9 x10 x11 x12 x13 x14 x15 x16 x17 x18 x19 x20 x21 x22 x23 x24 x25 j37 a2 a1 h27)
noncomputable def f310_3 (n : Nat) (F : Fns) (a1 : AV) (a2 : AV) (h : Heap) (x1 : AV) (x2 : AV) (x3 : AV) (x4 : AV) (x5 : AV) (x6 : AV) (x7 : AV) (x8 : AV) (x9 : AV) (x10 : AV) (x11 : AV) (x12 : AV) (x13 : AV) (x14 : AV) (x15 : AV) (x16 : AV) (x17 : AV) (x18 : AV) (x19 : AV) (x20 : AV) (x21 : AV) (x22 : AV) (x23 : AV) (x24 : AV) (x25 : AV) : R :=
 bindC (F.plain 303 [a1, a2] h) (fun v26 h27 =>
 (unop .not v26).bind fun v28 =>
 asB v28 fun b29 => cond b29
 (some (.ret (.tup [(.agg [(.int .i64 0), (.int .i64 0), (.int .i64 0), (.int .i64 0), (.int .i64 0), (.int .i64 0), (.int .i64 0), (.int .i64 0), (.int .i64 0), (.int .i64 0), (.int .i64 0), (.int .i64 0), (.int .i64 0), (.int .i64 0), (.int .i64 0), (.int .i64 0), (.int .i64 0), (.int .i64 0), (.int .i64 0), (.int .i64 0), (.int .i64 0), (.int .i64 0), (.int .i64 0), (.int .i64 0), .nilSlice]), (.int .i64 4)]), h27, none))
 (asI a1 fun i30 =>
 inArr i30 8 fun j31 =>
 f310_2 n F x1 x2 x3 x4 x5 x6 x7 x8 x9 x10 x11 x12 x13 x14 x15 x16 x17 x18 x19 x20 x21 x22 x23 x24 x25 j31 a2 h27 a1))
 (fun v70 h71 => some (.panic v70, h71, none))
/-- countermand/shelf.Take -/
noncomputable def f310 (n : Nat) (F : Fns) (a0 a1 a2 : AV) (h : Heap) : R :=
 unA25 a0 fun x1 x2 x3 x4 x5 x6 x7 x8 x9 x10 x11 x12 x13 x14 x15 x16 x17 x18 x19 x20 x21 x22 x23 x24 x25 =>
 f310_3 n F a1 a2 h x1 x2 x3 x4 x5 x6 x7 x8 x9 x10 x11 x12 x13 x14 x15 x16 x17 x18 x19 x20 x21 x22 x23 x24 x25

noncomputable def f311_1 (n : Nat) (F : Fns) (h : Heap) (p4 : Nat) (o5 : Nat) (x1 : AV) (x2 : AV) (a2 : AV) (a0 : AV) : R :=
 (h.rd p4 (o5 + 0) 25).bind fun l6 =>
 un25 l6 fun x7 x8 x9 x10 x11 x12 x13 x14 x15 x16 x17 x18 x19 x20 x21 x22 x23 x24 x25 x26 x27 x28 x29 x30 x31 =>
 bindC (F.plain 319 [(.agg [x7, x8, x9, x10, x11, x12, x13, x14, x15, x16, x17, x18, x19, x20, x21, x22, x23, x24, x25, x26, x27, x28, x29, x30, x31]), (.agg [x1, x2]), a2] h) (fun v32 h33 =>
 unT2 v32 fun x34 x35 =>
 unA7 x34 fun x36 x37 x38 x39 x40 x41 x42 =>
 (eqop P true false 41 x35 (.int .i64 0)).bind fun v43 =>
 bindC (F.plain 283 [v43, x35] h33) (fun v44 h45 =>
 unT0 v44 fun _u =>
 notNil a0 fun v46 =>
 asPtr v46 fun p47 o48 =>
 (h45.wr p47 (o48 + 26) [x1, x2]).bind fun h49 =>
 some (.ret (.agg [x36, x37, x38, x39, x40, x41, x42]), h49, none))
 (fun v50 h51 => some (.panic v50, h51, none)))
 (fun v52 h53 => none)
/-- (*countermand/booking.work).order -/
noncomputable def f311 (n : Nat) (F : Fns) (a0 a1 a2 : AV) (h : Heap) : R :=
 unA2 a1 fun x1 x2 =>
 notNil a0 fun v3 =>
 asPtr v3 fun p4 o5 =>
 f311_1 n F h p4 o5 x1 x2 a2 a0

noncomputable def f312_1 (n : Nat) (F : Fns) (h : Heap) (p10 : Nat) (o11 : Nat) (x1 : AV) (x2 : AV) (x3 : AV) (x4 : AV) (x5 : AV) (x6 : AV) (v8 : AV) (a0 : AV) : R :=
 (h.rd p10 (o11 + 0) 25).bind fun l12 =>
 un25 l12 fun x13 x14 x15 x16 x17 x18 x19 x20 x21 x22 x23 x24 x25 x26 x27 x28 x29 x30 x31 x32 x33 x34 x35 x36 x37 =>
 bindC (F.plain 318 [(.agg [x13, x14, x15, x16, x17, x18, x19, x20, x21, x22, x23, x24, x25, x26, x27, x28, x29, x30, x31, x32, x33, x34, x35, x36, x37]), (.agg [x1, x2, x3, x4, x5, x6, v8])] h) (fun v38 h39 =>
 notNil a0 fun v40 =>
 asPtr v40 fun p41 o42 =>
 unA25 v38 fun x43 x44 x45 x46 x47 x48 x49 x50 x51 x52 x53 x54 x55 x56 x57 x58 x59 x60 x61 x62 x63 x64 x65 x66 x67 =>
 (h39.wr p41 (o42 + 0) [x43, x44, x45, x46, x47, x48, x49, x50, x51, x52, x53, x54, x55, x56, x57, x58, x59, x60, x61, x62, x63, x64, x65, x66, x67]).bind fun h68 =>
 some (.ret (.tup []), h68, none))
 (fun v69 h70 => some (.panic v69, h70, none))
/-- (*countermand/booking.work).put -/
noncomputable def f312 (n : Nat) (F : Fns) (a0 a1 a2 : AV) (h : Heap) : R :=
 unA7 a1 fun x1 x2 x3 x4 x5 x6 x7 =>
 scal a2 fun v8 =>
 notNil a0 fun v9 =>
 asPtr v9 fun p10 o11 =>
 f312_1 n F h p10 o11 x1 x2 x3 x4 x5 x6 v8 a0

noncomputable def f313_1 (n : Nat) (F : Fns) (v28 : AV) (h27 : Heap) (a1 : AV) (x1 : AV) (x2 : AV) (x3 : AV) (x4 : AV) (x5 : AV) (x6 : AV) (x7 : AV) (x8 : AV) (x9 : AV) (x10 : AV) (x11 : AV) (x12 : AV) (x13 : AV) (x14 : AV) (x15 : AV) (x16 : AV) (x17 : AV) (x18 : AV) (x19 : AV) (x20 : AV) (x21 : AV) (x22 : AV) (x23 : AV) (x24 : AV) (x25 : AV) (a2 : AV) : R :=
 asB v28 fun b29 => cond b29
 (some (.ret (.tup [(.int .i64 0), (.int .i64 4)]), h27, none))
 (asI a1 fun i30 =>
 inArr i30 8 fun j31 =>
 (take? [x1, x2, x3, x4, x5, x6, x7, x8, x9, x10, x11, x12, x13, x14, x15, x16, x17, x18, x19, x20, x21, x22, x23, x24, x25] (8 + j31 * 1) 1).bind fun l32 =>
 un1 l32 fun x33 =>
 bindC (F.plain 320 [a2, x33] h27) (fun v34 h35 =>
 unT2 v34 fun x36 x37 =>
 (unop .not x37).bind fun v38 =>
 asB v38 fun b39 => cond b39
 (some (.ret (.tup [(.int .i64 0), (.int .i64 7)]), h35, none))
 ((binop .gtr x36 (.int .i64 1099511627776)).bind fun v40 =>
 asB v40 fun b41 => cond b41
 (some (.ret (.tup [(.int .i64 0), (.int .i64 7)]), h35, none))
 (some (.ret (.tup [x36, (.int .i64 0)]), h35, none))))
 (fun v42 h43 => some (.panic v42, h43, none)))
/-- countermand/shelf.Cost -/
noncomputable def f313 (n : Nat) (F : Fns) (a0 a1 a2 : AV) (h : Heap) : R :=
 unA25 a0 fun x1 x2 x3 x4 x5 x6 x7 x8 x9 x10 x11 x12 x13 x14 x15 x16 x17 x18 x19 x20 x21 x22 x23 x24 x25 =>
 bindC (F.plain 303 [a1, a2] h) (fun v26 h27 =>
 (unop .not v26).bind fun v28 =>
 f313_1 n F v28 h27 a1 x1 x2 x3 x4 x5 x6 x7 x8 x9 x10 x11 x12 x13 x14 x15 x16 x17 x18 x19 x20 x21 x22 x23 x24 x25 a2)
 (fun v44 h45 => some (.panic v44, h45, none))

noncomputable def f314_1 (n : Nat) (F : Fns) (x1 : AV) (x2 : AV) (x3 : AV) (x4 : AV) (x5 : AV) (x6 : AV) (x7 : AV) (x8 : AV) (x9 : AV) (x10 : AV) (x11 : AV) (x12 : AV) (x13 : AV) (x14 : AV) (x15 : AV) (x16 : AV) (x17 : AV) (x18 : AV) (x19 : AV) (x20 : AV) (x21 : AV) (x22 : AV) (x23 : AV) (x24 : AV) (x25 : AV) (j37 : Nat) (a2 : AV) (a1 : AV) (h27 : Heap) : R :=
 (take? [x1, x2, x3, x4, x5, x6, x7, x8, x9, x10, x11, x12, x13, x14, x15, x16, x17, x18, x19, x20, x21, x22, x23, x24, x25] (16 + j37 * 1) 1).bind fun l38 =>
 un1 l38 fun x39 =>
 (binop .sub x39 a2).bind fun v40 =>
 asI a1 fun i41 =>
 inArr i41 8 fun j42 =>
 scal v40 fun v43 =>
 (lay? [x1, x2, x3, x4, x5, x6, x7, x8, x9, x10, x11, x12, x13, x14, x15, x16, x17, x18, x19, x20, x21, x22, x23, x24, x25] (16 + j42 * 1) [v43]).bind fun l44 =>
 un25 l44 fun x45 x46 x47 x48 x49 x50 x51 x52 x53 x54 x55 x56 x57 x58 x59 x60 x61 x62 x63 x64 x65 x66 x67 x68 x69 =>
 some (.ret (.tup [(.agg [x45, x46, x47, x48, x49, x50, x51, x52, x53, x54, x55, x56, x57, x58, x59, x60, x61, x62, x63, x64, x65, x66, x67, x68, x69]), (.int .i64 0)]), h27, none)
noncomputable def f314_2 (n : Nat) (F : Fns) (x1 : AV) (x2 : AV) (x3 : AV) (x4 : AV) (x5 : AV) (x6 : AV) (x7 : AV) (x8 : AV) (x9 : AV) (x10 : AV) (x11 : AV) (x12 : AV) (x13 : AV) (x14 : AV) (x15 : AV) (x16 : AV) (x17 : AV) (x18 : AV) (x19 : AV) (x20 : AV) (x21 : AV) (x22 : AV) (x23 : AV) (x24 : AV) (x25 : AV) (j31 : Nat) (a2 : AV) (h27 : Heap) (a1 : AV) : R :=
 (take? [x1, x2, x3, x4, x5, x6, x7, x8, x9, x10, x11, x12, x13, x14, x15, x16, x17, x18, x19, x20, x21, x22, x23, x24, x25] (16 + j31 * 1) 1).bind fun l32 =>
 un1 l32 fun x33 =>
 (binop .lss x33 a2).bind fun v34 =>
 asB v34 fun b35 => cond b35
 (some (.ret (.tup [(.agg [(.int .i64 0), (.int .i64 0), (.int .i64 0), (.int .i64 0), (.int .i64 0), (.int .i64 0), (.int .i64 0), (.int .i64 0), (.int .i64 0), (.int .i64 0), (.int .i64 0), (.int .i64 0), (.int .i64 0), (.int .i64 0), (.int .i64 0), (.int .i64 0), (.int .i64 0), (.int .i64 0), (.int .i64 0), (.int .i64 0), (.int .i64 0), (.int .i64 0), (.int .i64 0), (.int .i64 0), .nilSlice]), (.int .i64 11)]), h27, none))
 (asI a1 fun i36 =>
 inArr i36 8 fun j37 =>
 f314_1 n F x1 x2 x3 x4 x5 x6 x7 x8 x9 x10 x11 x12 x13 x14 x15 x16 x17 x18 x19 x20 x21 x22 x23 x24 x25 j37 a2 a1 h27)
noncomputable def f314_3 (n : Nat) (F : Fns) (a1 : AV) (a2 : AV) (h : Heap) (x1 : AV) (x2 : AV) (x3 : AV) (x4 : AV) (x5 : AV) (x6 : AV) (x7 : AV) (x8 : AV) (x9 : AV) (x10 : AV) (x11 : AV) (x12 : AV) (x13 : AV) (x14 : AV) (x15 : AV) (x16 : AV) (x17 : AV) (x18 : AV) (x19 : AV) (x20 : AV) (x21 : AV) (x22 : AV) (x23 : AV) (x24 : AV) (x25 : AV) : R :=
 bindC (F.plain 305 [a1, a2] h) (fun v26 h27 =>
 (unop .not v26).bind fun v28 =>
 asB v28 fun b29 => cond b29
 (some (.ret (.tup [(.agg [(.int .i64 0), (.int .i64 0), (.int .i64 0), (.int .i64 0), (.int .i64 0), (.int .i64 0), (.int .i64 0), (.int .i64 0), (.int .i64 0), (.int .i64 0), (.int .i64 0), (.int .i64 0), (.int .i64 0), (.int .i64 0), (.int .i64 0), (.int .i64 0), (.int .i64 0), (.int .i64 0), (.int .i64 0), (.int .i64 0), (.int .i64 0), (.int .i64 0), (.int .i64 0), (.int .i64 0), .nilSlice]), (.int .i64 4)]), h27, none))
 (asI a1 fun i30 =>
 inArr i30 8 fun j31 =>
 f314_2 n F x1 x2 x3 x4 x5 x6 x7 x8 x9 x10 x11 x12 x13 x14 x15 x16 x17 x18 x19 x20 x21 x22 x23 x24 x25 j31 a2 h27 a1))
 (fun v70 h71 => some (.panic v70, h71, none))
/-- countermand/purse.Pay -/
noncomputable def f314 (n : Nat) (F : Fns) (a0 a1 a2 : AV) (h : Heap) : R :=
 unA25 a0 fun x1 x2 x3 x4 x5 x6 x7 x8 x9 x10 x11 x12 x13 x14 x15 x16 x17 x18 x19 x20 x21 x22 x23 x24 x25 =>
 f314_3 n F a1 a2 h x1 x2 x3 x4 x5 x6 x7 x8 x9 x10 x11 x12 x13 x14 x15 x16 x17 x18 x19 x20 x21 x22 x23 x24 x25

noncomputable def f315_1 (n : Nat) (F : Fns) (a0 : AV) (a1 : AV) (v6 : AV) (h : Heap) : R :=
 loopV (fun vs8 h9 self7 => un3 vs8 fun x10 x11 x12 =>
 (binop .geq x12 (.int .i64 0)).bind fun v13 =>
 asB v13 fun b14 => cond b14
 (asPtr x11 fun p15 o16 =>
 (h9.rd p15 o16 1).bind fun l17 =>
 un1 l17 fun x18 =>
 asI x12 fun i19 =>
 elemP x18 i19 9 fun p20 o21 =>
 (h9.rd p20 o21 9).bind fun l22 =>
 un9 l22 fun x23 x24 x25 x26 x27 x28 x29 x30 x31 =>
 bindC (F.callV x10 [x12, (.agg [x23, x24, x25, x26, x27, x28, x29, x30, x31])] h9) (fun v32 h33 =>
 (unop .not v32).bind fun v34 =>
 asB v34 fun b35 => cond b35
 (some (.ret (.tup []), h33, none))
 ((binop .sub x12 (.int .i64 1)).bind fun v36 =>
 self7 [x10, x11, v36] h33))
 (fun v37 h38 => some (.panic v37, h38, none)))
 (some (.ret (.tup []), h9, none))) n [a0, a1, v6] h
/-- slices.Backward[[]countermand/api.Change,countermand/api.Change]$1 -/
noncomputable def f315 (n : Nat) (F : Fns) (a0 a1 : AV) (h : Heap) : R :=
 asPtr a1 fun p1 o2 =>
 (h.rd p1 o2 1).bind fun l3 =>
 un1 l3 fun x4 =>
 (lenA P 67 x4).bind fun v5 =>
 (binop .sub v5 (.int .i64 1)).bind fun v6 =>
 f315_1 n F a0 a1 v6 h

/-- countermand/stamp.order -/
noncomputable def f316 (n : Nat) (F : Fns) (a0 a1 : AV) (h : Heap) : R :=
 unA9 a0 fun x1 x2 x3 x4 x5 x6 x7 x8 x9 =>
 unA9 a1 fun x10 x11 x12 x13 x14 x15 x16 x17 x18 =>
 bindC (F.plain 322 [x3, x12] h) (fun v19 h20 =>
 bindC (F.plain 322 [x1, x10] h20) (fun v21 h22 =>
 bindC (F.plain 322 [x2, x11] h22) (fun v23 h24 =>
 (opBuildSlice P h24 269 3 [(0, v19), (1, v21), (2, v23)]).bind fun r25 =>
 bindC (F.plain 321 [r25.1] r25.2) (fun v26 h27 =>
 some (.ret v26, h27, none))
 (fun v28 h29 => some (.panic v28, h29, none)))
 (fun v30 h31 => some (.panic v30, h31, none)))
 (fun v32 h33 => none))
 (fun v34 h35 => none)

/-- countermand/deal.place -/
noncomputable def f317 (n : Nat) (F : Fns) (a0 a1 : AV) (h : Heap) : R :=
 unA25 a0 fun x1 x2 x3 x4 x5 x6 x7 x8 x9 x10 x11 x12 x13 x14 x15 x16 x17 x18 x19 x20 x21 x22 x23 x24 x25 =>
 unA2 a1 fun x26 x27 =>
 let h28 := h.push (.cells [x26, x27] 1)
 bindC (F.plain 323 [x25, (.fn 324 [] [(.ptr (some (h.next, 0)))])] h28) (fun v29 h30 =>
 some (.ret v29, h30, none))
 (fun v31 h32 => some (.panic v31, h32, none))

noncomputable def f318_1 (n : Nat) (F : Fns) (v124 : AV) (x53 : AV) (self47 : List AV → Heap → R) (x51 : AV) (x52 : AV) (x54 : AV) (x55 : AV) (x56 : AV) (x57 : AV) (x58 : AV) (x59 : AV) (x60 : AV) (x61 : AV) (x62 : AV) (x63 : AV) (x64 : AV) (x65 : AV) (x66 : AV) (x67 : AV) (x68 : AV) (x69 : AV) (x70 : AV) (x71 : AV) (x72 : AV) (x73 : AV) (x74 : AV) (x75 : AV) (x76 : AV) (x77 : AV) (x78 : AV) (x79 : AV) (x80 : AV) (x81 : AV) (x82 : AV) (x83 : AV) (x84 : AV) (x85 : AV) (x86 : AV) (x87 : AV) (x88 : AV) (x89 : AV) (x90 : AV) (x91 : AV) (x92 : AV) (x93 : AV) (x94 : AV) (x95 : AV) (x96 : AV) (x97 : AV) (x98 : AV) (x99 : AV) (x100 : AV) (x101 : AV) (x102 : AV) (x103 : AV) (x104 : AV) (x105 : AV) (x106 : AV) (x107 : AV) (x108 : AV) (x109 : AV) (x110 : AV) (h125 : Heap) (x50 : AV) : R :=
 asB v124 fun b126 => cond b126
 ((binop .add x53 (.int .i64 1)).bind fun v127 =>
 (binop .add x53 (.int .i64 1)).bind fun v128 =>
 self47 [v127, x51, x52, v128, x54, x55, x56, x57, x58, x59, x60, x61, x62, x63, x64, x65, x66, x67, x68, x69, x70, x71, x72, x73, x74, x75, x76, x77, x78, x79, x80, x81, x82, x83, x84, x85, x86, x87, x88, x89, x90, x91, x92, x93, x94, x95, x96, x97, x98, x99, x100, x101, x102, x103, x104, x105, x106, x107, x108, x109, x110] h125)
 ((binop .add x53 (.int .i64 1)).bind fun v129 =>
 self47 [x50, x51, x52, v129, x54, x55, x56, x57, x58, x59, x60, x61, x62, x63, x64, x65, x66, x67, x68, x69, x70, x71, x72, x73, x74, x75, x76, x77, x78, x79, x80, x81, x82, x83, x84, x85, x86, x87, x88, x89, x90, x91, x92, x93, x94, x95, x96, x97, x98, x99, x100, x101, x102, x103, x104, x105, x106, x107, x108, x109, x110] h125)
noncomputable def f318_2 (n : Nat) (F : Fns) (h49 : Heap) (x78 : AV) (x50 : AV) (x79 : AV) (x80 : AV) (x81 : AV) (x82 : AV) (x83 : AV) (x84 : AV) (x85 : AV) (x54 : AV) (x55 : AV) (x56 : AV) (x57 : AV) (x58 : AV) (x59 : AV) (x60 : AV) (x61 : AV) (x62 : AV) (x63 : AV) (x64 : AV) (x65 : AV) (x66 : AV) (x67 : AV) (x68 : AV) (x69 : AV) (x70 : AV) (x71 : AV) (x72 : AV) (x73 : AV) (x74 : AV) (x75 : AV) (x76 : AV) (x77 : AV) : R :=
 (sliceA P h49 107 x78 none (some x50) none).bind fun v132 =>
 (opBuildSlice P h49 107 1 [(0, .agg [x79, x80, x81, x82, x83, x84, x85])]).bind fun r133 =>
 same (one1 (sliceA P r133.2 107 x78 none (some x50) none)) [v132]
 ((sliceA P r133.2 107 x78 (some x50) none none).bind fun v134 =>
 same (one1 (sliceA P h49 107 x78 (some x50) none none)) [v134]
 ((opBuildSlice P r133.2 411 3 [(0, v132), (1, r133.1), (2, v134)]).bind fun r135 =>
 bindC (F.plain 326 [r135.1] r135.2) (fun v136 h137 =>
 scal v136 fun v138 =>
 some (.ret (.agg [x54, x55, x56, x57, x58, x59, x60, x61, x62, x63, x64, x65, x66, x67, x68, x69, x70, x71, x72, x73, x74, x75, x76, x77, v138]), h137, none))
 (fun v139 h140 => some (.panic v139, h140, none))))
noncomputable def f318_3 (n : Nat) (F : Fns) (v111 : AV) (x53 : AV) (x51 : AV) (h49 : Heap) (x79 : AV) (x80 : AV) (self47 : List AV → Heap → R) (x52 : AV) (x54 : AV) (x55 : AV) (x56 : AV) (x57 : AV) (x58 : AV) (x59 : AV) (x60 : AV) (x61 : AV) (x62 : AV) (x63 : AV) (x64 : AV) (x65 : AV) (x66 : AV) (x67 : AV) (x68 : AV) (x69 : AV) (x70 : AV) (x71 : AV) (x72 : AV) (x73 : AV) (x74 : AV) (x75 : AV) (x76 : AV) (x77 : AV) (x78 : AV) (x81 : AV) (x82 : AV) (x83 : AV) (x84 : AV) (x85 : AV) (x86 : AV) (x87 : AV) (x88 : AV) (x89 : AV) (x90 : AV) (x91 : AV) (x92 : AV) (x93 : AV) (x94 : AV) (x95 : AV) (x96 : AV) (x97 : AV) (x98 : AV) (x99 : AV) (x100 : AV) (x101 : AV) (x102 : AV) (x103 : AV) (x104 : AV) (x105 : AV) (x106 : AV) (x107 : AV) (x108 : AV) (x109 : AV) (x110 : AV) (x50 : AV) : R :=
 asB v111 fun b112 => cond b112
 (asI x53 fun i113 =>
 elemP x51 i113 7 fun p114 o115 =>
 (h49.rd p114 o115 7).bind fun l116 =>
 un7 l116 fun x117 x118 x119 x120 x121 x122 x123 =>
 bindC (F.plain 325 [(.agg [x117, x118]), (.agg [x79, x80])] h49) (fun v124 h125 =>
 f318_1 n F v124 x53 self47 x51 x52 x54 x55 x56 x57 x58 x59 x60 x61 x62 x63 x64 x65 x66 x67 x68 x69 x70 x71 x72 x73 x74 x75 x76 x77 x78 x79 x80 x81 x82 x83 x84 x85 x86 x87 x88 x89 x90 x91 x92 x93 x94 x95 x96 x97 x98 x99 x100 x101 x102 x103 x104 x105 x106 x107 x108 x109 x110 h125 x50)
 (fun v130 h131 => some (.panic v130, h131, none)))
 (f318_2 n F h49 x78 x50 x79 x80 x81 x82 x83 x84 x85 x54 x55 x56 x57 x58 x59 x60 x61 x62 x63 x64 x65 x66 x67 x68 x69 x70 x71 x72 x73 x74 x75 x76 x77)
noncomputable def f318_4 (n : Nat) (F : Fns) (x25 : AV) (v46 : AV) (x1 : AV) (x2 : AV) (x3 : AV) (x4 : AV) (x5 : AV) (x6 : AV) (x7 : AV) (x8 : AV) (x9 : AV) (x10 : AV) (x11 : AV) (x12 : AV) (x13 : AV) (x14 : AV) (x15 : AV) (x16 : AV) (x17 : AV) (x18 : AV) (x19 : AV) (x20 : AV) (x21 : AV) (x22 : AV) (x23 : AV) (x24 : AV) (x26 : AV) (x27 : AV) (x28 : AV) (x29 : AV) (x30 : AV) (x31 : AV) (x32 : AV) (h34 : Heap) : R :=
 loopV (fun vs48 h49 self47 => un61 vs48 fun x50 x51 x52 x53 x54 x55 x56 x57 x58 x59 x60 x61 x62 x63 x64 x65 x66 x67 x68 x69 x70 x71 x72 x73 x74 x75 x76 x77 x78 x79 x80 x81 x82 x83 x84 x85 x86 x87 x88 x89 x90 x91 x92 x93 x94 x95 x96 x97 x98 x99 x100 x101 x102 x103 x104 x105 x106 x107 x108 x109 x110 =>
 (binop .lss x53 x52).bind fun v111 =>
 f318_3 n F v111 x53 x51 h49 x79 x80 self47 x52 x54 x55 x56 x57 x58 x59 x60 x61 x62 x63 x64 x65 x66 x67 x68 x69 x70 x71 x72 x73 x74 x75 x76 x77 x78 x81 x82 x83 x84 x85 x86 x87 x88 x89 x90 x91 x92 x93 x94 x95 x96 x97 x98 x99 x100 x101 x102 x103 x104 x105 x106 x107 x108 x109 x110 x50) n [(.int .i64 0), x25, v46, (.int .i64 0), x1, x2, x3, x4, x5, x6, x7, x8, x9, x10, x11, x12, x13, x14, x15, x16, x17, x18, x19, x20, x21, x22, x23, x24, x25, x26, x27, x28, x29, x30, x31, x32, (.int .i64 0), (.int .i64 0), (.int .i64 0), (.int .i64 0), (.int .i64 0), (.int .i64 0), (.int .i64 0), (.int .i64 0), (.int .i64 0), (.int .i64 0), (.int .i64 0), (.int .i64 0), (.int .i64 0), (.int .i64 0), (.int .i64 0), (.int .i64 0), (.int .i64 0), (.int .i64 0), (.int .i64 0), (.int .i64 0), (.int .i64 0), (.int .i64 0), (.int .i64 0), (.int .i64 0), .nilSlice] h34
noncomputable def f318_5 (n : Nat) (F : Fns) (x1 : AV) (x2 : AV) (x3 : AV) (x4 : AV) (x5 : AV) (x6 : AV) (x7 : AV) (x8 : AV) (x9 : AV) (x10 : AV) (x11 : AV) (x12 : AV) (x13 : AV) (x14 : AV) (x15 : AV) (x16 : AV) (x17 : AV) (x18 : AV) (x19 : AV) (x20 : AV) (x21 : AV) (x22 : AV) (x23 : AV) (x24 : AV) (x25 : AV) (x26 : AV) (x27 : AV) (h : Heap) (x28 : AV) (x29 : AV) (x30 : AV) (x31 : AV) (x32 : AV) : R :=
 bindC (F.plain 317 [(.agg [x1, x2, x3, x4, x5, x6, x7, x8, x9, x10, x11, x12, x13, x14, x15, x16, x17, x18, x19, x20, x21, x22, x23, x24, x25]), (.agg [x26, x27])] h) (fun v33 h34 =>
 (binop .geq v33 (.int .i64 0)).bind fun v35 =>
 asB v35 fun b36 => cond b36
 (bindC (F.plain 162 [x25] h34) (fun v37 h38 =>
 scal v37 fun v39 =>
 asI v33 fun i40 =>
 elemP v39 i40 7 fun p41 o42 =>
 (h38.wr p41 o42 [x26, x27, x28, x29, x30, x31, x32]).bind fun h43 =>
 some (.ret (.agg [x1, x2, x3, x4, x5, x6, x7, x8, x9, x10, x11, x12, x13, x14, x15, x16, x17, x18, x19, x20, x21, x22, x23, x24, v39]), h43, none))
 (fun v44 h45 => some (.panic v44, h45, none)))
 ((lenA P 107 x25).bind fun v46 =>
 f318_4 n F x25 v46 x1 x2 x3 x4 x5 x6 x7 x8 x9 x10 x11 x12 x13 x14 x15 x16 x17 x18 x19 x20 x21 x22 x23 x24 x26 x27 x28 x29 x30 x31 x32 h34))
 (fun v141 h142 => some (.panic v141, h142, none))
/-- countermand/deal.Put -/
noncomputable def f318 (n : Nat) (F : Fns) (a0 a1 : AV) (h : Heap) : R :=
 unA25 a0 fun x1 x2 x3 x4 x5 x6 x7 x8 x9 x10 x11 x12 x13 x14 x15 x16 x17 x18 x19 x20 x21 x22 x23 x24 x25 =>
 unA7 a1 fun x26 x27 x28 x29 x30 x31 x32 =>
 f318_5 n F x1 x2 x3 x4 x5 x6 x7 x8 x9 x10 x11 x12 x13 x14 x15 x16 x17 x18 x19 x20 x21 x22 x23 x24 x25 x26 x27 h x28 x29 x30 x31 x32

noncomputable def f319_1 (n : Nat) (F : Fns) (x1 : AV) (x2 : AV) (x3 : AV) (x4 : AV) (x5 : AV) (x6 : AV) (x7 : AV) (x8 : AV) (x9 : AV) (x10 : AV) (x11 : AV) (x12 : AV) (x13 : AV) (x14 : AV) (x15 : AV) (x16 : AV) (x17 : AV) (x18 : AV) (x19 : AV) (x20 : AV) (x21 : AV) (x22 : AV) (x23 : AV) (x24 : AV) (x25 : AV) (x26 : AV) (x27 : AV) (h : Heap) (a2 : AV) : R :=
 bindC (F.plain 327 [(.agg [x1, x2, x3, x4, x5, x6, x7, x8, x9, x10, x11, x12, x13, x14, x15, x16, x17, x18, x19, x20, x21, x22, x23, x24, x25]), (.agg [x26, x27])] h) (fun v28 h29 =>
 unT2 v28 fun x30 x31 =>
 unA7 x30 fun x32 x33 x34 x35 x36 x37 x38 =>
 (unop .not x31).bind fun v39 =>
 asB v39 fun b40 => cond b40
 (some (.ret (.tup [(.agg [(.int .i64 0), (.int .i64 0), (.int .i64 0), (.int .i64 0), (.int .i64 0), (.int .i64 0), (.int .i64 0)]), (.int .i64 14)]), h29, none))
 (bindC (F.plain 328 [a2, x38] h29) (fun v41 h42 =>
 (unop .not v41).bind fun v43 =>
 asB v43 fun b44 => cond b44
 (some (.ret (.tup [(.agg [(.int .i64 0), (.int .i64 0), (.int .i64 0), (.int .i64 0), (.int .i64 0), (.int .i64 0), (.int .i64 0)]), (.int .i64 9)]), h42, none))
 (some (.ret (.tup [(.agg [x32, x33, x34, x35, x36, x37, x38]), (.int .i64 0)]), h42, none)))
 (fun v45 h46 => some (.panic v45, h46, none))))
 (fun v47 h48 => some (.panic v47, h48, none))
/-- countermand/deal.In -/
noncomputable def f319 (n : Nat) (F : Fns) (a0 a1 a2 : AV) (h : Heap) : R :=
 unA25 a0 fun x1 x2 x3 x4 x5 x6 x7 x8 x9 x10 x11 x12 x13 x14 x15 x16 x17 x18 x19 x20 x21 x22 x23 x24 x25 =>
 unA2 a1 fun x26 x27 =>
 f319_1 n F x1 x2 x3 x4 x5 x6 x7 x8 x9 x10 x11 x12 x13 x14 x15 x16 x17 x18 x19 x20 x21 x22 x23 x24 x25 x26 x27 h a2

noncomputable def f320_1 (n : Nat) (F : Fns) (v15 : AV) (v11 : AV) (x8 : AV) (h6 : Heap) : R :=
 asB v15 fun b16 => cond b16
 (none)
 ((unop .not v11).bind fun v17 =>
 asB v17 fun b18 => cond b18
 ((binop .gtr x8 (.int .u64 9223372036854775807)).bind fun v19 =>
 asB v19 fun b20 => cond b20
 (some (.ret (.tup [(.int .i64 0), (.bool false)]), h6, none))
 (asB v11 fun b21 => cond b21
 ((unop .neg x8).bind fun v22 =>
 (convertA P 277 2 v22).bind fun v23 =>
 some (.ret (.tup [v23, (.bool true)]), h6, none))
 ((convertA P 277 2 x8).bind fun v24 =>
 some (.ret (.tup [v24, (.bool true)]), h6, none))))
 (asB v11 fun b25 => cond b25
 ((unop .neg x8).bind fun v26 =>
 (convertA P 277 2 v26).bind fun v27 =>
 some (.ret (.tup [v27, (.bool true)]), h6, none))
 ((convertA P 277 2 x8).bind fun v28 =>
 some (.ret (.tup [v28, (.bool true)]), h6, none))))
noncomputable def f320_2 (n : Nat) (F : Fns) (v11 : AV) (x8 : AV) (h6 : Heap) : R :=
 asB v11 fun b14 => cond b14
 ((binop .gtr x8 (.int .u64 9223372036854775808)).bind fun v15 =>
 f320_1 n F v15 v11 x8 h6)
 ((unop .not v11).bind fun v29 =>
 asB v29 fun b30 => cond b30
 ((binop .gtr x8 (.int .u64 9223372036854775807)).bind fun v31 =>
 asB v31 fun b32 => cond b32
 (some (.ret (.tup [(.int .i64 0), (.bool false)]), h6, none))
 (asB v11 fun b33 => cond b33
 ((unop .neg x8).bind fun v34 =>
 (convertA P 277 2 v34).bind fun v35 =>
 some (.ret (.tup [v35, (.bool true)]), h6, none))
 ((convertA P 277 2 x8).bind fun v36 =>
 some (.ret (.tup [v36, (.bool true)]), h6, none))))
 (asB v11 fun b37 => cond b37
 ((unop .neg x8).bind fun v38 =>
 (convertA P 277 2 v38).bind fun v39 =>
 some (.ret (.tup [v39, (.bool true)]), h6, none))
 ((convertA P 277 2 x8).bind fun v40 =>
 some (.ret (.tup [v40, (.bool true)]), h6, none))))
/-- countermand/num.Mul -/
noncomputable def f320 (n : Nat) (F : Fns) (a0 a1 : AV) (h : Heap) : R :=
 bindC (F.plain 330 [a0] h) (fun v1 h2 =>
 bindC (F.plain 330 [a1] h2) (fun v3 h4 =>
 bindC (F.plain 329 [v1, v3] h4) (fun v5 h6 =>
 unT2 v5 fun x7 x8 =>
 (binop .lss a0 (.int .i64 0)).bind fun v9 =>
 (binop .lss a1 (.int .i64 0)).bind fun v10 =>
 (eqop P false true 4 v9 v10).bind fun v11 =>
 (binop .gtr x7 (.int .u64 0)).bind fun v12 =>
 asB v12 fun b13 => cond b13
 (none)
 (f320_2 n F v11 x8 h6))
 (fun v41 h42 => some (.panic v41, h42, none)))
 (fun v43 h44 => some (.panic v43, h44, none)))
 (fun v45 h46 => some (.panic v45, h46, none))

/-- cmp.Or[int] -/
noncomputable def f321 (n : Nat) (F : Fns) (a0 : AV) (h : Heap) : R :=
 (lenA P 269 a0).bind fun v1 =>
 loopV (fun vs3 h4 self2 => un4 vs3 fun x5 x6 x7 x8 =>
 (binop .lss x8 x7).bind fun v9 =>
 asB v9 fun b10 => cond b10
 (asI x8 fun i11 =>
 elemP x6 i11 1 fun p12 o13 =>
 (h4.rd p12 o13 1).bind fun l14 =>
 un1 l14 fun x15 =>
 (eqop P false true 3 x15 x5).bind fun v16 =>
 asB v16 fun b17 => cond b17
 (some (.ret x15, h4, none))
 ((binop .add x8 (.int .i64 1)).bind fun v18 =>
 self2 [x5, x6, x7, v18] h4))
 (some (.ret x5, h4, none))) n [(.int .i64 0), a0, v1, (.int .i64 0)] h

/-- cmp.Compare[int] -/
noncomputable def f322 (n : Nat) (F : Fns) (a0 a1 : AV) (h : Heap) : R :=
 bindC (F.plain 331 [a0] h) (fun v1 h2 =>
 bindC (F.plain 331 [a1] h2) (fun v3 h4 =>
 asB v1 fun b5 => cond b5
 (asB v3 fun b6 => cond b6
 (some (.ret (.int .i64 0), h4, none))
 (some (.ret (.int .i64 (-1)), h4, none)))
 (asB v3 fun b7 => cond b7
 (some (.ret (.int .i64 1), h4, none))
 ((binop .lss a0 a1).bind fun v8 =>
 asB v8 fun b9 => cond b9
 (some (.ret (.int .i64 (-1)), h4, none))
 ((binop .gtr a0 a1).bind fun v10 =>
 asB v10 fun b11 => cond b11
 (some (.ret (.int .i64 1), h4, none))
 (some (.ret (.int .i64 0), h4, none))))))
 (fun v12 h13 => some (.panic v12, h13, none)))
 (fun v14 h15 => some (.panic v14, h15, none))
end Go.Proofs.YtahbihcbidkbaaaGreat.Ev

/-
  Printed by mk.py: the equations with the evaluator.
-/
set_option maxRecDepth 100000
set_option maxHeartbeats 4000000
namespace Go.Proofs.YtahbihcbidkbaaaGreat.Ev
open Go
theorem f286_eq (n : Nat) (F : Fns) (a0 a1 a2 : AV) (h : Heap) : callStep cx n F 286 [a0, a1, a2] h none = f286 n F a0 a1 a2 h := by kernel_rfl
theorem f287_eq (n : Nat) (F : Fns) (a0 a1 a2 a3 : AV) (h : Heap) : callStep cx n F 287 [a0, a1, a2, a3] h none = f287 n F a0 a1 a2 a3 h := by kernel_rfl
theorem f289_eq (n : Nat) (F : Fns) (a0 a1 : AV) (h : Heap) : callStep cx n F 289 [a0, a1] h none = f289 n F a0 a1 h := by kernel_rfl
theorem f290_eq (n : Nat) (F : Fns) (a0 a1 : AV) (h : Heap) : callStep cx n F 290 [a0, a1] h none = f290 n F a0 a1 h := by kernel_rfl
theorem f291_eq (n : Nat) (F : Fns) (a0 a1 : AV) (h : Heap) : callStep cx n F 291 [a0, a1] h none = f291 n F a0 a1 h := by kernel_rfl
theorem f292_eq (n : Nat) (F : Fns) (a0 a1 : AV) (h : Heap) : callStep cx n F 292 [a0, a1] h none = f292 n F a0 a1 h := by kernel_rfl
theorem f293_eq (n : Nat) (F : Fns) (a0 a1 : AV) (h : Heap) : callStep cx n F 293 [a0, a1] h none = f293 n F a0 a1 h := by kernel_rfl
theorem f294_eq (n : Nat) (F : Fns) (a0 a1 a2 : AV) (h : Heap) : callStep cx n F 294 [a0, a1, a2] h none = f294 n F a0 a1 a2 h := by kernel_rfl
theorem f295_eq (n : Nat) (F : Fns) (a0 a1 : AV) (h : Heap) : callStep cx n F 295 [a0, a1] h none = f295 n F a0 a1 h := by kernel_rfl
theorem f296_eq (n : Nat) (F : Fns) (a0 a1 : AV) (h : Heap) : callStep cx n F 296 [a0, a1] h none = f296 n F a0 a1 h := by kernel_rfl
theorem f297_eq (n : Nat) (F : Fns) (a0 a1 a2 a3 a4 : AV) (h : Heap) : callStep cx n F 297 [a0, a1, a2, a3, a4] h none = f297 n F a0 a1 a2 a3 a4 h := by kernel_rfl
theorem f298_eq (n : Nat) (F : Fns) (a0 : AV) (h : Heap) : callStep cx n F 298 [a0] h none = f298 n F a0 h := by kernel_rfl
theorem f299_eq (n : Nat) (F : Fns) (a0 a1 : AV) (h : Heap) : callStep cx n F 299 [a0, a1] h none = f299 n F a0 a1 h := by kernel_rfl
theorem f300_eq (n : Nat) (F : Fns) (a0 a1 : AV) (h : Heap) : callStep cx n F 300 [a0, a1] h none = f300 n F a0 a1 h := by kernel_rfl
theorem f301_eq (n : Nat) (F : Fns) (a0 : AV) (h : Heap) : callStep cx n F 301 [a0] h none = f301 n F a0 h := by kernel_rfl
theorem f302_eq (n : Nat) (F : Fns) (a0 a1 : AV) (h : Heap) : callStep cx n F 302 [a0, a1] h none = f302 n F a0 a1 h := by kernel_rfl
theorem f303_eq (n : Nat) (F : Fns) (a0 a1 : AV) (h : Heap) : callStep cx n F 303 [a0, a1] h none = f303 n F a0 a1 h := by kernel_rfl
theorem f304_eq (n : Nat) (F : Fns) (a0 a1 : AV) (h : Heap) : callStep cx n F 304 [a0, a1] h none = f304 n F a0 a1 h := by kernel_rfl
theorem f305_eq (n : Nat) (F : Fns) (a0 a1 : AV) (h : Heap) : callStep cx n F 305 [a0, a1] h none = f305 n F a0 a1 h := by kernel_rfl
theorem f306_eq (n : Nat) (F : Fns) (a0 : AV) (h : Heap) : callStep cx n F 306 [a0] h none = f306 n F a0 h := by kernel_rfl
theorem f307_eq (n : Nat) (F : Fns) (a0 : AV) (h : Heap) : callStep cx n F 307 [a0] h none = f307 n F a0 h := by kernel_rfl
theorem f308_eq (n : Nat) (F : Fns) (a0 a1 a2 : AV) (h : Heap) : callStep cx n F 308 [a0, a1, a2] h none = f308 n F a0 a1 a2 h := by kernel_rfl
theorem f309_eq (n : Nat) (F : Fns) (a0 a1 : AV) (h : Heap) : callStep cx n F 309 [a0, a1] h none = f309 n F a0 a1 h := by kernel_rfl
theorem f310_eq (n : Nat) (F : Fns) (a0 a1 a2 : AV) (h : Heap) : callStep cx n F 310 [a0, a1, a2] h none = f310 n F a0 a1 a2 h := by kernel_rfl
theorem f311_eq (n : Nat) (F : Fns) (a0 a1 a2 : AV) (h : Heap) : callStep cx n F 311 [a0, a1, a2] h none = f311 n F a0 a1 a2 h := by kernel_rfl
theorem f312_eq (n : Nat) (F : Fns) (a0 a1 a2 : AV) (h : Heap) : callStep cx n F 312 [a0, a1, a2] h none = f312 n F a0 a1 a2 h := by kernel_rfl
theorem f313_eq (n : Nat) (F : Fns) (a0 a1 a2 : AV) (h : Heap) : callStep cx n F 313 [a0, a1, a2] h none = f313 n F a0 a1 a2 h := by kernel_rfl
theorem f314_eq (n : Nat) (F : Fns) (a0 a1 a2 : AV) (h : Heap) : callStep cx n F 314 [a0, a1, a2] h none = f314 n F a0 a1 a2 h := by kernel_rfl
theorem f315_eq (n : Nat) (F : Fns) (a0 a1 : AV) (h : Heap) : callStep cx n F 315 [a0, a1] h none = f315 n F a0 a1 h := by kernel_rfl
theorem f316_eq (n : Nat) (F : Fns) (a0 a1 : AV) (h : Heap) : callStep cx n F 316 [a0, a1] h none = f316 n F a0 a1 h := by kernel_rfl
theorem f317_eq (n : Nat) (F : Fns) (a0 a1 : AV) (h : Heap) : callStep cx n F 317 [a0, a1] h none = f317 n F a0 a1 h := by kernel_rfl
theorem f318_eq (n : Nat) (F : Fns) (a0 a1 : AV) (h : Heap) : callStep cx n F 318 [a0, a1] h none = f318 n F a0 a1 h := by kernel_rfl
theorem f319_eq (n : Nat) (F : Fns) (a0 a1 a2 : AV) (h : Heap) : callStep cx n F 319 [a0, a1, a2] h none = f319 n F a0 a1 a2 h := by kernel_rfl
theorem f320_eq (n : Nat) (F : Fns) (a0 a1 : AV) (h : Heap) : callStep cx n F 320 [a0, a1] h none = f320 n F a0 a1 h := by kernel_rfl
theorem f321_eq (n : Nat) (F : Fns) (a0 : AV) (h : Heap) : callStep cx n F 321 [a0] h none = f321 n F a0 h := by kernel_rfl
theorem f322_eq (n : Nat) (F : Fns) (a0 a1 : AV) (h : Heap) : callStep cx n F 322 [a0, a1] h none = f322 n F a0 a1 h := by kernel_rfl
end Go.Proofs.YtahbihcbidkbaaaGreat.Ev
