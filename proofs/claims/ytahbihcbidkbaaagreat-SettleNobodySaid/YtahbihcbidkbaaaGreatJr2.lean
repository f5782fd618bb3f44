/-
  Printed by mk.py: the functions as the evaluator has them.
-/
import Derived.Test.YtahbihcbidkbaaaGreatJt
import Derived.KernelRfl
set_option linter.unusedVariables false
set_option maxRecDepth 100000
namespace Go.Proofs.YtahbihcbidkbaaaGreat.Ev
open Go
noncomputable def f86_1 (n : Nat) (F : Fns) (v4 : AV) (h5 : Heap) (a0 : AV) : R :=
 asB v4 fun b6 => cond b6
 (some (.ret (.int .i64 9), h5, none))
 (notNil a0 fun v7 =>
 asPtr v7 fun p8 o9 =>
 (h5.rd p8 (o9 + 7) 1).bind fun l10 =>
 un1 l10 fun x11 =>
 bindC (F.plain 93 [x11] h5) (fun v12 h13 =>
 unT0 v12 fun _u =>
 notNil a0 fun v14 =>
 asPtr v14 fun p15 o16 =>
 (h13.rd p15 (o16 + 6) 1).bind fun l17 =>
 un1 l17 fun x18 =>
 notNil a0 fun v19 =>
 asPtr v19 fun p20 o21 =>
 (h13.rd p20 (o21 + 7) 1).bind fun l22 =>
 un1 l22 fun x23 =>
 bindC (F.plain 64 [x18, x23] h13) (fun v24 h25 =>
 notNil a0 fun v26 =>
 asPtr v26 fun p27 o28 =>
 scal v24 fun v29 =>
 (h25.wr p27 (o28 + 0) [v29]).bind fun h30 =>
 some (.ret (.int .i64 0), h30, none))
 (fun v31 h32 => some (.panic v31, h32, none)))
 (fun v33 h34 => some (.panic v33, h34, none)))
noncomputable def f86_2 (n : Nat) (F : Fns) (v44 : AV) (h45 : Heap) (a0 : AV) : R :=
 asB v44 fun b46 => cond b46
 (some (.ret (.int .i64 9), h45, none))
 (notNil a0 fun v47 =>
 asPtr v47 fun p48 o49 =>
 (h45.rd p48 (o49 + 7) 1).bind fun l50 =>
 un1 l50 fun x51 =>
 bindC (F.plain 93 [x51] h45) (fun v52 h53 =>
 unT0 v52 fun _u =>
 notNil a0 fun v54 =>
 asPtr v54 fun p55 o56 =>
 (h53.rd p55 (o56 + 6) 1).bind fun l57 =>
 un1 l57 fun x58 =>
 notNil a0 fun v59 =>
 asPtr v59 fun p60 o61 =>
 (h53.rd p60 (o61 + 7) 1).bind fun l62 =>
 un1 l62 fun x63 =>
 bindC (F.plain 64 [x58, x63] h53) (fun v64 h65 =>
 notNil a0 fun v66 =>
 asPtr v66 fun p67 o68 =>
 scal v64 fun v69 =>
 (h65.wr p67 (o68 + 0) [v69]).bind fun h70 =>
 some (.ret (.int .i64 0), h70, none))
 (fun v71 h72 => some (.panic v71, h72, none)))
 (fun v73 h74 => some (.panic v73, h74, none)))
/-- (*countermand/node.Node).Restart -/
noncomputable def f86 (n : Nat) (F : Fns) (a0 : AV) (h : Heap) : R :=
 (eqop P true false 82 a0 (.ptr none)).bind fun v1 =>
 asB v1 fun b2 => cond b2
 (asB v1 fun b3 => cond b3
 (some (.ret (.int .i64 19), h, none))
 (bindC (F.plain 51 [a0] h) (fun v4 h5 =>
 f86_1 n F v4 h5 a0)
 (fun v35 h36 => some (.panic v35, h36, none))))
 (notNil a0 fun v37 =>
 asPtr v37 fun p38 o39 =>
 (h.rd p38 (o39 + 7) 1).bind fun l40 =>
 un1 l40 fun x41 =>
 (eqop P true false 120 x41 (.ptr none)).bind fun v42 =>
 asB v42 fun b43 => cond b43
 (some (.ret (.int .i64 19), h, none))
 (bindC (F.plain 51 [a0] h) (fun v44 h45 =>
 f86_2 n F v44 h45 a0)
 (fun v75 h76 => some (.panic v75, h76, none))))

noncomputable def f87_1 (n : Nat) (F : Fns) (h2 : Heap) (p16 : Nat) (o17 : Nat) (p11 : Nat) (o12 : Nat) (l13 : List AV) (p6 : Nat) (o7 : Nat) (l8 : List AV) (x14 : AV) (a0 : AV) : R :=
 (h2.rd p16 (o17 + 0) 1).bind fun l18 =>
 un1 l18 fun x19 =>
 notNil x19 fun v20 =>
 asPtr v20 fun p21 o22 =>
 (h2.rd p21 (o22 + 1) 1).bind fun l23 =>
 un1 l23 fun x24 =>
 bindC (F.plain 136 [x24] h2) (fun v25 h26 =>
 same (h26.rd p11 (o12 + 0) 1) l13
 (same (h26.rd p6 (o7 + 0) 1) l8
 ((opAppend P (h26.push (.cells [(.int .u8 5)] 1)) 155 155 (.slice h26.next 0 0 1 (.ex 1)) v25).bind fun r27 =>
 same (r27.2.rd p11 (o12 + 0) 1) l13
 (same (r27.2.rd p6 (o7 + 0) 1) l8
 (bindC (F.plain 135 [x14, r27.1] r27.2) (fun v28 h29 =>
 bindC (F.plain 68 [a0, v28] h29) (fun v30 h31 =>
 some (.ret v30, h31, none))
 (fun v32 h33 => some (.panic v32, h33, none)))
 (fun v34 h35 => some (.panic v34, h35, none)))))))
 (fun v36 h37 => some (.panic v36, h37, none))
/-- (*countermand/node.Node).Pack -/
noncomputable def f87 (n : Nat) (F : Fns) (a0 : AV) (h : Heap) : R :=
 bindC (F.plain 51 [a0] h) (fun v1 h2 =>
 (unop .not v1).bind fun v3 =>
 asB v3 fun b4 => cond b4
 (some (.ret (.int .i64 19), h2, none))
 (notNil a0 fun v5 =>
 asPtr v5 fun p6 o7 =>
 (h2.rd p6 (o7 + 0) 1).bind fun l8 =>
 un1 l8 fun x9 =>
 notNil x9 fun v10 =>
 asPtr v10 fun p11 o12 =>
 (h2.rd p11 (o12 + 0) 1).bind fun l13 =>
 un1 l13 fun x14 =>
 notNil a0 fun v15 =>
 asPtr v15 fun p16 o17 =>
 f87_1 n F h2 p16 o17 p11 o12 l13 p6 o7 l8 x14 a0))
 (fun v38 h39 => some (.panic v38, h39, none))

/-- (*countermand/node.Node).Arm -/
noncomputable def f88 (n : Nat) (F : Fns) (a0 a1 : AV) (h : Heap) : R :=
 bindC (F.plain 51 [a0] h) (fun v1 h2 =>
 asB v1 fun b3 => cond b3
 (notNil a0 fun v4 =>
 asPtr v4 fun p5 o6 =>
 (h2.rd p5 (o6 + 7) 1).bind fun l7 =>
 un1 l7 fun x8 =>
 bindC (F.plain 137 [x8, a1] h2) (fun v9 h10 =>
 unT0 v9 fun _u =>
 some (.ret (.tup []), h10, none))
 (fun v11 h12 => some (.panic v11, h12, none)))
 (some (.ret (.tup []), h2, none)))
 (fun v13 h14 => some (.panic v13, h14, none))

/-- maps.Clone[map[countermand/api.Key]bool,countermand/api.Key,bool] -/
noncomputable def f89 (n : Nat) (F : Fns) (a0 : AV) (h : Heap) : R :=
 (eqop P true false 79 a0 (.map none)).bind fun v1 =>
 asB v1 fun b2 => cond b2
 (some (.ret (.map none), h, none))
 (bindC (F.plain 138 [(.iface 79 a0)] h) (fun v3 h4 =>
 (typeAssertA P v3 79 false).bind fun v5 =>
 some (.ret v5, h4, none))
 (fun v6 h7 => some (.panic v6, h7, none)))

noncomputable def f90_1 (n : Nat) (F : Fns) (v4 : AV) (h : Heap) (a0 : AV) (x2 : AV) (x1 : AV) (x3 : AV) : R :=
 asB v4 fun b5 => cond b5
 (some (.ret (.bool false), h, none))
 (notNil a0 fun v6 =>
 asPtr v6 fun p7 o8 =>
 (h.rd p7 (o8 + 0) 1).bind fun l9 =>
 un1 l9 fun x10 =>
 (lenA P 76 x10).bind fun v11 =>
 (binop .geq v11 (.int .i64 128)).bind fun v12 =>
 asB v12 fun b13 => cond b13
 (some (.ret (.bool false), h, none))
 (bindC (F.plain 139 [x2] h) (fun v14 h15 =>
 scal v14 fun v16 =>
 notNil a0 fun v17 =>
 asPtr v17 fun p18 o19 =>
 (h15.rd p18 (o19 + 0) 1).bind fun l20 =>
 un1 l20 fun x21 =>
 (appendA P h15 165 x21 1 [x1, v16, x3]).bind fun r22 =>
 notNil a0 fun v23 =>
 asPtr v23 fun p24 o25 =>
 scal r22.1 fun v26 =>
 (r22.2.wr p24 (o25 + 0) [v26]).bind fun h27 =>
 some (.ret (.bool true), h27, none))
 (fun v28 h29 => some (.panic v28, h29, none))))
/-- (*countermand/wire.Wire).post -/
noncomputable def f90 (n : Nat) (F : Fns) (a0 a1 : AV) (h : Heap) : R :=
 unA3 a1 fun x1 x2 x3 =>
 (eqop P true false 24 a0 (.ptr none)).bind fun v4 =>
 f90_1 n F v4 h a0 x2 x1 x3

noncomputable def f91_1 (n : Nat) (F : Fns) (a0 : AV) (h2 : Heap) : R :=
 notNil a0 fun v5 =>
 asPtr v5 fun p6 o7 =>
 (h2.rd p6 (o7 + 0) 1).bind fun l8 =>
 un1 l8 fun x9 =>
 bindC (F.plain 140 [x9] h2) (fun v10 h11 =>
 notNil a0 fun v12 =>
 asPtr v12 fun p13 o14 =>
 (h11.rd p13 (o14 + 1) 1).bind fun l15 =>
 same (h2.rd p13 (o14 + 1) 1) l15
 (un1 l15 fun x16 =>
 bindC (F.plain 55 [x16] h11) (fun v17 h18 =>
 notNil a0 fun v19 =>
 asPtr v19 fun p20 o21 =>
 (h18.rd p20 (o21 + 2) 1).bind fun l22 =>
 same (h11.rd p20 (o21 + 2) 1) l22
 (same (h2.rd p20 (o21 + 2) 1) l22
 (un1 l22 fun x23 =>
 scal v10 fun v24 =>
 scal v17 fun v25 =>
 scal x23 fun v26 =>
 let h27 := h18.push (.cells [v24, v25, v26] 1)
 some (.ret (.ptr (some (h18.next, 0))), h27, none))))
 (fun v28 h29 => none)))
 (fun v30 h31 => none)
/-- (*countermand/state.State).Clone -/
noncomputable def f91 (n : Nat) (F : Fns) (a0 : AV) (h : Heap) : R :=
 bindC (F.plain 54 [a0] h) (fun v1 h2 =>
 (unop .not v1).bind fun v3 =>
 asB v3 fun b4 => cond b4
 (some (.ret (.ptr none), h2, none))
 (f91_1 n F a0 h2))
 (fun v32 h33 => some (.panic v32, h33, none))

noncomputable def f92_1 (n : Nat) (F : Fns) (h : Heap) (p4 : Nat) (o5 : Nat) (a0 : AV) : R :=
 (h.rd p4 (o5 + 0) 1).bind fun l6 =>
 un1 l6 fun x7 =>
 (unop .not x7).bind fun v8 =>
 asB v8 fun b9 => cond b9
 (some (.ret (.ptr none), h, none))
 (notNil a0 fun v10 =>
 asPtr v10 fun p11 o12 =>
 (h.rd p11 o12 5).bind fun l13 =>
 un5 l13 fun x14 x15 x16 x17 x18 =>
 let h19 := h.push (.cells [(.bool false), (.bool false), (.int .i64 0), (.int .i64 0), .nilSlice] 1)
 (h19.wr h.next 0 [x14, x15, x16, x17, x18]).bind fun h20 =>
 notNil a0 fun v21 =>
 asPtr v21 fun p22 o23 =>
 (h20.rd p22 (o23 + 4) 1).bind fun l24 =>
 un1 l24 fun x25 =>
 bindC (F.plain 141 [x25] h20) (fun v26 h27 =>
 scal v26 fun v28 =>
 (h27.wr h.next 4 [v28]).bind fun h29 =>
 some (.ret (.ptr (some (h.next, 0))), h29, none))
 (fun v30 h31 => some (.panic v30, h31, none)))
/-- (*countermand/disk.Disk).Clone -/
noncomputable def f92 (n : Nat) (F : Fns) (a0 : AV) (h : Heap) : R :=
 (eqop P true false 120 a0 (.ptr none)).bind fun v1 =>
 asB v1 fun b2 => cond b2
 (some (.ret (.ptr none), h, none))
 (notNil a0 fun v3 =>
 asPtr v3 fun p4 o5 =>
 f92_1 n F h p4 o5 a0)

/-- (*countermand/disk.Disk).Revive -/
noncomputable def f93 (n : Nat) (F : Fns) (a0 : AV) (h : Heap) : R :=
 (eqop P true true 120 a0 (.ptr none)).bind fun v1 =>
 asB v1 fun b2 => cond b2
 (notNil a0 fun v3 =>
 asPtr v3 fun p4 o5 =>
 (h.rd p4 (o5 + 0) 1).bind fun l6 =>
 un1 l6 fun x7 =>
 asB x7 fun b8 => cond b8
 (notNil a0 fun v9 =>
 asPtr v9 fun p10 o11 =>
 (h.wr p10 (o11 + 1) [(.bool false)]).bind fun h12 =>
 notNil a0 fun v13 =>
 asPtr v13 fun p14 o15 =>
 (h12.wr p14 (o15 + 2) [(.int .i64 (-1))]).bind fun h16 =>
 some (.ret (.tup []), h16, none))
 (some (.ret (.tup []), h, none)))
 (some (.ret (.tup []), h, none))

/-- slices.Clone[[]countermand/api.Outcome,countermand/api.Outcome] -/
noncomputable def f94 (n : Nat) (F : Fns) (a0 : AV) (h : Heap) : R :=
 (eqop P true false 105 a0 .nilSlice).bind fun v1 =>
 asB v1 fun b2 => cond b2
 (some (.ret .nilSlice, h, none))
 ((opAppend P (h.push (.cells [] 2)) 105 105 (.slice h.next 0 0 0 (.ex 0)) a0).bind fun r3 =>
 some (.ret r3.1, r3.2, none))

/-- countermand/fold.Last -/
noncomputable def f95 (n : Nat) (F : Fns) (a0 a1 : AV) (h : Heap) : R :=
 unA25 a0 fun x1 x2 x3 x4 x5 x6 x7 x8 x9 x10 x11 x12 x13 x14 x15 x16 x17 x18 x19 x20 x21 x22 x23 x24 x25 =>
 bindC (F.plain 112 [(.agg [x1, x2, x3, x4, x5, x6, x7, x8, x9, x10, x11, x12, x13, x14, x15, x16, x17, x18, x19, x20, x21, x22, x23, x24, x25]), a1] h) (fun v26 h27 =>
 unT2 v26 fun x28 x29 =>
 unA25 x28 fun x30 x31 x32 x33 x34 x35 x36 x37 x38 x39 x40 x41 x42 x43 x44 x45 x46 x47 x48 x49 x50 x51 x52 x53 x54 =>
 some (.ret (.agg [x30, x31, x32, x33, x34, x35, x36, x37, x38, x39, x40, x41, x42, x43, x44, x45, x46, x47, x48, x49, x50, x51, x52, x53, x54]), h27, none))
 (fun v55 h56 => some (.panic v55, h56, none))

/-- (*countermand/tent.Tent).Clone -/
noncomputable def f96 (n : Nat) (F : Fns) (a0 : AV) (h : Heap) : R :=
 (eqop P true false 112 a0 (.ptr none)).bind fun v1 =>
 asB v1 fun b2 => cond b2
 (some (.ret (.ptr none), h, none))
 (bindC (F.plain 97 [a0] h) (fun v3 h4 =>
 scal v3 fun v5 =>
 let h6 := h4.push (.cells [v5] 1)
 some (.ret (.ptr (some (h4.next, 0))), h6, none))
 (fun v7 h8 => some (.panic v7, h8, none)))

/-- (*countermand/tent.Tent).All -/
noncomputable def f97 (n : Nat) (F : Fns) (a0 : AV) (h : Heap) : R :=
 (eqop P true false 112 a0 (.ptr none)).bind fun v1 =>
 asB v1 fun b2 => cond b2
 (some (.ret .nilSlice, h, none))
 (notNil a0 fun v3 =>
 asPtr v3 fun p4 o5 =>
 (h.rd p4 (o5 + 0) 1).bind fun l6 =>
 un1 l6 fun x7 =>
 bindC (F.plain 57 [x7] h) (fun v8 h9 =>
 some (.ret v8, h9, none))
 (fun v10 h11 => some (.panic v10, h11, none)))

/-- slices.ContainsFunc[[]countermand/ledger.line,countermand/ledger.line] -/
noncomputable def f98 (n : Nat) (F : Fns) (a0 a1 : AV) (h : Heap) : R :=
 bindC (F.plain 142 [a0, a1] h) (fun v1 h2 =>
 (binop .geq v1 (.int .i64 0)).bind fun v3 =>
 some (.ret v3, h2, none))
 (fun v4 h5 => some (.panic v4, h5, none))

/-- (*countermand/ledger.Ledger).lines -/
noncomputable def f99 (n : Nat) (F : Fns) (a0 : AV) (h : Heap) : R :=
 (eqop P true false 101 a0 (.ptr none)).bind fun v1 =>
 asB v1 fun b2 => cond b2
 (some (.ret .nilSlice, h, none))
 (notNil a0 fun v3 =>
 asPtr v3 fun p4 o5 =>
 (h.rd p4 (o5 + 2) 1).bind fun l6 =>
 un1 l6 fun x7 =>
 some (.ret x7, h, none))

/-- (*countermand/ledger.Ledger).Quiet$1 -/
noncomputable def f100 (n : Nat) (F : Fns) (a0 : AV) (h : Heap) : R :=
 unA5 a0 fun x1 x2 x3 x4 x5 =>
 bindC (F.plain 101 [(.agg [x1, x2, x3, x4]), x5] h) (fun v6 h7 =>
 (unop .not v6).bind fun v8 =>
 some (.ret v8, h7, none))
 (fun v9 h10 => some (.panic v9, h10, none))

/-- countermand/chain.Quiet -/
noncomputable def f101 (n : Nat) (F : Fns) (a0 a1 : AV) (h : Heap) : R :=
 unA4 a0 fun x1 x2 x3 x4 =>
 (lenA P 173 x4).bind fun v5 =>
 (lenA P 129 a1).bind fun v6 =>
 (eqop P false false 3 v5 v6).bind fun v7 =>
 asB v7 fun b8 => cond b8
 (bindC (F.plain 143 [x4, (.fn 144 [] [])] h) (fun v9 h10 =>
 (unop .not v9).bind fun v11 =>
 some (.ret v11, h10, none))
 (fun v12 h13 => some (.panic v12, h13, none)))
 (some (.ret (.bool false), h, none))

/-- countermand/chain.Dead -/
noncomputable def f102 (n : Nat) (F : Fns) (a0 a1 a2 : AV) (h : Heap) : R :=
 unA4 a0 fun x1 x2 x3 x4 =>
 unA5 a1 fun x5 x6 x7 x8 x9 =>
 bindC (F.plain 145 [(.agg [x1, x2, x3, x4])] h) (fun v10 h11 =>
 unT2 v10 fun x12 x13 =>
 unA12 x12 fun x14 x15 x16 x17 x18 x19 x20 x21 x22 x23 x24 x25 =>
 asB x13 fun b26 => cond b26
 (bindC (F.plain 146 [(.agg [x14, x15, x16, x17, x18, x19, x20, x21, x22, x23, x24, x25]), (.agg [x5, x6, x7, x8, x9]), a2] h11) (fun v27 h28 =>
 some (.ret v27, h28, none))
 (fun v29 h30 => some (.panic v29, h30, none)))
 (some (.ret (.bool false), h11, none)))
 (fun v31 h32 => some (.panic v31, h32, none))

/-- countermand/entry.Undoes -/
noncomputable def f103 (n : Nat) (F : Fns) (a0 : AV) (h : Heap) : R :=
 unA12 a0 fun x1 x2 x3 x4 x5 x6 x7 x8 x9 x10 x11 x12 =>
 asB x9 fun b13 => cond b13
 (some (.ret x10, h, none))
 (some (.ret (.bool false), h, none))

noncomputable def f104_1 (n : Nat) (F : Fns) (h73 : Heap) (p75 : Nat) (o76 : Nat) (x42 : AV) (v72 : AV) : R :=
 (h73.rd p75 (o76 + 0) 2).bind fun l77 =>
 un2 l77 fun x78 x79 =>
 notNil x42 fun v80 =>
 asPtr v80 fun p81 o82 =>
 (h73.rd p81 (o82 + 0) 2).bind fun l83 =>
 un2 l83 fun x84 x85 =>
 bindC (F.plain 116 [(.agg [x84, x85])] h73) (fun v86 h87 =>
 same (h87.rd p75 (o76 + 0) 2) l77
 (notNil x42 fun v88 =>
 asPtr v88 fun p89 o90 =>
 (h87.rd p89 (o90 + 4) 1).bind fun l91 =>
 same (h73.rd p89 (o90 + 4) 1) l91
 (un1 l91 fun x92 =>
 bindC (F.plain 115 [(.agg [x78, x79]), v86, x92, v72] h87) (fun v93 h94 =>
 (unop .not v93).bind fun v95 =>
 asB v95 fun b96 => cond b96
 (some (.ret (.tup [(.ptr none), (.bool false)]), h94, none))
 (some (.ret (.tup [x42, (.bool true)]), h94, none)))
 (fun v97 h98 => some (.panic v97, h98, none)))))
 (fun v99 h100 => none)
noncomputable def f104_2 (n : Nat) (F : Fns) (v52 : AV) (x43 : AV) (h41 : Heap) (x44 : AV) (self39 : List AV → Heap → R) (x42 : AV) : R :=
 asI v52 fun i53 =>
 elemP x43 i53 1 fun p54 o55 =>
 (h41.rd p54 o55 1).bind fun l56 =>
 un1 l56 fun x57 =>
 (eqop P true false 5 x57 (.int .u8 0)).bind fun v58 =>
 asB v58 fun b59 => cond b59
 ((binop .sub x44 (.int .i64 1)).bind fun v60 =>
 self39 [x42, x43, v60] h41)
 (notNil x42 fun v61 =>
 asPtr v61 fun p62 o63 =>
 (h41.rd p62 (o63 + 4) 1).bind fun l64 =>
 un1 l64 fun x65 =>
 notNil x42 fun v66 =>
 asPtr v66 fun p67 o68 =>
 (h41.rd p67 (o68 + 4) 1).bind fun l69 =>
 un1 l69 fun x70 =>
 (fold2 max2 x44 [x70]).bind fun v71 =>
 (sliceA P h41 155 x43 (some x65) (some v71) none).bind fun v72 =>
 (opClear P h41 155 v72).bind fun h73 =>
 notNil x42 fun v74 =>
 asPtr v74 fun p75 o76 =>
 f104_1 n F h73 p75 o76 x42 v72)
noncomputable def f104_3 (n : Nat) (F : Fns) (x42 : AV) (h113 : Heap) (p115 : Nat) (o116 : Nat) (l117 : List AV) (x118 : AV) (x119 : AV) (v112 : AV) : R :=
 notNil x42 fun v120 =>
 asPtr v120 fun p121 o122 =>
 (h113.rd p121 (o122 + 0) 2).bind fun l123 =>
 un2 l123 fun x124 x125 =>
 bindC (F.plain 116 [(.agg [x124, x125])] h113) (fun v126 h127 =>
 same (h127.rd p115 (o116 + 0) 2) l117
 (notNil x42 fun v128 =>
 asPtr v128 fun p129 o130 =>
 (h127.rd p129 (o130 + 4) 1).bind fun l131 =>
 same (h113.rd p129 (o130 + 4) 1) l131
 (un1 l131 fun x132 =>
 bindC (F.plain 115 [(.agg [x118, x119]), v126, x132, v112] h127) (fun v133 h134 =>
 (unop .not v133).bind fun v135 =>
 asB v135 fun b136 => cond b136
 (some (.ret (.tup [(.ptr none), (.bool false)]), h134, none))
 (some (.ret (.tup [x42, (.bool true)]), h134, none)))
 (fun v137 h138 => some (.panic v137, h138, none)))))
 (fun v139 h140 => none)
noncomputable def f104_4 (n : Nat) (F : Fns) (x44 : AV) (x49 : AV) (x43 : AV) (h41 : Heap) (self39 : List AV → Heap → R) (x42 : AV) : R :=
 (binop .gtr x44 x49).bind fun v50 =>
 asB v50 fun b51 => cond b51
 ((binop .sub x44 (.int .i64 1)).bind fun v52 =>
 f104_2 n F v52 x43 h41 x44 self39 x42)
 (notNil x42 fun v101 =>
 asPtr v101 fun p102 o103 =>
 (h41.rd p102 (o103 + 4) 1).bind fun l104 =>
 un1 l104 fun x105 =>
 notNil x42 fun v106 =>
 asPtr v106 fun p107 o108 =>
 (h41.rd p107 (o108 + 4) 1).bind fun l109 =>
 un1 l109 fun x110 =>
 (fold2 max2 x44 [x110]).bind fun v111 =>
 (sliceA P h41 155 x43 (some x105) (some v111) none).bind fun v112 =>
 (opClear P h41 155 v112).bind fun h113 =>
 notNil x42 fun v114 =>
 asPtr v114 fun p115 o116 =>
 (h113.rd p115 (o116 + 0) 2).bind fun l117 =>
 un2 l117 fun x118 x119 =>
 f104_3 n F x42 h113 p115 o116 l117 x118 x119 v112)
noncomputable def f104_5 (n : Nat) (F : Fns) (h14 : Heap) (h9 : Heap) (l15 : List AV) (x16 : AV) (x17 : AV) : R :=
 (h14.rd h9.next 0 2).bind fun l18 =>
 un2 l18 fun x19 x20 =>
 bindC (F.plain 116 [(.agg [x19, x20])] h14) (fun v21 h22 =>
 same (h22.rd h9.next 0 2) l15
 (bindC (F.plain 148 [(.agg [x16, x17]), v21] h22) (fun v23 h24 =>
 bindC (F.plain 149 [v23] h24) (fun v25 h26 =>
 unT2 v25 fun x27 x28 =>
 scal x27 fun v29 =>
 (h26.wr h9.next 2 [v29]).bind fun h30 =>
 scal x28 fun v31 =>
 (h30.wr h9.next 4 [v31]).bind fun h32 =>
 (h32.rd h9.next 2 1).bind fun l33 =>
 un1 l33 fun x34 =>
 (lenA P 199 x34).bind fun v35 =>
 scal v35 fun v36 =>
 (h32.wr h9.next 3 [v36]).bind fun h37 =>
 (lenA P 155 v23).bind fun v38 =>
 loopV (fun vs40 h41 self39 => un3 vs40 fun x42 x43 x44 =>
 notNil x42 fun v45 =>
 asPtr v45 fun p46 o47 =>
 (h41.rd p46 (o47 + 4) 1).bind fun l48 =>
 un1 l48 fun x49 =>
 f104_4 n F x44 x49 x43 h41 self39 x42) n [(.ptr (some (h9.next, 0))), v23, v38] h37)
 (fun v141 h142 => some (.panic v141, h142, none)))
 (fun v143 h144 => some (.panic v143, h144, none))))
 (fun v145 h146 => some (.panic v145, h146, none))
noncomputable def f104_6 (n : Nat) (F : Fns) (v3 : AV) (h2 : Heap) (v1 : AV) (a0 : AV) : R :=
 asB v3 fun b4 => cond b4
 (some (.ret (.tup [(.ptr none), (.bool false)]), h2, none))
 ((binop .rem v1 (.int .i64 2)).bind fun v5 =>
 (eqop P true false 3 v5 (.int .i64 0)).bind fun v6 =>
 asB v6 fun b7 => cond b7
 (some (.ret (.tup [(.ptr none), (.bool false)]), h2, none))
 (bindC (F.plain 114 [a0] h2) (fun v8 h9 =>
 asB v8 fun b10 => cond b10
 (some (.ret (.tup [(.ptr none), (.bool false)]), h9, none))
 ((binop .quo v1 (.int .i64 2)).bind fun v11 =>
 scal a0 fun v12 =>
 scal v11 fun v13 =>
 let h14 := h9.push (.cells [v12, v13, .nilSlice, (.int .i64 0), (.int .i64 0), .nilSlice] 1)
 (h14.rd h9.next 0 2).bind fun l15 =>
 un2 l15 fun x16 x17 =>
 f104_5 n F h14 h9 l15 x16 x17))
 (fun v147 h148 => some (.panic v147, h148, none))))
/-- countermand/wal.Open -/
noncomputable def f104 (n : Nat) (F : Fns) (a0 : AV) (h : Heap) : R :=
 bindC (F.plain 147 [a0] h) (fun v1 h2 =>
 (binop .lss v1 (.int .i64 3)).bind fun v3 =>
 f104_6 n F v3 h2 v1 a0)
 (fun v149 h150 => some (.panic v149, h150, none))

noncomputable def f105_1 (n : Nat) (F : Fns) (v27 : AV) (h8 : Heap) (x20 : AV) (x9 : AV) (x13 : AV) (self6 : List AV → Heap → R) (x11 : AV) (x12 : AV) (x10 : AV) : R :=
 asB v27 fun b28 => cond b28
 ((sliceA P h8 155 x20 (some (.int .i64 1)) none none).bind fun v29 =>
 bindC (F.plain 152 [x9, v29] h8) (fun v30 h31 =>
 unT2 v30 fun x32 x33 =>
 (binop .add x13 (.int .i64 1)).bind fun v34 =>
 self6 [x9, x32, x11, x12, v34] h31)
 (fun v35 h36 => some (.panic v35, h36, none)))
 (bindC (F.plain 153 [x20] h8) (fun v37 h38 =>
 unT2 v37 fun x39 x40 =>
 unA17 x39 fun x41 x42 x43 x44 x45 x46 x47 x48 x49 x50 x51 x52 x53 x54 x55 x56 x57 =>
 bindC (F.plain 134 [x10, (.agg [x41, x42, x43, x44, x45, x46, x47, x48, x49, x50, x51, x52, x53, x54, x55, x56, x57])] h38) (fun v58 h59 =>
 (binop .add x13 (.int .i64 1)).bind fun v60 =>
 self6 [x9, x10, x11, x12, v60] h59)
 (fun v61 h62 => some (.panic v61, h62, none)))
 (fun v63 h64 => some (.panic v63, h64, none)))
noncomputable def f105_2 (n : Nat) (F : Fns) (x13 : AV) (x20 : AV) (h8 : Heap) (x9 : AV) (self6 : List AV → Heap → R) (x11 : AV) (x12 : AV) (x10 : AV) : R :=
 (eqop P true false 3 x13 (.int .i64 0)).bind fun v21 =>
 asB v21 fun b22 => cond b22
 (elemP x20 0 1 fun p23 o24 =>
 (h8.rd p23 o24 1).bind fun l25 =>
 un1 l25 fun x26 =>
 (eqop P true false 5 x26 (.int .u8 5)).bind fun v27 =>
 f105_1 n F v27 h8 x20 x9 x13 self6 x11 x12 x10)
 (bindC (F.plain 153 [x20] h8) (fun v65 h66 =>
 unT2 v65 fun x67 x68 =>
 unA17 x67 fun x69 x70 x71 x72 x73 x74 x75 x76 x77 x78 x79 x80 x81 x82 x83 x84 x85 =>
 bindC (F.plain 134 [x10, (.agg [x69, x70, x71, x72, x73, x74, x75, x76, x77, x78, x79, x80, x81, x82, x83, x84, x85])] h66) (fun v86 h87 =>
 (binop .add x13 (.int .i64 1)).bind fun v88 =>
 self6 [x9, x10, x11, x12, v88] h87)
 (fun v89 h90 => some (.panic v89, h90, none)))
 (fun v91 h92 => some (.panic v91, h92, none)))
/-- countermand/node.recall -/
noncomputable def f105 (n : Nat) (F : Fns) (a0 a1 : AV) (h : Heap) : R :=
 bindC (F.plain 150 [a0] h) (fun v1 h2 =>
 bindC (F.plain 151 [a1] h2) (fun v3 h4 =>
 (lenA P 199 v3).bind fun v5 =>
 loopV (fun vs7 h8 self6 => un5 vs7 fun x9 x10 x11 x12 x13 =>
 (binop .lss x13 x12).bind fun v14 =>
 asB v14 fun b15 => cond b15
 (asI x13 fun i16 =>
 elemP x11 i16 1 fun p17 o18 =>
 (h8.rd p17 o18 1).bind fun l19 =>
 un1 l19 fun x20 =>
 f105_2 n F x13 x20 h8 x9 self6 x11 x12 x10)
 (some (.ret x10, h8, none))) n [a0, v1, v3, v5, (.int .i64 0)] h4)
 (fun v93 h94 => some (.panic v93, h94, none)))
 (fun v95 h96 => some (.panic v95, h96, none))

/-- countermand/code.fields -/
noncomputable def f106 (n : Nat) (F : Fns) (a0 : AV) (h : Heap) : R :=
 (indexA P 252 (.agg [(.int .i64 0), (.int .i64 9), (.int .i64 1), (.int .i64 3), (.int .i64 4), (.int .i64 1), (.int .i64 4), (.int .i64 2), (.int .i64 2), (.int .i64 2), (.int .i64 6), (.int .i64 4), (.int .i64 1), (.int .i64 1), (.int .i64 5), (.int .i64 1)]) a0).bind fun v1 =>
 some (.ret v1, h, none)

noncomputable def f107_1 (n : Nat) (F : Fns) (h46 : Heap) (p48 : Nat) (o49 : Nat) (h39 : Heap) (h28 : Heap) (v45 : AV) (x4 : AV) (x5 : AV) (x6 : AV) (x7 : AV) (x8 : AV) (x9 : AV) : R :=
 (h46.rd p48 (o49 + 1) 1).bind fun l50 =>
 same (h39.rd p48 (o49 + 1) 1) l50
 (same (h28.rd p48 (o49 + 1) 1) l50
 (un1 l50 fun x51 =>
 bindC (F.plain 155 [x51] h46) (fun v52 h53 =>
 (binop .add v52 (.int .i64 1)).bind fun v54 =>
 unA2 v45 fun x55 x56 =>
 scal v54 fun v57 =>
 bindC (F.plain 156 [(.agg [x55, x56, v57, x4, x5, x6, x7, x8, x9])] h53) (fun v58 h59 =>
 (eqop P true true 41 v58 (.int .i64 0)).bind fun v60 =>
 asB v60 fun b61 => cond b61
 (some (.ret (.tup [(.agg [(.int .i64 0), (.int .i64 0), (.int .i64 0), (.int .i64 0), (.int .i64 0), (.int .i64 0), (.int .i64 0), (.int .i64 0), (.int .i64 0)]), (.int .i64 4)]), h59, none))
 (some (.ret (.tup [(.agg [x55, x56, v57, x4, x5, x6, x7, x8, x9]), (.int .i64 0)]), h59, none)))
 (fun v62 h63 => some (.panic v62, h63, none)))
 (fun v64 h65 => none)))
noncomputable def f107_2 (n : Nat) (F : Fns) (v31 : AV) (h28 : Heap) (a0 : AV) (x4 : AV) (x5 : AV) (x6 : AV) (x7 : AV) (x8 : AV) (x9 : AV) : R :=
 asB v31 fun b32 => cond b32
 (some (.ret (.tup [(.agg [(.int .i64 0), (.int .i64 0), (.int .i64 0), (.int .i64 0), (.int .i64 0), (.int .i64 0), (.int .i64 0), (.int .i64 0), (.int .i64 0)]), (.int .i64 3)]), h28, none))
 (notNil a0 fun v33 =>
 asPtr v33 fun p34 o35 =>
 (h28.rd p34 (o35 + 1) 1).bind fun l36 =>
 un1 l36 fun x37 =>
 bindC (F.plain 120 [x37] h28) (fun v38 h39 =>
 notNil a0 fun v40 =>
 asPtr v40 fun p41 o42 =>
 (h39.rd p41 (o42 + 2) 1).bind fun l43 =>
 same (h28.rd p41 (o42 + 2) 1) l43
 (un1 l43 fun x44 =>
 bindC (F.plain 154 [v38, x44] h39) (fun v45 h46 =>
 notNil a0 fun v47 =>
 asPtr v47 fun p48 o49 =>
 f107_1 n F h46 p48 o49 h39 h28 v45 x4 x5 x6 x7 x8 x9)
 (fun v66 h67 => none)))
 (fun v68 h69 => none))
noncomputable def f107_3 (n : Nat) (F : Fns) (v12 : AV) (h11 : Heap) (a0 : AV) (x4 : AV) (x5 : AV) (x6 : AV) (x7 : AV) (x8 : AV) (x9 : AV) : R :=
 asB v12 fun b13 => cond b13
 (some (.ret (.tup [(.agg [(.int .i64 0), (.int .i64 0), (.int .i64 0), (.int .i64 0), (.int .i64 0), (.int .i64 0), (.int .i64 0), (.int .i64 0), (.int .i64 0)]), (.int .i64 9)]), h11, none))
 (notNil a0 fun v14 =>
 asPtr v14 fun p15 o16 =>
 (h11.rd p15 (o16 + 1) 1).bind fun l17 =>
 un1 l17 fun x18 =>
 bindC (F.plain 26 [x18] h11) (fun v19 h20 =>
 (lenA P 67 v19).bind fun v21 =>
 notNil a0 fun v22 =>
 asPtr v22 fun p23 o24 =>
 (h20.rd p23 (o24 + 1) 1).bind fun l25 =>
 same (h11.rd p23 (o24 + 1) 1) l25
 (un1 l25 fun x26 =>
 bindC (F.plain 58 [x26] h20) (fun v27 h28 =>
 (lenA P 67 v27).bind fun v29 =>
 (binop .add v21 v29).bind fun v30 =>
 (binop .geq v30 (.int .i64 48)).bind fun v31 =>
 f107_2 n F v31 h28 a0 x4 x5 x6 x7 x8 x9)
 (fun v70 h71 => some (.panic v70, h71, none))))
 (fun v72 h73 => none))
/-- (*countermand/state.State).Make -/
noncomputable def f107 (n : Nat) (F : Fns) (a0 a1 : AV) (h : Heap) : R :=
 unA9 a1 fun x1 x2 x3 x4 x5 x6 x7 x8 x9 =>
 bindC (F.plain 54 [a0] h) (fun v10 h11 =>
 (unop .not v10).bind fun v12 =>
 f107_3 n F v12 h11 a0 x4 x5 x6 x7 x8 x9)
 (fun v74 h75 => some (.panic v74, h75, none))

noncomputable def f108_1 (n : Nat) (F : Fns) (v43 : AV) (h35 : Heap) (x36 : AV) (a0 : AV) (x1 : AV) (x2 : AV) (x3 : AV) (x4 : AV) (x5 : AV) (x6 : AV) (x7 : AV) (x8 : AV) (x9 : AV) (x10 : AV) (x11 : AV) (x12 : AV) (x13 : AV) (x14 : AV) (x15 : AV) (x16 : AV) (x17 : AV) : R :=
 asPtr v43 fun p44 o45 =>
 (h35.rd p44 (o45 + 0) 1).bind fun l46 =>
 un1 l46 fun x47 =>
 bindC (F.plain 158 [x47, x36] h35) (fun v48 h49 =>
 (eqop P true true 41 v48 (.int .i64 0)).bind fun v50 =>
 asB v50 fun b51 => cond b51
 (some (.ret v48, h49, none))
 (notNil a0 fun v52 =>
 asPtr v52 fun p53 o54 =>
 (h49.rd p53 (o54 + 0) 1).bind fun l55 =>
 un1 l55 fun x56 =>
 notNil x56 fun v57 =>
 asPtr v57 fun p58 o59 =>
 (h49.rd p58 (o59 + 1) 1).bind fun l60 =>
 un1 l60 fun x61 =>
 bindC (F.plain 134 [x61, (.agg [x1, x2, x3, x4, x5, x6, x7, x8, x9, x10, x11, x12, x13, x14, x15, x16, x17])] h49) (fun v62 h63 =>
 some (.ret v62, h63, none))
 (fun v64 h65 => some (.panic v64, h65, none))))
 (fun v66 h67 => some (.panic v66, h67, none))
noncomputable def f108_2 (n : Nat) (F : Fns) (h : Heap) (p24 : Nat) (o25 : Nat) (x1 : AV) (x2 : AV) (x3 : AV) (x4 : AV) (x5 : AV) (x6 : AV) (x7 : AV) (x8 : AV) (x9 : AV) (x10 : AV) (x11 : AV) (x12 : AV) (x13 : AV) (x14 : AV) (x15 : AV) (x16 : AV) (x17 : AV) (a0 : AV) : R :=
 (h.rd p24 (o25 + 1) 1).bind fun l26 =>
 un1 l26 fun x27 =>
 bindC (F.plain 91 [x27] h) (fun v28 h29 =>
 bindC (F.plain 134 [v28, (.agg [x1, x2, x3, x4, x5, x6, x7, x8, x9, x10, x11, x12, x13, x14, x15, x16, x17])] h29) (fun v30 h31 =>
 (eqop P true true 41 v30 (.int .i64 0)).bind fun v32 =>
 asB v32 fun b33 => cond b33
 (some (.ret v30, h31, none))
 (bindC (F.plain 157 [(.agg [x1, x2, x3, x4, x5, x6, x7, x8, x9, x10, x11, x12, x13, x14, x15, x16, x17])] h31) (fun v34 h35 =>
 unT2 v34 fun x36 x37 =>
 notNil a0 fun v38 =>
 asPtr v38 fun p39 o40 =>
 (h35.rd p39 (o40 + 0) 1).bind fun l41 =>
 un1 l41 fun x42 =>
 notNil x42 fun v43 =>
 f108_1 n F v43 h35 x36 a0 x1 x2 x3 x4 x5 x6 x7 x8 x9 x10 x11 x12 x13 x14 x15 x16 x17)
 (fun v68 h69 => some (.panic v68, h69, none))))
 (fun v70 h71 => some (.panic v70, h71, none)))
 (fun v72 h73 => none)
/-- (*countermand/node.Node).write -/
noncomputable def f108 (n : Nat) (F : Fns) (a0 a1 : AV) (h : Heap) : R :=
 unA17 a1 fun x1 x2 x3 x4 x5 x6 x7 x8 x9 x10 x11 x12 x13 x14 x15 x16 x17 =>
 notNil a0 fun v18 =>
 asPtr v18 fun p19 o20 =>
 (h.rd p19 (o20 + 0) 1).bind fun l21 =>
 un1 l21 fun x22 =>
 notNil x22 fun v23 =>
 asPtr v23 fun p24 o25 =>
 f108_2 n F h p24 o25 x1 x2 x3 x4 x5 x6 x7 x8 x9 x10 x11 x12 x13 x14 x15 x16 x17 a0

/-- countermand/record.Change -/
noncomputable def f109 (n : Nat) (F : Fns) (a0 : AV) (h : Heap) : R :=
 unA9 a0 fun x1 x2 x3 x4 x5 x6 x7 x8 x9 =>
 some (.ret (.agg [(.int .i64 1), x1, x2, x3, x4, x5, x6, x7, x8, x9, (.int .i64 0), (.int .i64 0), (.int .i64 0), (.int .i64 0), (.int .i64 0), (.bool false), (.int .i64 0)]), h, none)

/-- countermand/stamp.Find -/
noncomputable def f110 (n : Nat) (F : Fns) (a0 a1 : AV) (h : Heap) : R :=
 unA2 a1 fun x1 x2 =>
 let h3 := h.push (.cells [x1, x2] 1)
 bindC (F.plain 159 [a0, (.fn 160 [] [(.ptr (some (h.next, 0)))])] h3) (fun v4 h5 =>
 some (.ret v4, h5, none))
 (fun v6 h7 => some (.panic v6, h7, none))

/-- countermand/logs.own -/
noncomputable def f111 (n : Nat) (F : Fns) (a0 : AV) (h : Heap) : R :=
 unA2 a0 fun x1 x2 =>
 bindC (F.plain 161 [x2] h) (fun v3 h4 =>
 scal v3 fun v5 =>
 some (.ret (.agg [x1, v5]), h4, none))
 (fun v6 h7 => some (.panic v6, h7, none))

/-- (*countermand/wal.Log).is -/
noncomputable def f113 (n : Nat) (F : Fns) (a0 : AV) (h : Heap) : R :=
 (eqop P true true 135 a0 (.ptr none)).bind fun v1 =>
 asB v1 fun b2 => cond b2
 (notNil a0 fun v3 =>
 asPtr v3 fun p4 o5 =>
 (h.rd p4 ((o5 + 0) + 0) 1).bind fun l6 =>
 un1 l6 fun x7 =>
 (eqop P true true 120 x7 (.ptr none)).bind fun v8 =>
 some (.ret v8, h, none))
 (some (.ret (.bool false), h, none))

/-- (*countermand/disk.Disk).Dead -/
noncomputable def f114 (n : Nat) (F : Fns) (a0 : AV) (h : Heap) : R :=
 (eqop P true true 120 a0 (.ptr none)).bind fun v1 =>
 asB v1 fun b2 => cond b2
 (notNil a0 fun v3 =>
 asPtr v3 fun p4 o5 =>
 (h.rd p4 (o5 + 1) 1).bind fun l6 =>
 un1 l6 fun x7 =>
 some (.ret x7, h, none))
 (some (.ret (.bool false), h, none))

noncomputable def f115_1 (n : Nat) (F : Fns) (v30 : AV) (v32 : AV) (x23 : AV) (x29 : AV) (x27 : AV) (h22 : Heap) (x26 : AV) (x28 : AV) (self20 : List AV → Heap → R) (x24 : AV) (x25 : AV) : R :=
 (binop .lss v30 v32).bind fun v33 =>
 asB v33 fun b34 => cond b34
 ((binop .mul x23 x29).bind fun v35 =>
 (binop .add (.int .i64 1) v35).bind fun v36 =>
 (binop .add v36 x27).bind fun v37 =>
 (binop .mul x27 (.int .i64 32)).bind fun v38 =>
 (binop .add x27 (.int .i64 1)).bind fun v39 =>
 (binop .mul v39 (.int .i64 32)).bind fun v40 =>
 (sliceA P h22 155 x26 (some v38) (some v40) none).bind fun v41 =>
 bindC (F.plain 164 [x28, v37, v41] h22) (fun v42 h43 =>
 (unop .not v42).bind fun v44 =>
 asB v44 fun b45 => cond b45
 (some (.ret (.bool false), h43, none))
 ((binop .add x27 (.int .i64 1)).bind fun v46 =>
 self20 [x23, x24, x25, x26, v46, x28, x29] h43))
 (fun v47 h48 => some (.panic v47, h48, none)))
 (some (.ret (.bool true), h22, none))
noncomputable def f115_2 (n : Nat) (F : Fns) (v3 : AV) (a3 : AV) (a2 : AV) (h4 : Heap) (a1 : AV) (x1 : AV) (x2 : AV) : R :=
 (lenA P 155 v3).bind fun v10 =>
 (lenA P 155 a3).bind fun v11 =>
 (binop .add a2 v11).bind fun v12 =>
 (binop .lss v10 v12).bind fun v13 =>
 asB v13 fun b14 => cond b14
 ((lenA P 155 a3).bind fun v15 =>
 (eqop P true false 3 v15 (.int .i64 0)).bind fun v16 =>
 some (.ret v16, h4, none))
 ((sliceA P h4 155 v3 (some a2) none none).bind fun v17 =>
 (opCopy P h4 155 v17 a3).bind fun r18 =>
 (binop .quo a2 (.int .i64 32)).bind fun v19 =>
 loopV (fun vs21 h22 self20 => un7 vs21 fun x23 x24 x25 x26 x27 x28 x29 =>
 (binop .mul x27 (.int .i64 32)).bind fun v30 =>
 (lenA P 155 x25).bind fun v31 =>
 (binop .add x24 v31).bind fun v32 =>
 f115_1 n F v30 v32 x23 x29 x27 h22 x26 x28 self20 x24 x25) n [a1, a2, a3, v3, v19, x1, x2] r18.2)
/-- (countermand/wal.plate).lay -/
noncomputable def f115 (n : Nat) (F : Fns) (a0 a1 a2 a3 : AV) (h : Heap) : R :=
 unA2 a0 fun x1 x2 =>
 bindC (F.plain 148 [(.agg [x1, x2]), a1] h) (fun v3 h4 =>
 (lenA P 155 a3).bind fun v5 =>
 (eqop P true false 3 v5 (.int .i64 0)).bind fun v6 =>
 asB v6 fun b7 => cond b7
 ((lenA P 155 a3).bind fun v8 =>
 (eqop P true false 3 v8 (.int .i64 0)).bind fun v9 =>
 some (.ret v9, h4, none))
 (f115_2 n F v3 a3 a2 h4 a1 x1 x2))
 (fun v49 h50 => some (.panic v49, h50, none))

/-- (countermand/wal.plate).half -/
noncomputable def f116 (n : Nat) (F : Fns) (a0 : AV) (h : Heap) : R :=
 unA2 a0 fun x1 x2 =>
 bindC (F.plain 165 [x1, (.int .i64 0)] h) (fun v3 h4 =>
 unT2 v3 fun x5 x6 =>
 (unop .not x6).bind fun v7 =>
 asB v7 fun b8 => cond b8
 (some (.ret (.int .i64 0), h4, none))
 (elemP x5 0 1 fun p9 o10 =>
 (h4.rd p9 o10 1).bind fun l11 =>
 un1 l11 fun x12 =>
 (binop .and x12 (.int .u8 1)).bind fun v13 =>
 (convertA P 5 3 v13).bind fun v14 =>
 some (.ret v14, h4, none)))
 (fun v15 h16 => some (.panic v15, h16, none))

noncomputable def f117_1 (n : Nat) (F : Fns) (h54 : Heap) (h : Heap) (h42 : Heap) : R :=
 (sliceA P h54 113 (.ptr (some (h.next, 3))) none none none).bind fun v59 =>
 bindC (F.plain 167 [(.ptr (some (h42.next, 0))), (.int .i64 2), v59] h54) (fun v60 h61 =>
 unT0 v60 fun _u =>
 (h61.rd h.next 7 1).bind fun l62 =>
 un1 l62 fun x63 =>
 (opBuildSlice P h61 269 1 [(0, x63)]).bind fun r64 =>
 bindC (F.plain 167 [(.ptr (some (h42.next, 0))), (.int .i64 1), r64.1] r64.2) (fun v65 h66 =>
 unT0 v65 fun _u =>
 (h66.rd h42.next 0 1).bind fun l67 =>
 un1 l67 fun x68 =>
 bindC (F.plain 172 [x68] h66) (fun v69 h70 =>
 unT2 v69 fun x71 x72 =>
 some (.ret (.tup [x71, x72]), h70, none))
 (fun v73 h74 => some (.panic v73, h74, none)))
 (fun v75 h76 => some (.panic v75, h76, none)))
 (fun v77 h78 => some (.panic v77, h78, none))
noncomputable def f117_2 (n : Nat) (F : Fns) (x116 : AV) (h94 : Heap) (x96 : AV) : R :=
 bindC (F.plain 169 [x116] h94) (fun v117 h118 =>
 unT2 v117 fun x119 x120 =>
 notNil x96 fun v121 =>
 asPtr v121 fun p122 o123 =>
 (h118.rd p122 (o123 + 0) 1).bind fun l124 =>
 un1 l124 fun x125 =>
 (opAppend P h118 155 155 x125 x119).bind fun r126 =>
 notNil x96 fun v127 =>
 asPtr v127 fun p128 o129 =>
 scal r126.1 fun v130 =>
 (r126.2.wr p128 (o129 + 0) [v130]).bind fun h131 =>
 notNil x96 fun v132 =>
 asPtr v132 fun p133 o134 =>
 (h131.rd p133 (o134 + 0) 1).bind fun l135 =>
 un1 l135 fun x136 =>
 bindC (F.plain 172 [x136] h131) (fun v137 h138 =>
 unT2 v137 fun x139 x140 =>
 some (.ret (.tup [x139, x140]), h138, none))
 (fun v141 h142 => some (.panic v141, h142, none)))
 (fun v143 h144 => some (.panic v143, h144, none))
noncomputable def f117_3 (n : Nat) (F : Fns) (x90 : AV) (h : Heap) (h42 : Heap) (h88 : Heap) : R :=
 (lenA P 139 x90).bind fun v91 =>
 loopV (fun vs93 h94 self92 => un5 vs93 fun x95 x96 x97 x98 x99 =>
 (binop .lss x99 x98).bind fun v100 =>
 asB v100 fun b101 => cond b101
 (asI x99 fun i102 =>
 elemP x97 i102 2 fun p103 o104 =>
 (h94.rd p103 o104 2).bind fun l105 =>
 un2 l105 fun x106 x107 =>
 bindC (F.plain 168 [x96, (.agg [x106, x107])] h94) (fun v108 h109 =>
 unT0 v108 fun _u =>
 (binop .add x99 (.int .i64 1)).bind fun v110 =>
 self92 [x95, x96, x97, x98, v110] h109)
 (fun v111 h112 => some (.panic v111, h112, none)))
 (asPtr x95 fun p113 o114 =>
 (h94.rd p113 (o114 + 9) 1).bind fun l115 =>
 un1 l115 fun x116 =>
 f117_2 n F x116 h94 x96)) n [(.ptr (some (h.next, 0))), (.ptr (some (h42.next, 0))), x90, v91, (.int .i64 0)] h88
noncomputable def f117_4 (n : Nat) (F : Fns) (h42 : Heap) (x150 : AV) (x151 : AV) (x152 : AV) (x153 : AV) (h54 : Heap) (h : Heap) : R :=
 bindC (F.plain 170 [(.ptr (some (h42.next, 0))), (.agg [x150, x151, x152, x153])] h54) (fun v154 h155 =>
 unT0 v154 fun _u =>
 (h155.rd h.next 14 5).bind fun l156 =>
 un5 l156 fun x157 x158 x159 x160 x161 =>
 bindC (F.plain 171 [(.agg [x157, x158, x159, x160, x161])] h155) (fun v162 h163 =>
 unT2 v162 fun x164 x165 =>
 (h163.rd h42.next 0 1).bind fun l166 =>
 un1 l166 fun x167 =>
 (opAppend P h163 155 155 x167 x164).bind fun r168 =>
 scal r168.1 fun v169 =>
 (r168.2.wr h42.next 0 [v169]).bind fun h170 =>
 (h170.rd h42.next 0 1).bind fun l171 =>
 un1 l171 fun x172 =>
 bindC (F.plain 172 [x172] h170) (fun v173 h174 =>
 unT2 v173 fun x175 x176 =>
 some (.ret (.tup [x175, x176]), h174, none))
 (fun v177 h178 => some (.panic v177, h178, none)))
 (fun v179 h180 => some (.panic v179, h180, none)))
 (fun v181 h182 => some (.panic v181, h182, none))
noncomputable def f117_5 (n : Nat) (F : Fns) (v183 : AV) (h54 : Heap) (h : Heap) (h42 : Heap) : R :=
 asB v183 fun b184 => cond b184
 ((h54.rd h.next 10 4).bind fun l185 =>
 un4 l185 fun x186 x187 x188 x189 =>
 bindC (F.plain 170 [(.ptr (some (h42.next, 0))), (.agg [x186, x187, x188, x189])] h54) (fun v190 h191 =>
 unT0 v190 fun _u =>
 (h191.rd h42.next 0 1).bind fun l192 =>
 un1 l192 fun x193 =>
 bindC (F.plain 172 [x193] h191) (fun v194 h195 =>
 unT2 v194 fun x196 x197 =>
 some (.ret (.tup [x196, x197]), h195, none))
 (fun v198 h199 => some (.panic v198, h199, none)))
 (fun v200 h201 => some (.panic v200, h201, none)))
 ((h54.rd h42.next 0 1).bind fun l202 =>
 un1 l202 fun x203 =>
 bindC (F.plain 172 [x203] h54) (fun v204 h205 =>
 unT2 v204 fun x206 x207 =>
 some (.ret (.tup [x206, x207]), h205, none))
 (fun v208 h209 => some (.panic v208, h209, none)))
noncomputable def f117_6 (n : Nat) (F : Fns) (v79 : AV) (h54 : Heap) (h : Heap) (h42 : Heap) (x56 : AV) : R :=
 asB v79 fun b80 => cond b80
 ((h54.rd h.next 7 1).bind fun l81 =>
 un1 l81 fun x82 =>
 (h54.rd h.next 8 1).bind fun l83 =>
 un1 l83 fun x84 =>
 (lenA P 139 x84).bind fun v85 =>
 (opBuildSlice P h54 269 2 [(0, x82), (1, v85)]).bind fun r86 =>
 bindC (F.plain 167 [(.ptr (some (h42.next, 0))), (.int .i64 1), r86.1] r86.2) (fun v87 h88 =>
 unT0 v87 fun _u =>
 (h88.rd h.next 8 1).bind fun l89 =>
 un1 l89 fun x90 =>
 f117_3 n F x90 h h42 h88)
 (fun v145 h146 => some (.panic v145, h146, none)))
 ((eqop P true false 3 x56 (.int .i64 3)).bind fun v147 =>
 asB v147 fun b148 => cond b148
 ((h54.rd h.next 10 4).bind fun l149 =>
 un4 l149 fun x150 x151 x152 x153 =>
 f117_4 n F h42 x150 x151 x152 x153 h54 h)
 ((eqop P true false 3 x56 (.int .i64 4)).bind fun v183 =>
 f117_5 n F v183 h54 h h42))
noncomputable def f117_7 (n : Nat) (F : Fns) (v43 : AV) (v41 : AV) (h42 : Heap) (h : Heap) : R :=
 asB v43 fun b44 => cond b44
 (some (.ret (.tup [.nilSlice, v41]), h42, none))
 (let h45 := h42.push (.cells [.nilSlice] 1)
 (h45.rd h.next 0 1).bind fun l46 =>
 un1 l46 fun x47 =>
 (h45.rd h.next 1 1).bind fun l48 =>
 un1 l48 fun x49 =>
 (h45.rd h.next 2 1).bind fun l50 =>
 un1 l50 fun x51 =>
 (opBuildSlice P h45 269 3 [(0, x47), (1, x49), (2, x51)]).bind fun r52 =>
 bindC (F.plain 167 [(.ptr (some (h42.next, 0))), (.int .i64 1), r52.1] r52.2) (fun v53 h54 =>
 unT0 v53 fun _u =>
 (h54.rd h.next 0 1).bind fun l55 =>
 un1 l55 fun x56 =>
 (eqop P true false 3 x56 (.int .i64 1)).bind fun v57 =>
 asB v57 fun b58 => cond b58
 (f117_1 n F h54 h h42)
 ((eqop P true false 3 x56 (.int .i64 2)).bind fun v79 =>
 f117_6 n F v79 h54 h h42 x56))
 (fun v210 h211 => some (.panic v210, h211, none)))
/-- countermand/msg.Put -/
noncomputable def f117 (n : Nat) (F : Fns) (a0 : AV) (h : Heap) : R :=
 unA19 a0 fun x1 x2 x3 x4 x5 x6 x7 x8 x9 x10 x11 x12 x13 x14 x15 x16 x17 x18 x19 =>
 let h20 := h.push (.cells [x1, x2, x3, x4, x5, x6, x7, x8, x9, x10, x11, x12, x13, x14, x15, x16, x17, x18, x19] 1)
 (h20.rd h.next 0 19).bind fun l21 =>
 un19 l21 fun x22 x23 x24 x25 x26 x27 x28 x29 x30 x31 x32 x33 x34 x35 x36 x37 x38 x39 x40 =>
 bindC (F.plain 166 [(.agg [x22, x23, x24, x25, x26, x27, x28, x29, x30, x31, x32, x33, x34, x35, x36, x37, x38, x39, x40])] h20) (fun v41 h42 =>
 (eqop P true true 41 v41 (.int .i64 0)).bind fun v43 =>
 f117_7 n F v43 v41 h42 h)
 (fun v212 h213 => some (.panic v212, h213, none))

/-- (*countermand/wire.Wire).Put -/
noncomputable def f118 (n : Nat) (F : Fns) (a0 a1 a2 : AV) (h : Heap) : R :=
 scal a1 fun v1 =>
 scal a2 fun v2 =>
 bindC (F.plain 90 [a0, (.agg [v1, v2, (.bool false)])] h) (fun v3 h4 =>
 some (.ret v3, h4, none))
 (fun v5 h6 => some (.panic v5, h6, none))

/-- (*countermand/state.State).Replica -/
noncomputable def f119 (n : Nat) (F : Fns) (a0 : AV) (h : Heap) : R :=
 bindC (F.plain 54 [a0] h) (fun v1 h2 =>
 (unop .not v1).bind fun v3 =>
 asB v3 fun b4 => cond b4
 (some (.ret (.int .i64 (-1)), h2, none))
 (notNil a0 fun v5 =>
 asPtr v5 fun p6 o7 =>
 (h2.rd p6 (o7 + 2) 1).bind fun l8 =>
 un1 l8 fun x9 =>
 some (.ret x9, h2, none)))
 (fun v10 h11 => some (.panic v10, h11, none))

noncomputable def f120_1 (n : Nat) (F : Fns) (v3 : AV) (h2 : Heap) (a0 : AV) : R :=
 asB v3 fun b4 => cond b4
 (some (.ret (.agg [(.int .i64 0), (.int .i64 0), (.int .i64 0), (.int .i64 0)]), h2, none))
 (notNil a0 fun v5 =>
 asPtr v5 fun p6 o7 =>
 (h2.rd p6 ((o7 + 0) + 0) 1).bind fun l8 =>
 un1 l8 fun x9 =>
 notNil a0 fun v10 =>
 asPtr v10 fun p11 o12 =>
 (h2.rd p11 (o12 + 28) 1).bind fun l13 =>
 un1 l13 fun x14 =>
 bindC (F.plain 97 [x14] h2) (fun v15 h16 =>
 same (h16.rd p6 ((o7 + 0) + 0) 1) l8
 ((opBuildSlice P h16 325 2 [(0, x9), (1, v15)]).bind fun r17 =>
 bindC (F.plain 174 [r17.1] r17.2) (fun v18 h19 =>
 bindC (F.plain 173 [v18] h19) (fun v20 h21 =>
 unA4 v20 fun x22 x23 x24 x25 =>
 some (.ret (.agg [x22, x23, x24, x25]), h21, none))
 (fun v26 h27 => some (.panic v26, h27, none)))
 (fun v28 h29 => some (.panic v28, h29, none))))
 (fun v30 h31 => some (.panic v30, h31, none)))
/-- (*countermand/logs.Logs).Known -/
noncomputable def f120 (n : Nat) (F : Fns) (a0 : AV) (h : Heap) : R :=
 bindC (F.plain 56 [a0] h) (fun v1 h2 =>
 (unop .not v1).bind fun v3 =>
 f120_1 n F v3 h2 a0)
 (fun v32 h33 => some (.panic v32, h33, none))

/-- (*countermand/tent.Tent).First -/
noncomputable def f121 (n : Nat) (F : Fns) (a0 : AV) (h : Heap) : R :=
 bindC (F.plain 175 [a0] h) (fun v1 h2 =>
 (eqop P true false 3 v1 (.int .i64 0)).bind fun v3 =>
 asB v3 fun b4 => cond b4
 (some (.ret (.tup [(.agg [(.int .i64 0), (.int .i64 0), (.int .i64 0), (.int .i64 0), (.int .i64 0), (.int .i64 0), (.int .i64 0), (.int .i64 0), (.int .i64 0)]), (.bool false)]), h2, none))
 (notNil a0 fun v5 =>
 asPtr v5 fun p6 o7 =>
 (h2.rd p6 (o7 + 0) 1).bind fun l8 =>
 un1 l8 fun x9 =>
 elemP x9 0 9 fun p10 o11 =>
 (h2.rd p10 o11 9).bind fun l12 =>
 un9 l12 fun x13 x14 x15 x16 x17 x18 x19 x20 x21 =>
 some (.ret (.tup [(.agg [x13, x14, x15, x16, x17, x18, x19, x20, x21]), (.bool true)]), h2, none)))
 (fun v22 h23 => some (.panic v22, h23, none))

/-- (*countermand/state.State).Ready -/
noncomputable def f122 (n : Nat) (F : Fns) (a0 a1 a2 : AV) (h : Heap) : R :=
 unA5 a1 fun x1 x2 x3 x4 x5 =>
 bindC (F.plain 60 [a0] h) (fun v6 h7 =>
 bindC (F.plain 176 [v6, (.agg [x1, x2, x3, x4, x5]), a2] h7) (fun v8 h9 =>
 some (.ret v8, h9, none))
 (fun v10 h11 => some (.panic v10, h11, none)))
 (fun v12 h13 => none)

/-- countermand/record.Try -/
noncomputable def f123 (n : Nat) (F : Fns) (a0 a1 : AV) (h : Heap) : R :=
 unA4 a0 fun x1 x2 x3 x4 =>
 scal a1 fun v5 =>
 some (.ret (.agg [(.int .i64 3), (.int .i64 0), (.int .i64 0), (.int .i64 0), (.int .i64 0), (.int .i64 0), (.int .i64 0), (.int .i64 0), (.int .i64 0), (.int .i64 0), (.int .i64 0), (.int .i64 0), x1, x2, x3, x4, v5]), h, none)

/-- (*countermand/wire.Wire).at -/
noncomputable def f124 (n : Nat) (F : Fns) (a0 a1 : AV) (h : Heap) : R :=
 (eqop P true false 24 a0 (.ptr none)).bind fun v1 =>
 asB v1 fun b2 => cond b2
 (some (.ret (.ptr none), h, none))
 ((binop .lss a1 (.int .i64 0)).bind fun v3 =>
 asB v3 fun b4 => cond b4
 (some (.ret (.ptr none), h, none))
 (notNil a0 fun v5 =>
 asPtr v5 fun p6 o7 =>
 (h.rd p6 (o7 + 0) 1).bind fun l8 =>
 un1 l8 fun x9 =>
 (lenA P 76 x9).bind fun v10 =>
 (binop .geq a1 v10).bind fun v11 =>
 asB v11 fun b12 => cond b12
 (some (.ret (.ptr none), h, none))
 (notNil a0 fun v13 =>
 asPtr v13 fun p14 o15 =>
 (h.rd p14 (o15 + 0) 1).bind fun l16 =>
 un1 l16 fun x17 =>
 asI a1 fun i18 =>
 elemP x17 i18 3 fun p19 o20 =>
 some (.ret (.ptr (some (p19, o20))), h, none))))

/-- slices.Delete[[]countermand/wire.letter,countermand/wire.letter] -/
noncomputable def f125 (n : Nat) (F : Fns) (a0 a1 a2 : AV) (h : Heap) : R :=
 (lenA P 76 a0).bind fun v1 =>
 (sliceA P h 76 a0 (some a1) (some a2) (some v1)).bind fun v2 =>
 (eqop P false false 3 a1 a2).bind fun v3 =>
 asB v3 fun b4 => cond b4
 (some (.ret a0, h, none))
 ((lenA P 76 a0).bind fun v5 =>
 (sliceA P h 76 a0 none (some a1) none).bind fun v6 =>
 (sliceA P h 76 a0 (some a2) none none).bind fun v7 =>
 (opAppend P h 76 76 v6 v7).bind fun r8 =>
 (lenA P 76 r8.1).bind fun v9 =>
 (sliceA P r8.2 76 r8.1 (some v9) (some v5) none).bind fun v10 =>
 (opClear P r8.2 76 v10).bind fun h11 =>
 some (.ret r8.1, h11, none))

noncomputable def f126_1 (n : Nat) (F : Fns) (v21 : AV) (h9 : Heap) (x5 : AV) (v1 : AV) (v8 : AV) : R :=
 asB v21 fun b22 => cond b22
 (some (.ret (.tup [.nilSlice, (.int .i64 0), (.bool false)]), h9, none))
 ((convertA P 277 3 x5).bind fun v23 =>
 bindC (F.plain 179 [v1, v23] h9) (fun v24 h25 =>
 unT2 v24 fun x26 x27 =>
 bindC (F.plain 177 [v1, (.int .i64 4)] h25) (fun v28 h29 =>
 unT2 v28 fun x30 x31 =>
 (convertA P 277 280 x30).bind fun v32 =>
 (opBuildSlice P h29 199 1 [(0, x26)]).bind fun r33 =>
 bindC (F.plain 180 [r33.1] r33.2) (fun v34 h35 =>
 (eqop P false true 280 v32 v34).bind fun v36 =>
 asB v36 fun b37 => cond b37
 (some (.ret (.tup [.nilSlice, (.int .i64 0), (.bool false)]), h35, none))
 (some (.ret (.tup [x26, v8, (.bool true)]), h35, none)))
 (fun v38 h39 => some (.panic v38, h39, none)))
 (fun v40 h41 => some (.panic v40, h41, none)))
 (fun v42 h43 => some (.panic v42, h43, none)))
noncomputable def f126_2 (n : Nat) (F : Fns) (v1 : AV) (h2 : Heap) (a0 : AV) : R :=
 bindC (F.plain 177 [v1, (.int .i64 2)] h2) (fun v3 h4 =>
 unT2 v3 fun x5 x6 =>
 (convertA P 277 3 x5).bind fun v7 =>
 bindC (F.plain 178 [v7] h4) (fun v8 h9 =>
 (eqop P true false 3 v8 (.int .i64 0)).bind fun v10 =>
 asB v10 fun b11 => cond b11
 (some (.ret (.tup [.nilSlice, (.int .i64 0), (.bool false)]), h9, none))
 ((lenA P 155 a0).bind fun v12 =>
 (binop .gtr v8 v12).bind fun v13 =>
 asB v13 fun b14 => cond b14
 (some (.ret (.tup [.nilSlice, (.int .i64 0), (.bool false)]), h9, none))
 ((binop .sub v8 (.int .i64 1)).bind fun v15 =>
 asI v15 fun i16 =>
 elemP a0 i16 1 fun p17 o18 =>
 (h9.rd p17 o18 1).bind fun l19 =>
 un1 l19 fun x20 =>
 (eqop P true true 5 x20 (.int .u8 90)).bind fun v21 =>
 f126_1 n F v21 h9 x5 v1 v8)))
 (fun v44 h45 => some (.panic v44, h45, none)))
 (fun v46 h47 => some (.panic v46, h47, none))
/-- countermand/frame.Get -/
noncomputable def f126 (n : Nat) (F : Fns) (a0 : AV) (h : Heap) : R :=
 bindC (F.plain 127 [a0] h) (fun v1 h2 =>
 f126_2 n F v1 h2 a0)
 (fun v48 h49 => some (.panic v48, h49, none))

/-- countermand/octet.New -/
noncomputable def f127 (n : Nat) (F : Fns) (a0 : AV) (h : Heap) : R :=
 (opAppend P (h.push (.cells [] 1)) 155 155 (.slice h.next 0 0 0 (.ex 0)) a0).bind fun r1 =>
 scal r1.1 fun v2 =>
 let h3 := r1.2.push (.cells [(.bool true), (.bool false), v2] 1)
 some (.ret (.ptr (some (r1.2.next, 0))), h3, none)

/-- (countermand/msg.reader).take -/
noncomputable def f128 (n : Nat) (F : Fns) (a0 a1 : AV) (h : Heap) : R :=
 unA1 a0 fun x1 =>
 bindC (F.plain 177 [x1, a1] h) (fun v2 h3 =>
 unT2 v2 fun x4 x5 =>
 (convertA P 277 3 x4).bind fun v6 =>
 some (.ret v6, h3, none))
 (fun v7 h8 => some (.panic v7, h8, none))

noncomputable def f129_1 (n : Nat) (F : Fns) (a1 : AV) (x1 : AV) (h : Heap) : R :=
 loopV (fun vs10 h11 self9 => un3 vs10 fun x12 x13 x14 =>
 (binop .lss x13 (.int .i64 4)).bind fun v15 =>
 asB v15 fun b16 => cond b16
 (bindC (F.plain 128 [(.agg [x14]), (.int .i64 2)] h11) (fun v17 h18 =>
 notNil x12 fun v19 =>
 asPtr v19 fun p20 o21 =>
 asI x13 fun i22 =>
 inArr i22 4 fun j23 =>
 scal v17 fun v24 =>
 (h18.wr p20 ((o21 + 3) + j23 * 1) [v24]).bind fun h25 =>
 (binop .add x13 (.int .i64 1)).bind fun v26 =>
 self9 [x12, v26, x14] h25)
 (fun v27 h28 => none))
 (bindC (F.plain 128 [(.agg [x14]), (.int .i64 1)] h11) (fun v29 h30 =>
 notNil x12 fun v31 =>
 asPtr v31 fun p32 o33 =>
 scal v29 fun v34 =>
 (h30.wr p32 (o33 + 7) [v34]).bind fun h35 =>
 some (.ret (.tup []), h35, none))
 (fun v36 h37 => some (.panic v36, h37, none)))) n [a1, (.int .i64 0), x1] h
noncomputable def f129_2 (n : Nat) (F : Fns) (v57 : AV) (x53 : AV) (h52 : Heap) (x56 : AV) (x55 : AV) (self50 : List AV → Heap → R) (x54 : AV) : R :=
 asB v57 fun b58 => cond b58
 (notNil x53 fun v59 =>
 asPtr v59 fun p60 o61 =>
 (h52.rd p60 (o61 + 8) 1).bind fun l62 =>
 un1 l62 fun x63 =>
 bindC (F.plain 181 [(.agg [x56])] h52) (fun v64 h65 =>
 same (h65.rd p60 (o61 + 8) 1) l62
 (unA2 v64 fun x66 x67 =>
 (appendA P h65 48 x63 1 [x66, x67]).bind fun r68 =>
 notNil x53 fun v69 =>
 asPtr v69 fun p70 o71 =>
 scal r68.1 fun v72 =>
 (r68.2.wr p70 (o71 + 8) [v72]).bind fun h73 =>
 (binop .add x55 (.int .i64 1)).bind fun v74 =>
 self50 [x53, x54, v74, x56] h73))
 (fun v75 h76 => some (.panic v75, h76, none)))
 (bindC (F.plain 182 [x56] h52) (fun v77 h78 =>
 bindC (F.plain 179 [x56, v77] h78) (fun v79 h80 =>
 unT2 v79 fun x81 x82 =>
 bindC (F.plain 183 [x81] h80) (fun v83 h84 =>
 unT2 v83 fun x85 x86 =>
 notNil x53 fun v87 =>
 asPtr v87 fun p88 o89 =>
 scal x85 fun v90 =>
 (h84.wr p88 (o89 + 9) [v90]).bind fun h91 =>
 some (.ret (.tup []), h91, none))
 (fun v92 h93 => some (.panic v92, h93, none)))
 (fun v94 h95 => some (.panic v94, h95, none)))
 (fun v96 h97 => some (.panic v96, h97, none)))
noncomputable def f129_3 (n : Nat) (F : Fns) (x1 : AV) (h : Heap) (a1 : AV) : R :=
 bindC (F.plain 184 [(.agg [x1])] h) (fun v104 h105 =>
 notNil a1 fun v106 =>
 asPtr v106 fun p107 o108 =>
 unA4 v104 fun x109 x110 x111 x112 =>
 (h105.wr p107 (o108 + 10) [x109, x110, x111, x112]).bind fun h113 =>
 bindC (F.plain 179 [x1, (.int .i64 13)] h113) (fun v114 h115 =>
 unT2 v114 fun x116 x117 =>
 bindC (F.plain 185 [x116] h115) (fun v118 h119 =>
 unT2 v118 fun x120 x121 =>
 notNil a1 fun v122 =>
 asPtr v122 fun p123 o124 =>
 unA5 x120 fun x125 x126 x127 x128 x129 =>
 (h119.wr p123 (o124 + 14) [x125, x126, x127, x128, x129]).bind fun h130 =>
 some (.ret (.tup []), h130, none))
 (fun v131 h132 => some (.panic v131, h132, none)))
 (fun v133 h134 => some (.panic v133, h134, none)))
 (fun v135 h136 => some (.panic v135, h136, none))
noncomputable def f129_4 (n : Nat) (F : Fns) (v38 : AV) (x1 : AV) (h : Heap) (a1 : AV) (x6 : AV) : R :=
 asB v38 fun b39 => cond b39
 (bindC (F.plain 128 [(.agg [x1]), (.int .i64 1)] h) (fun v40 h41 =>
 notNil a1 fun v42 =>
 asPtr v42 fun p43 o44 =>
 scal v40 fun v45 =>
 (h41.wr p43 (o44 + 7) [v45]).bind fun h46 =>
 bindC (F.plain 128 [(.agg [x1]), (.int .i64 1)] h46) (fun v47 h48 =>
 (fold2 min2 v47 [(.int .i64 16)]).bind fun v49 =>
 loopV (fun vs51 h52 self50 => un4 vs51 fun x53 x54 x55 x56 =>
 (binop .lss x55 x54).bind fun v57 =>
 f129_2 n F v57 x53 h52 x56 x55 self50 x54) n [a1, v49, (.int .i64 0), x1] h48)
 (fun v98 h99 => some (.panic v98, h99, none)))
 (fun v100 h101 => some (.panic v100, h101, none)))
 ((eqop P true false 3 x6 (.int .i64 3)).bind fun v102 =>
 asB v102 fun b103 => cond b103
 (f129_3 n F x1 h a1)
 ((eqop P true false 3 x6 (.int .i64 4)).bind fun v137 =>
 asB v137 fun b138 => cond b138
 (bindC (F.plain 184 [(.agg [x1])] h) (fun v139 h140 =>
 notNil a1 fun v141 =>
 asPtr v141 fun p142 o143 =>
 unA4 v139 fun x144 x145 x146 x147 =>
 (h140.wr p142 (o143 + 10) [x144, x145, x146, x147]).bind fun h148 =>
 some (.ret (.tup []), h148, none))
 (fun v149 h150 => some (.panic v149, h150, none)))
 (some (.ret (.tup []), h, none))))
/-- (countermand/msg.reader).body -/
noncomputable def f129 (n : Nat) (F : Fns) (a0 a1 : AV) (h : Heap) : R :=
 unA1 a0 fun x1 =>
 notNil a1 fun v2 =>
 asPtr v2 fun p3 o4 =>
 (h.rd p3 (o4 + 0) 1).bind fun l5 =>
 un1 l5 fun x6 =>
 (eqop P true false 3 x6 (.int .i64 1)).bind fun v7 =>
 asB v7 fun b8 => cond b8
 (f129_1 n F a1 x1 h)
 ((eqop P true false 3 x6 (.int .i64 2)).bind fun v38 =>
 f129_4 n F v38 x1 h a1 x6)

noncomputable def f130_1 (n : Nat) (F : Fns) (v38 : AV) (h13 : Heap) (a0 : AV) (x1 : AV) (x2 : AV) (x3 : AV) (x4 : AV) (x5 : AV) (x6 : AV) (x7 : AV) (x8 : AV) (x9 : AV) : R :=
 asB v38 fun b39 => cond b39
 (let h40 := h13.push (.map [])
 notNil a0 fun v41 =>
 asPtr v41 fun p42 o43 =>
 (h40.wr p42 (o43 + 0) [(.map (some h13.next))]).bind fun h44 =>
 notNil a0 fun v45 =>
 asPtr v45 fun p46 o47 =>
 (h44.rd p46 (o47 + 0) 1).bind fun l48 =>
 un1 l48 fun x49 =>
 asMap x49 fun m50 =>
 (opMapUpdate P h44 94 m50 (.agg [x1, x2, x3, x4]) (.bool true)).bind fun h51 =>
 notNil a0 fun v52 =>
 asPtr v52 fun p53 o54 =>
 (h51.rd p53 (o54 + 1) 1).bind fun l55 =>
 un1 l55 fun x56 =>
 (appendA P h51 98 x56 1 [x1, x2, x3, x4, x5, x6, x7, x8, x9]).bind fun r57 =>
 notNil a0 fun v58 =>
 asPtr v58 fun p59 o60 =>
 scal r57.1 fun v61 =>
 (r57.2.wr p59 (o60 + 1) [v61]).bind fun h62 =>
 some (.ret (.bool true), h62, none))
 (notNil a0 fun v63 =>
 asPtr v63 fun p64 o65 =>
 (h13.rd p64 (o65 + 0) 1).bind fun l66 =>
 un1 l66 fun x67 =>
 asMap x67 fun m68 =>
 (opMapUpdate P h13 94 m68 (.agg [x1, x2, x3, x4]) (.bool true)).bind fun h69 =>
 notNil a0 fun v70 =>
 asPtr v70 fun p71 o72 =>
 (h69.rd p71 (o72 + 1) 1).bind fun l73 =>
 un1 l73 fun x74 =>
 (appendA P h69 98 x74 1 [x1, x2, x3, x4, x5, x6, x7, x8, x9]).bind fun r75 =>
 notNil a0 fun v76 =>
 asPtr v76 fun p77 o78 =>
 scal r75.1 fun v79 =>
 (r75.2.wr p77 (o78 + 1) [v79]).bind fun h80 =>
 some (.ret (.bool true), h80, none))
noncomputable def f130_2 (n : Nat) (F : Fns) (v12 : AV) (h13 : Heap) (a0 : AV) (x1 : AV) (x2 : AV) (x3 : AV) (x4 : AV) (x5 : AV) (x6 : AV) (x7 : AV) (x8 : AV) (x9 : AV) : R :=
 asB v12 fun b14 => cond b14
 (some (.ret (.bool true), h13, none))
 (notNil a0 fun v15 =>
 asPtr v15 fun p16 o17 =>
 (h13.rd p16 (o17 + 2) 1).bind fun l18 =>
 un1 l18 fun x19 =>
 (binop .gtr x19 (.int .i64 0)).bind fun v20 =>
 asB v20 fun b21 => cond b21
 (notNil a0 fun v22 =>
 asPtr v22 fun p23 o24 =>
 (h13.rd p23 (o24 + 2) 1).bind fun l25 =>
 un1 l25 fun x26 =>
 (binop .sub x26 (.int .i64 1)).bind fun v27 =>
 notNil a0 fun v28 =>
 asPtr v28 fun p29 o30 =>
 scal v27 fun v31 =>
 (h13.wr p29 (o30 + 2) [v31]).bind fun h32 =>
 some (.ret (.bool false), h32, none))
 (notNil a0 fun v33 =>
 asPtr v33 fun p34 o35 =>
 (h13.rd p34 (o35 + 0) 1).bind fun l36 =>
 un1 l36 fun x37 =>
 (eqop P true false 79 x37 (.map none)).bind fun v38 =>
 f130_1 n F v38 h13 a0 x1 x2 x3 x4 x5 x6 x7 x8 x9))
/-- (*countermand/gate.Gate).Do -/
noncomputable def f130 (n : Nat) (F : Fns) (a0 a1 : AV) (h : Heap) : R :=
 unA9 a1 fun x1 x2 x3 x4 x5 x6 x7 x8 x9 =>
 (eqop P true false 25 a0 (.ptr none)).bind fun v10 =>
 asB v10 fun b11 => cond b11
 (some (.ret (.bool false), h, none))
 (bindC (F.plain 186 [a0, (.agg [x1, x2, x3, x4])] h) (fun v12 h13 =>
 f130_2 n F v12 h13 a0 x1 x2 x3 x4 x5 x6 x7 x8 x9)
 (fun v81 h82 => some (.panic v81, h82, none)))
end Go.Proofs.YtahbihcbidkbaaaGreat.Ev

/-
  Printed by mk.py: the equations with the evaluator.
-/
set_option maxRecDepth 100000
set_option maxHeartbeats 4000000
namespace Go.Proofs.YtahbihcbidkbaaaGreat.Ev
open Go
theorem f86_eq (n : Nat) (F : Fns) (a0 : AV) (h : Heap) : callStep cx n F 86 [a0] h none = f86 n F a0 h := by kernel_rfl
theorem f87_eq (n : Nat) (F : Fns) (a0 : AV) (h : Heap) : callStep cx n F 87 [a0] h none = f87 n F a0 h := by kernel_rfl
theorem f88_eq (n : Nat) (F : Fns) (a0 a1 : AV) (h : Heap) : callStep cx n F 88 [a0, a1] h none = f88 n F a0 a1 h := by kernel_rfl
theorem f89_eq (n : Nat) (F : Fns) (a0 : AV) (h : Heap) : callStep cx n F 89 [a0] h none = f89 n F a0 h := by kernel_rfl
theorem f90_eq (n : Nat) (F : Fns) (a0 a1 : AV) (h : Heap) : callStep cx n F 90 [a0, a1] h none = f90 n F a0 a1 h := by kernel_rfl
theorem f91_eq (n : Nat) (F : Fns) (a0 : AV) (h : Heap) : callStep cx n F 91 [a0] h none = f91 n F a0 h := by kernel_rfl
theorem f92_eq (n : Nat) (F : Fns) (a0 : AV) (h : Heap) : callStep cx n F 92 [a0] h none = f92 n F a0 h := by kernel_rfl
theorem f93_eq (n : Nat) (F : Fns) (a0 : AV) (h : Heap) : callStep cx n F 93 [a0] h none = f93 n F a0 h := by kernel_rfl
theorem f94_eq (n : Nat) (F : Fns) (a0 : AV) (h : Heap) : callStep cx n F 94 [a0] h none = f94 n F a0 h := by kernel_rfl
theorem f95_eq (n : Nat) (F : Fns) (a0 a1 : AV) (h : Heap) : callStep cx n F 95 [a0, a1] h none = f95 n F a0 a1 h := by kernel_rfl
theorem f96_eq (n : Nat) (F : Fns) (a0 : AV) (h : Heap) : callStep cx n F 96 [a0] h none = f96 n F a0 h := by kernel_rfl
theorem f97_eq (n : Nat) (F : Fns) (a0 : AV) (h : Heap) : callStep cx n F 97 [a0] h none = f97 n F a0 h := by kernel_rfl
theorem f98_eq (n : Nat) (F : Fns) (a0 a1 : AV) (h : Heap) : callStep cx n F 98 [a0, a1] h none = f98 n F a0 a1 h := by kernel_rfl
theorem f99_eq (n : Nat) (F : Fns) (a0 : AV) (h : Heap) : callStep cx n F 99 [a0] h none = f99 n F a0 h := by kernel_rfl
theorem f100_eq (n : Nat) (F : Fns) (a0 : AV) (h : Heap) : callStep cx n F 100 [a0] h none = f100 n F a0 h := by kernel_rfl
theorem f101_eq (n : Nat) (F : Fns) (a0 a1 : AV) (h : Heap) : callStep cx n F 101 [a0, a1] h none = f101 n F a0 a1 h := by kernel_rfl
theorem f102_eq (n : Nat) (F : Fns) (a0 a1 a2 : AV) (h : Heap) : callStep cx n F 102 [a0, a1, a2] h none = f102 n F a0 a1 a2 h := by kernel_rfl
theorem f103_eq (n : Nat) (F : Fns) (a0 : AV) (h : Heap) : callStep cx n F 103 [a0] h none = f103 n F a0 h := by kernel_rfl
theorem f104_eq (n : Nat) (F : Fns) (a0 : AV) (h : Heap) : callStep cx n F 104 [a0] h none = f104 n F a0 h := by kernel_rfl
theorem f105_eq (n : Nat) (F : Fns) (a0 a1 : AV) (h : Heap) : callStep cx n F 105 [a0, a1] h none = f105 n F a0 a1 h := by kernel_rfl
theorem f106_eq (n : Nat) (F : Fns) (a0 : AV) (h : Heap) : callStep cx n F 106 [a0] h none = f106 n F a0 h := by kernel_rfl
theorem f107_eq (n : Nat) (F : Fns) (a0 a1 : AV) (h : Heap) : callStep cx n F 107 [a0, a1] h none = f107 n F a0 a1 h := by kernel_rfl
theorem f108_eq (n : Nat) (F : Fns) (a0 a1 : AV) (h : Heap) : callStep cx n F 108 [a0, a1] h none = f108 n F a0 a1 h := by kernel_rfl
theorem f109_eq (n : Nat) (F : Fns) (a0 : AV) (h : Heap) : callStep cx n F 109 [a0] h none = f109 n F a0 h := by kernel_rfl
theorem f110_eq (n : Nat) (F : Fns) (a0 a1 : AV) (h : Heap) : callStep cx n F 110 [a0, a1] h none = f110 n F a0 a1 h := by kernel_rfl
theorem f111_eq (n : Nat) (F : Fns) (a0 : AV) (h : Heap) : callStep cx n F 111 [a0] h none = f111 n F a0 h := by kernel_rfl
theorem f113_eq (n : Nat) (F : Fns) (a0 : AV) (h : Heap) : callStep cx n F 113 [a0] h none = f113 n F a0 h := by kernel_rfl
theorem f114_eq (n : Nat) (F : Fns) (a0 : AV) (h : Heap) : callStep cx n F 114 [a0] h none = f114 n F a0 h := by kernel_rfl
theorem f115_eq (n : Nat) (F : Fns) (a0 a1 a2 a3 : AV) (h : Heap) : callStep cx n F 115 [a0, a1, a2, a3] h none = f115 n F a0 a1 a2 a3 h := by kernel_rfl
theorem f116_eq (n : Nat) (F : Fns) (a0 : AV) (h : Heap) : callStep cx n F 116 [a0] h none = f116 n F a0 h := by kernel_rfl
theorem f117_eq (n : Nat) (F : Fns) (a0 : AV) (h : Heap) : callStep cx n F 117 [a0] h none = f117 n F a0 h := by kernel_rfl
theorem f118_eq (n : Nat) (F : Fns) (a0 a1 a2 : AV) (h : Heap) : callStep cx n F 118 [a0, a1, a2] h none = f118 n F a0 a1 a2 h := by kernel_rfl
theorem f119_eq (n : Nat) (F : Fns) (a0 : AV) (h : Heap) : callStep cx n F 119 [a0] h none = f119 n F a0 h := by kernel_rfl
theorem f120_eq (n : Nat) (F : Fns) (a0 : AV) (h : Heap) : callStep cx n F 120 [a0] h none = f120 n F a0 h := by kernel_rfl
theorem f121_eq (n : Nat) (F : Fns) (a0 : AV) (h : Heap) : callStep cx n F 121 [a0] h none = f121 n F a0 h := by kernel_rfl
theorem f122_eq (n : Nat) (F : Fns) (a0 a1 a2 : AV) (h : Heap) : callStep cx n F 122 [a0, a1, a2] h none = f122 n F a0 a1 a2 h := by kernel_rfl
theorem f123_eq (n : Nat) (F : Fns) (a0 a1 : AV) (h : Heap) : callStep cx n F 123 [a0, a1] h none = f123 n F a0 a1 h := by kernel_rfl
theorem f124_eq (n : Nat) (F : Fns) (a0 a1 : AV) (h : Heap) : callStep cx n F 124 [a0, a1] h none = f124 n F a0 a1 h := by kernel_rfl
theorem f125_eq (n : Nat) (F : Fns) (a0 a1 a2 : AV) (h : Heap) : callStep cx n F 125 [a0, a1, a2] h none = f125 n F a0 a1 a2 h := by kernel_rfl
theorem f126_eq (n : Nat) (F : Fns) (a0 : AV) (h : Heap) : callStep cx n F 126 [a0] h none = f126 n F a0 h := by kernel_rfl
theorem f127_eq (n : Nat) (F : Fns) (a0 : AV) (h : Heap) : callStep cx n F 127 [a0] h none = f127 n F a0 h := by kernel_rfl
theorem f128_eq (n : Nat) (F : Fns) (a0 a1 : AV) (h : Heap) : callStep cx n F 128 [a0, a1] h none = f128 n F a0 a1 h := by kernel_rfl
theorem f129_eq (n : Nat) (F : Fns) (a0 a1 : AV) (h : Heap) : callStep cx n F 129 [a0, a1] h none = f129 n F a0 a1 h := by kernel_rfl
theorem f130_eq (n : Nat) (F : Fns) (a0 a1 : AV) (h : Heap) : callStep cx n F 130 [a0, a1] h none = f130 n F a0 a1 h := by kernel_rfl
end Go.Proofs.YtahbihcbidkbaaaGreat.Ev
