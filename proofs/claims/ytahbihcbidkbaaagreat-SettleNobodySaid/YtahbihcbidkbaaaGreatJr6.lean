/-
  Printed by mk.py: the functions as the evaluator has them.
-/
import Derived.Test.YtahbihcbidkbaaaGreatJt
import Derived.KernelRfl
set_option linter.unusedVariables false
set_option maxRecDepth 100000
namespace Go.Proofs.YtahbihcbidkbaaaGreat.Ev
open Go
noncomputable def f242_1 (n : Nat) (F : Fns) (v43 : AV) (x23 : AV) (x30 : AV) (x31 : AV) (x32 : AV) (x33 : AV) (x34 : AV) (x35 : AV) (x36 : AV) (x37 : AV) (x38 : AV) (x39 : AV) (x40 : AV) (x41 : AV) (a2 : AV) (h44 : Heap) (x20 : AV) (x21 : AV) (x22 : AV) (x11 : AV) (x13 : AV) (x14 : AV) (x15 : AV) (x16 : AV) (x17 : AV) : R :=
 asB v43 fun b45 => cond b45
 ((lenA P 173 x23).bind fun v46 =>
 (binop .sub v46 (.int .i64 1)).bind fun v47 =>
 bindC (F.plain 270 [(.agg [x30, x31, x32, x33, x34, x35, x36, x37, x38, x39, x40, x41]), a2] h44) (fun v48 h49 =>
 asI v47 fun i50 =>
 elemP x23 i50 12 fun p51 o52 =>
 unA12 v48 fun x53 x54 x55 x56 x57 x58 x59 x60 x61 x62 x63 x64 =>
 (h49.wr p51 o52 [x53, x54, x55, x56, x57, x58, x59, x60, x61, x62, x63, x64]).bind fun h65 =>
 some (.ret (.tup [(.agg [x20, x21, x22, x23]), (.bool true)]), h65, none))
 (fun v66 h67 => some (.panic v66, h67, none)))
 ((binop .add x22 (.int .i64 1)).bind fun v68 =>
 scal v68 fun v69 =>
 scal x11 fun v70 =>
 scal a2 fun v71 =>
 (appendA P h44 183 x23 1 [v70, x13, x14, x15, x16, x17, (.int .i64 1), v71, (.bool false), (.bool false), (.int .i64 0), (.int .i64 0)]).bind fun r72 =>
 scal r72.1 fun v73 =>
 some (.ret (.tup [(.agg [x20, x21, v69, v73]), (.bool true)]), r72.2, none))
noncomputable def f242_2 (n : Nat) (F : Fns) (x28 : AV) (x29 : AV) (h27 : Heap) (x23 : AV) (a2 : AV) (x20 : AV) (x21 : AV) (x22 : AV) (x11 : AV) (x13 : AV) (x14 : AV) (x15 : AV) (x16 : AV) (x17 : AV) : R :=
 unA12 x28 fun x30 x31 x32 x33 x34 x35 x36 x37 x38 x39 x40 x41 =>
 asB x29 fun b42 => cond b42
 (bindC (F.plain 144 [(.agg [x30, x31, x32, x33, x34, x35, x36, x37, x38, x39, x40, x41])] h27) (fun v43 h44 =>
 f242_1 n F v43 x23 x30 x31 x32 x33 x34 x35 x36 x37 x38 x39 x40 x41 a2 h44 x20 x21 x22 x11 x13 x14 x15 x16 x17)
 (fun v74 h75 => some (.panic v74, h75, none)))
 ((binop .add x22 (.int .i64 1)).bind fun v76 =>
 scal v76 fun v77 =>
 scal x11 fun v78 =>
 scal a2 fun v79 =>
 (appendA P h27 183 x23 1 [v78, x13, x14, x15, x16, x17, (.int .i64 1), v79, (.bool false), (.bool false), (.int .i64 0), (.int .i64 0)]).bind fun r80 =>
 scal r80.1 fun v81 =>
 some (.ret (.tup [(.agg [x20, x21, v77, v81]), (.bool true)]), r80.2, none))
/-- countermand/chain.Try -/
noncomputable def f242 (n : Nat) (F : Fns) (a0 a1 a2 : AV) (h : Heap) : R :=
 unA4 a0 fun x1 x2 x3 x4 =>
 bindC (F.plain 228 [(.agg [x1, x2, x3, x4]), a1] h) (fun v5 h6 =>
 unT2 v5 fun x7 x8 =>
 unA9 x7 fun x9 x10 x11 x12 x13 x14 x15 x16 x17 =>
 bindC (F.plain 203 [(.agg [x1, x2, x3, x4])] h6) (fun v18 h19 =>
 unA4 v18 fun x20 x21 x22 x23 =>
 (unop .not x8).bind fun v24 =>
 asB v24 fun b25 => cond b25
 (some (.ret (.tup [(.agg [x20, x21, x22, x23]), (.bool false)]), h19, none))
 (bindC (F.plain 145 [(.agg [x20, x21, x22, x23])] h19) (fun v26 h27 =>
 unT2 v26 fun x28 x29 =>
 f242_2 n F x28 x29 h27 x23 a2 x20 x21 x22 x11 x13 x14 x15 x16 x17)
 (fun v82 h83 => some (.panic v82, h83, none))))
 (fun v84 h85 => some (.panic v84, h85, none)))
 (fun v86 h87 => some (.panic v86, h87, none))

noncomputable def f243_1 (n : Nat) (F : Fns) (x29 : AV) (x30 : AV) (x31 : AV) (x32 : AV) (x33 : AV) (x34 : AV) (x35 : AV) (x36 : AV) (x37 : AV) (x38 : AV) (x39 : AV) (x40 : AV) (h17 : Heap) (x15 : AV) (v16 : AV) (x12 : AV) (x13 : AV) (x14 : AV) : R :=
 bindC (F.plain 103 [(.agg [x29, x30, x31, x32, x33, x34, x35, x36, x37, x38, x39, x40])] h17) (fun v54 h55 =>
 asB v54 fun b56 => cond b56
 ((binop .geq x39 (.int .i64 1)).bind fun v57 =>
 asB v57 fun b58 => cond b58
 ((lenA P 173 x15).bind fun v59 =>
 (binop .sub v59 (.int .i64 1)).bind fun v60 =>
 (eqop P false false 3 v16 v60).bind fun v61 =>
 asB v61 fun b62 => cond b62
 ((sliceA P h55 173 x15 none (some v16) none).bind fun v63 =>
 scal v63 fun v64 =>
 some (.ret (.tup [(.agg [x12, x13, x14, v64]), (.bool true)]), h55, none))
 (some (.ret (.tup [(.agg [x12, x13, x14, x15]), (.bool false)]), h55, none)))
 (some (.ret (.tup [(.agg [x12, x13, x14, x15]), (.bool false)]), h55, none)))
 (some (.ret (.tup [(.agg [x12, x13, x14, x15]), (.bool false)]), h55, none)))
 (fun v65 h66 => some (.panic v65, h66, none))
noncomputable def f243_2 (n : Nat) (F : Fns) (x29 : AV) (x30 : AV) (x31 : AV) (x32 : AV) (x33 : AV) (x34 : AV) (x35 : AV) (x36 : AV) (x37 : AV) (x38 : AV) (x39 : AV) (x40 : AV) (h17 : Heap) (x15 : AV) (v16 : AV) (x12 : AV) (x13 : AV) (x14 : AV) : R :=
 bindC (F.plain 103 [(.agg [x29, x30, x31, x32, x33, x34, x35, x36, x37, x38, x39, x40])] h17) (fun v70 h71 =>
 asB v70 fun b72 => cond b72
 ((binop .geq x39 (.int .i64 1)).bind fun v73 =>
 asB v73 fun b74 => cond b74
 ((lenA P 173 x15).bind fun v75 =>
 (binop .sub v75 (.int .i64 1)).bind fun v76 =>
 (eqop P false false 3 v16 v76).bind fun v77 =>
 asB v77 fun b78 => cond b78
 ((sliceA P h71 173 x15 none (some v16) none).bind fun v79 =>
 scal v79 fun v80 =>
 some (.ret (.tup [(.agg [x12, x13, x14, v80]), (.bool true)]), h71, none))
 (some (.ret (.tup [(.agg [x12, x13, x14, x15]), (.bool false)]), h71, none)))
 (some (.ret (.tup [(.agg [x12, x13, x14, x15]), (.bool false)]), h71, none)))
 (some (.ret (.tup [(.agg [x12, x13, x14, x15]), (.bool false)]), h71, none)))
 (fun v81 h82 => some (.panic v81, h82, none))
noncomputable def f243_3 (n : Nat) (F : Fns) (v43 : AV) (x37 : AV) (v16 : AV) (x15 : AV) (h17 : Heap) (x12 : AV) (x13 : AV) (x14 : AV) (h : Heap) (x29 : AV) (x30 : AV) (x31 : AV) (x32 : AV) (x33 : AV) (x34 : AV) (x35 : AV) (x36 : AV) (x38 : AV) (x39 : AV) (x40 : AV) : R :=
 asB v43 fun b44 => cond b44
 ((unop .not x37).bind fun v45 =>
 asB v45 fun b46 => cond b46
 (asI v16 fun i47 =>
 elemP x15 i47 12 fun p48 o49 =>
 (h17.wr p48 (o49 + 8) [(.bool true)]).bind fun h50 =>
 some (.ret (.tup [(.agg [x12, x13, x14, x15]), (.bool true)]), h50, none))
 ((h17.rd h.next 3 1).bind fun l51 =>
 un1 l51 fun x52 =>
 asB x52 fun b53 => cond b53
 (f243_1 n F x29 x30 x31 x32 x33 x34 x35 x36 x37 x38 x39 x40 h17 x15 v16 x12 x13 x14)
 (some (.ret (.tup [(.agg [x12, x13, x14, x15]), (.bool false)]), h17, none))))
 ((h17.rd h.next 3 1).bind fun l67 =>
 un1 l67 fun x68 =>
 asB x68 fun b69 => cond b69
 (f243_2 n F x29 x30 x31 x32 x33 x34 x35 x36 x37 x38 x39 x40 h17 x15 v16 x12 x13 x14)
 (some (.ret (.tup [(.agg [x12, x13, x14, x15]), (.bool false)]), h17, none)))
noncomputable def f243_4 (n : Nat) (F : Fns) (h17 : Heap) (h : Heap) (x12 : AV) (x13 : AV) (x14 : AV) (x15 : AV) (v16 : AV) : R :=
 (h17.rd h.next 0 2).bind fun l18 =>
 un2 l18 fun x19 x20 =>
 (eqop P false true 48 (.agg [x19, x20]) (.agg [x12, x13])).bind fun v21 =>
 asB v21 fun b22 => cond b22
 (some (.ret (.tup [(.agg [x12, x13, x14, x15]), (.bool false)]), h17, none))
 ((binop .lss v16 (.int .i64 0)).bind fun v23 =>
 asB v23 fun b24 => cond b24
 (some (.ret (.tup [(.agg [x12, x13, x14, x15]), (.bool false)]), h17, none))
 (asI v16 fun i25 =>
 elemP x15 i25 12 fun p26 o27 =>
 (h17.rd p26 o27 12).bind fun l28 =>
 un12 l28 fun x29 x30 x31 x32 x33 x34 x35 x36 x37 x38 x39 x40 =>
 (h17.rd h.next 3 1).bind fun l41 =>
 un1 l41 fun x42 =>
 (unop .not x42).bind fun v43 =>
 f243_3 n F v43 x37 v16 x15 h17 x12 x13 x14 h x29 x30 x31 x32 x33 x34 x35 x36 x38 x39 x40))
/-- countermand/chain.Ack -/
noncomputable def f243 (n : Nat) (F : Fns) (a0 a1 : AV) (h : Heap) : R :=
 unA4 a0 fun x1 x2 x3 x4 =>
 unA4 a1 fun x5 x6 x7 x8 =>
 let h9 := h.push (.cells [x5, x6, x7, x8] 1)
 bindC (F.plain 203 [(.agg [x1, x2, x3, x4])] h9) (fun v10 h11 =>
 unA4 v10 fun x12 x13 x14 x15 =>
 bindC (F.plain 204 [x15, (.fn 275 [] [(.ptr (some (h.next, 0)))])] h11) (fun v16 h17 =>
 f243_4 n F h17 h x12 x13 x14 x15 v16)
 (fun v83 h84 => some (.panic v83, h84, none)))
 (fun v85 h86 => some (.panic v85, h86, none))

noncomputable def f244_1 (n : Nat) (F : Fns) (r38 : AV × Heap) (p40 : Nat) (o41 : Nat) (a0 : AV) (a1 : AV) (a2 : AV) : R :=
 scal r38.1 fun v42 =>
 (r38.2.wr p40 (o41 + 2) [v42]).bind fun h43 =>
 notNil a0 fun v44 =>
 asPtr v44 fun p45 o46 =>
 (h43.rd p45 (o46 + 2) 1).bind fun l47 =>
 un1 l47 fun x48 =>
 (binop .sub a1 (.int .i64 1)).bind fun v49 =>
 asI v49 fun i50 =>
 elemP x48 i50 5 fun p51 o52 =>
 bindC (F.plain 161 [a2] h43) (fun v53 h54 =>
 scal v53 fun v55 =>
 (h54.wr p51 (o52 + 4) [v55]).bind fun h56 =>
 (h56.rd p51 (o52 + 0) 4).bind fun l57 =>
 un4 l57 fun x58 x59 x60 x61 =>
 bindC (F.plain 277 [(.agg [x58, x59, x60, x61]), a2] h56) (fun v62 h63 =>
 unA4 v62 fun x64 x65 x66 x67 =>
 (h63.wr p51 (o52 + 0) [x64, x65, x66, x67]).bind fun h68 =>
 some (.ret (.bool true), h68, none))
 (fun v69 h70 => some (.panic v69, h70, none)))
 (fun v71 h72 => some (.panic v71, h72, none))
noncomputable def f244_2 (n : Nat) (F : Fns) (v27 : AV) (a0 : AV) (h : Heap) (a1 : AV) (a2 : AV) : R :=
 asB v27 fun b28 => cond b28
 (notNil a0 fun v29 =>
 asPtr v29 fun p30 o31 =>
 (h.rd p30 (o31 + 2) 1).bind fun l32 =>
 un1 l32 fun x33 =>
 bindC (F.plain 276 [a0, a1] h) (fun v34 h35 =>
 same (h35.rd p30 (o31 + 2) 1) l32
 (unA2 v34 fun x36 x37 =>
 (appendA P h35 177 x33 1 [x36, x37, (.int .i64 0), .nilSlice, .nilSlice]).bind fun r38 =>
 notNil a0 fun v39 =>
 asPtr v39 fun p40 o41 =>
 f244_1 n F r38 p40 o41 a0 a1 a2))
 (fun v73 h74 => some (.panic v73, h74, none)))
 (notNil a0 fun v75 =>
 asPtr v75 fun p76 o77 =>
 (h.rd p76 (o77 + 2) 1).bind fun l78 =>
 un1 l78 fun x79 =>
 (binop .sub a1 (.int .i64 1)).bind fun v80 =>
 asI v80 fun i81 =>
 elemP x79 i81 5 fun p82 o83 =>
 bindC (F.plain 161 [a2] h) (fun v84 h85 =>
 scal v84 fun v86 =>
 (h85.wr p82 (o83 + 4) [v86]).bind fun h87 =>
 (h87.rd p82 (o83 + 0) 4).bind fun l88 =>
 un4 l88 fun x89 x90 x91 x92 =>
 bindC (F.plain 277 [(.agg [x89, x90, x91, x92]), a2] h87) (fun v93 h94 =>
 unA4 v93 fun x95 x96 x97 x98 =>
 (h94.wr p82 (o83 + 0) [x95, x96, x97, x98]).bind fun h99 =>
 some (.ret (.bool true), h99, none))
 (fun v100 h101 => some (.panic v100, h101, none)))
 (fun v102 h103 => some (.panic v102, h103, none)))
noncomputable def f244_3 (n : Nat) (F : Fns) (h : Heap) (p4 : Nat) (o5 : Nat) (a1 : AV) (a0 : AV) (a2 : AV) : R :=
 (h.rd p4 (o5 + 0) 1).bind fun l6 =>
 un1 l6 fun x7 =>
 (unop .not x7).bind fun v8 =>
 asB v8 fun b9 => cond b9
 (some (.ret (.bool false), h, none))
 ((binop .lss a1 (.int .i64 1)).bind fun v10 =>
 asB v10 fun b11 => cond b11
 (some (.ret (.bool false), h, none))
 (notNil a0 fun v12 =>
 asPtr v12 fun p13 o14 =>
 (h.rd p13 (o14 + 2) 1).bind fun l15 =>
 un1 l15 fun x16 =>
 (lenA P 172 x16).bind fun v17 =>
 (binop .add v17 (.int .i64 1)).bind fun v18 =>
 (binop .gtr a1 v18).bind fun v19 =>
 asB v19 fun b20 => cond b20
 (some (.ret (.bool false), h, none))
 (notNil a0 fun v21 =>
 asPtr v21 fun p22 o23 =>
 (h.rd p22 (o23 + 2) 1).bind fun l24 =>
 un1 l24 fun x25 =>
 (lenA P 172 x25).bind fun v26 =>
 (binop .gtr a1 v26).bind fun v27 =>
 f244_2 n F v27 a0 h a1 a2)))
/-- (*countermand/ledger.Ledger).Put -/
noncomputable def f244 (n : Nat) (F : Fns) (a0 a1 a2 : AV) (h : Heap) : R :=
 (eqop P true false 101 a0 (.ptr none)).bind fun v1 =>
 asB v1 fun b2 => cond b2
 (some (.ret (.bool false), h, none))
 (notNil a0 fun v3 =>
 asPtr v3 fun p4 o5 =>
 f244_3 n F h p4 o5 a1 a0 a2)

noncomputable def f245_1 (n : Nat) (F : Fns) (x21 : AV) (x22 : AV) (x23 : AV) (x24 : AV) (x25 : AV) (h8 : Heap) (x11 : AV) (x14 : AV) (self6 : List AV → Heap → R) (x9 : AV) (x10 : AV) (x12 : AV) (x13 : AV) : R :=
 bindC (F.plain 278 [(.agg [x21, x22, x23, x24, x25])] h8) (fun v26 h27 =>
 asB v26 fun b28 => cond b28
 ((appendA P h27 96 x11 1 [x21, x22, x23, x24, x25]).bind fun r29 =>
 (binop .add x14 (.int .i64 1)).bind fun v30 =>
 self6 [x9, x10, r29.1, x12, x13, v30] r29.2)
 (bindC (F.plain 62 [x21, (.int .i64 1), (.int .i64 11)] h27) (fun v31 h32 =>
 asB v31 fun b33 => cond b33
 ((appendA P h32 96 x10 1 [x21, x22, x23, x24, x25]).bind fun r34 =>
 (binop .add x14 (.int .i64 1)).bind fun v35 =>
 self6 [x9, r34.1, x11, x12, x13, v35] r34.2)
 ((binop .add x14 (.int .i64 1)).bind fun v36 =>
 self6 [x9, x10, x11, x12, x13, v36] h32))
 (fun v37 h38 => some (.panic v37, h38, none))))
 (fun v39 h40 => some (.panic v39, h40, none))
/-- countermand/effect.Want -/
noncomputable def f245 (n : Nat) (F : Fns) (a0 a1 : AV) (h : Heap) : R :=
 unA2 a0 fun x1 x2 =>
 (eqop P true true 41 x1 (.int .i64 0)).bind fun v3 =>
 asB v3 fun b4 => cond b4
 (some (.ret .nilSlice, h, none))
 ((lenA P 129 x2).bind fun v5 =>
 loopV (fun vs7 h8 self6 => un6 vs7 fun x9 x10 x11 x12 x13 x14 =>
 (binop .lss x14 x13).bind fun v15 =>
 asB v15 fun b16 => cond b16
 (asI x14 fun i17 =>
 elemP x12 i17 5 fun p18 o19 =>
 (h8.rd p18 o19 5).bind fun l20 =>
 un5 l20 fun x21 x22 x23 x24 x25 =>
 f245_1 n F x21 x22 x23 x24 x25 h8 x11 x14 self6 x9 x10 x12 x13)
 (asB x9 fun b41 => cond b41
 ((opAppend P h8 129 129 x10 x11).bind fun r42 =>
 some (.ret r42.1, r42.2, none))
 (some (.ret x10, h8, none)))) n [a1, .nilSlice, .nilSlice, x2, v5, (.int .i64 0)] h)

noncomputable def f246_1 (n : Nat) (F : Fns) (a0 : AV) (h : Heap) : R :=
 bindC (F.plain 99 [a0] h) (fun v1 h2 =>
 (lenA P 172 v1).bind fun v3 =>
 loopV (fun vs5 h6 self4 => un4 vs5 fun x7 x8 x9 x10 =>
 (binop .lss x10 x9).bind fun v11 =>
 asB v11 fun b12 => cond b12
 (asI x10 fun i13 =>
 elemP x8 i13 5 fun p14 o15 =>
 (h6.rd p14 o15 5).bind fun l16 =>
 un5 l16 fun x17 x18 x19 x20 x21 =>
 bindC (F.plain 203 [(.agg [x17, x18, x19, x20])] h6) (fun v22 h23 =>
 unA4 v22 fun x24 x25 x26 x27 =>
 (appendA P h23 175 x7 1 [x24, x25, x26, x27]).bind fun r28 =>
 (binop .add x10 (.int .i64 1)).bind fun v29 =>
 self4 [r28.1, x8, x9, v29] r28.2)
 (fun v30 h31 => some (.panic v30, h31, none)))
 (some (.ret x7, h6, none))) n [.nilSlice, v1, v3, (.int .i64 0)] h2)
 (fun v32 h33 => some (.panic v32, h33, none))
/-- (*countermand/ledger.Ledger).Chains -/
noncomputable def f246 (n : Nat) (F : Fns) (a0 : AV) (h : Heap) : R :=
 f246_1 n F a0 h

noncomputable def f247_1 (n : Nat) (F : Fns) (x12 : AV) (x1 : AV) (h23 : Heap) (x2 : AV) (x3 : AV) (x4 : AV) (x5 : AV) (x6 : AV) (x7 : AV) : R :=
 (eqop P true false 3 x12 (.int .i64 0)).bind fun v43 =>
 bindC (F.plain 62 [x1, (.int .i64 1), (.int .i64 255)] h23) (fun v44 h45 =>
 asB v44 fun b46 => cond b46
 (bindC (F.plain 225 [(.agg [x2, x3, x4, x5, x6])] h45) (fun v47 h48 =>
 (eqop P true false 41 v47 (.int .i64 0)).bind fun v49 =>
 asB v49 fun b50 => cond b50
 (bindC (F.plain 62 [x7, (.int .i64 1), (.int .i64 8)] h48) (fun v51 h52 =>
 asB v51 fun b53 => cond b53
 (some (.ret v43, h52, none))
 (some (.ret (.bool false), h52, none)))
 (fun v54 h55 => some (.panic v54, h55, none)))
 (some (.ret (.bool false), h48, none)))
 (fun v56 h57 => some (.panic v56, h57, none)))
 (some (.ret (.bool false), h45, none)))
 (fun v58 h59 => some (.panic v58, h59, none))
noncomputable def f247_2 (n : Nat) (F : Fns) (v25 : AV) (x1 : AV) (h23 : Heap) (x2 : AV) (x3 : AV) (x4 : AV) (x5 : AV) (x6 : AV) (x7 : AV) (x12 : AV) : R :=
 asB v25 fun b26 => cond b26
 (bindC (F.plain 62 [x1, (.int .i64 1), (.int .i64 255)] h23) (fun v27 h28 =>
 asB v27 fun b29 => cond b29
 (bindC (F.plain 225 [(.agg [x2, x3, x4, x5, x6])] h28) (fun v30 h31 =>
 (eqop P true false 41 v30 (.int .i64 0)).bind fun v32 =>
 asB v32 fun b33 => cond b33
 (bindC (F.plain 62 [x7, (.int .i64 1), (.int .i64 8)] h31) (fun v34 h35 =>
 asB v34 fun b36 => cond b36
 (some (.ret (.bool true), h35, none))
 (some (.ret (.bool false), h35, none)))
 (fun v37 h38 => some (.panic v37, h38, none)))
 (some (.ret (.bool false), h31, none)))
 (fun v39 h40 => some (.panic v39, h40, none)))
 (some (.ret (.bool false), h28, none)))
 (fun v41 h42 => some (.panic v41, h42, none)))
 (f247_1 n F x12 x1 h23 x2 x3 x4 x5 x6 x7)
noncomputable def f247_3 (n : Nat) (F : Fns) (x1 : AV) (h69 : Heap) (x2 : AV) (x3 : AV) (x4 : AV) (x5 : AV) (x6 : AV) (x7 : AV) (v64 : AV) : R :=
 bindC (F.plain 62 [x1, (.int .i64 1), (.int .i64 255)] h69) (fun v73 h74 =>
 asB v73 fun b75 => cond b75
 (bindC (F.plain 225 [(.agg [x2, x3, x4, x5, x6])] h74) (fun v76 h77 =>
 (eqop P true false 41 v76 (.int .i64 0)).bind fun v78 =>
 asB v78 fun b79 => cond b79
 (bindC (F.plain 62 [x7, (.int .i64 1), (.int .i64 8)] h77) (fun v80 h81 =>
 asB v80 fun b82 => cond b82
 (asB v64 fun b83 => cond b83
 (some (.ret (.bool true), h81, none))
 (some (.ret (.bool false), h81, none)))
 (some (.ret (.bool false), h81, none)))
 (fun v84 h85 => some (.panic v84, h85, none)))
 (some (.ret (.bool false), h77, none)))
 (fun v86 h87 => some (.panic v86, h87, none)))
 (some (.ret (.bool false), h74, none)))
 (fun v88 h89 => some (.panic v88, h89, none))
noncomputable def f247_4 (n : Nat) (F : Fns) (x1 : AV) (h69 : Heap) (x2 : AV) (x3 : AV) (x4 : AV) (x5 : AV) (x6 : AV) (x7 : AV) (v64 : AV) (v90 : AV) : R :=
 bindC (F.plain 62 [x1, (.int .i64 1), (.int .i64 255)] h69) (fun v91 h92 =>
 asB v91 fun b93 => cond b93
 (bindC (F.plain 225 [(.agg [x2, x3, x4, x5, x6])] h92) (fun v94 h95 =>
 (eqop P true false 41 v94 (.int .i64 0)).bind fun v96 =>
 asB v96 fun b97 => cond b97
 (bindC (F.plain 62 [x7, (.int .i64 1), (.int .i64 8)] h95) (fun v98 h99 =>
 asB v98 fun b100 => cond b100
 (asB v64 fun b101 => cond b101
 (some (.ret v90, h99, none))
 (some (.ret (.bool false), h99, none)))
 (some (.ret (.bool false), h99, none)))
 (fun v102 h103 => some (.panic v102, h103, none)))
 (some (.ret (.bool false), h95, none)))
 (fun v104 h105 => some (.panic v104, h105, none)))
 (some (.ret (.bool false), h92, none)))
 (fun v106 h107 => some (.panic v106, h107, none))
noncomputable def f247_5 (n : Nat) (F : Fns) (v16 : AV) (x8 : AV) (h17 : Heap) (x12 : AV) (x11 : AV) (x1 : AV) (x2 : AV) (x3 : AV) (x4 : AV) (x5 : AV) (x6 : AV) (x7 : AV) : R :=
 asB v16 fun b18 => cond b18
 (bindC (F.plain 62 [x8, (.int .i64 0), (.int .i64 1073741824)] h17) (fun v19 h20 =>
 asB v19 fun b21 => cond b21
 (bindC (F.plain 62 [x12, (.int .i64 0), (.int .i64 1073741824)] h20) (fun v22 h23 =>
 asB v22 fun b24 => cond b24
 ((binop .gtr x11 (.int .i64 0)).bind fun v25 =>
 f247_2 n F v25 x1 h23 x2 x3 x4 x5 x6 x7 x12)
 (none))
 (fun v60 h61 => some (.panic v60, h61, none)))
 (none))
 (fun v62 h63 => some (.panic v62, h63, none)))
 ((eqop P true false 3 x11 (.int .i64 0)).bind fun v64 =>
 bindC (F.plain 62 [x8, (.int .i64 0), (.int .i64 1073741824)] h17) (fun v65 h66 =>
 asB v65 fun b67 => cond b67
 (bindC (F.plain 62 [x12, (.int .i64 0), (.int .i64 1073741824)] h66) (fun v68 h69 =>
 asB v68 fun b70 => cond b70
 ((binop .gtr x11 (.int .i64 0)).bind fun v71 =>
 asB v71 fun b72 => cond b72
 (f247_3 n F x1 h69 x2 x3 x4 x5 x6 x7 v64)
 ((eqop P true false 3 x12 (.int .i64 0)).bind fun v90 =>
 f247_4 n F x1 h69 x2 x3 x4 x5 x6 x7 v64 v90))
 (none))
 (fun v108 h109 => some (.panic v108, h109, none)))
 (none))
 (fun v110 h111 => some (.panic v110, h111, none)))
/-- countermand/entry.Check -/
noncomputable def f247 (n : Nat) (F : Fns) (a0 : AV) (h : Heap) : R :=
 unA12 a0 fun x1 x2 x3 x4 x5 x6 x7 x8 x9 x10 x11 x12 =>
 bindC (F.plain 62 [x11, (.int .i64 0), (.int .i64 8)] h) (fun v13 h14 =>
 asB v13 fun b15 => cond b15
 (bindC (F.plain 103 [(.agg [x1, x2, x3, x4, x5, x6, x7, x8, x9, x10, x11, x12])] h14) (fun v16 h17 =>
 f247_5 n F v16 x8 h17 x12 x11 x1 x2 x3 x4 x5 x6 x7)
 (fun v112 h113 => some (.panic v112, h113, none)))
 (none))
 (fun v114 h115 => some (.panic v114, h115, none))

/-- countermand/entry.flags -/
noncomputable def f248 (n : Nat) (F : Fns) (a0 : AV) (h : Heap) : R :=
 unA12 a0 fun x1 x2 x3 x4 x5 x6 x7 x8 x9 x10 x11 x12 =>
 asB x9 fun b13 => cond b13
 ((binop .or (.int .i64 0) (.int .i64 1)).bind fun v14 =>
 asB x10 fun b15 => cond b15
 ((binop .or v14 (.int .i64 2)).bind fun v16 =>
 some (.ret v16, h, none))
 (some (.ret v14, h, none)))
 (asB x10 fun b17 => cond b17
 ((binop .or (.int .i64 0) (.int .i64 2)).bind fun v18 =>
 some (.ret v18, h, none))
 (some (.ret (.int .i64 0), h, none)))

/-- slices.Clone[[]countermand/entry.Entry,countermand/entry.Entry] -/
noncomputable def f249 (n : Nat) (F : Fns) (a0 : AV) (h : Heap) : R :=
 (eqop P true false 173 a0 .nilSlice).bind fun v1 =>
 asB v1 fun b2 => cond b2
 (some (.ret .nilSlice, h, none))
 ((opAppend P (h.push (.cells [] 12)) 173 173 (.slice h.next 0 0 0 (.ex 0)) a0).bind fun r3 =>
 some (.ret r3.1, r3.2, none))

noncomputable def f250_1 (n : Nat) (F : Fns) (a0 : AV) (h2 : Heap) (v1 : AV) (a2 : AV) : R :=
 bindC (F.plain 17 [a0, (.int .i64 1), (.int .i64 64)] h2) (fun v3 h4 =>
 (fold2 min2 v3 [v1]).bind fun v5 =>
 (binop .lss a2 (.int .i64 1)).bind fun v6 =>
 asB v6 fun b7 => cond b7
 (some (.ret (.int .i64 0), h4, none))
 ((fold2 min2 a2 [(.int .i64 64)]).bind fun v8 =>
 (binop .sub v8 (.int .i64 1)).bind fun v9 =>
 loopV (fun vs11 h12 self10 => un4 vs11 fun x13 x14 x15 x16 =>
 (binop .lss x16 x15).bind fun v17 =>
 asB v17 fun b18 => cond b18
 ((binop .mul (.int .i64 2) x14).bind fun v19 =>
 (fold2 min2 v19 [x13]).bind fun v20 =>
 (binop .add x16 (.int .i64 1)).bind fun v21 =>
 self10 [x13, v20, x15, v21] h12)
 (some (.ret x14, h12, none))) n [v1, v5, v9, (.int .i64 0)] h4))
 (fun v22 h23 => some (.panic v22, h23, none))
/-- countermand/delay.Wait -/
noncomputable def f250 (n : Nat) (F : Fns) (a0 a1 a2 : AV) (h : Heap) : R :=
 bindC (F.plain 17 [a1, (.int .i64 1), (.int .i64 64)] h) (fun v1 h2 =>
 f250_1 n F a0 h2 v1 a2)
 (fun v24 h25 => some (.panic v24, h25, none))

noncomputable def f251_1 (n : Nat) (F : Fns) (v2 : AV) (x1 : AV) (h3 : Heap) : R :=
 loopV (fun vs5 h6 self4 => un4 vs5 fun x7 x8 x9 x10 =>
 (binop .lss x9 x8).bind fun v11 =>
 asB v11 fun b12 => cond b12
 (bindC (F.plain 280 [(.agg [x10]), (.int .i64 22)] h6) (fun v13 h14 =>
 bindC (F.plain 211 [v13] h14) (fun v15 h16 =>
 unT2 v15 fun x17 x18 =>
 unA9 x17 fun x19 x20 x21 x22 x23 x24 x25 x26 x27 =>
 (eqop P true false 41 x18 (.int .i64 0)).bind fun v28 =>
 bindC (F.plain 252 [v28] h16) (fun v29 h30 =>
 unT0 v29 fun _u =>
 (appendA P h30 50 x7 1 [x19, x20, x21, x22, x23, x24, x25, x26, x27]).bind fun r31 =>
 (binop .add x9 (.int .i64 1)).bind fun v32 =>
 self4 [r31.1, x8, v32, x10] r31.2)
 (fun v33 h34 => some (.panic v33, h34, none)))
 (fun v35 h36 => some (.panic v35, h36, none)))
 (fun v37 h38 => some (.panic v37, h38, none)))
 (some (.ret x7, h6, none))) n [.nilSlice, v2, (.int .i64 0), x1] h3
/-- (countermand/image.source).changes -/
noncomputable def f251 (n : Nat) (F : Fns) (a0 : AV) (h : Heap) : R :=
 unA1 a0 fun x1 =>
 bindC (F.plain 279 [(.agg [x1])] h) (fun v2 h3 =>
 f251_1 n F v2 x1 h3)
 (fun v39 h40 => some (.panic v39, h40, none))

/-- countermand/image.must -/
noncomputable def f252 (n : Nat) (F : Fns) (a0 : AV) (h : Heap) : R :=
 (unop .not a0).bind fun v1 =>
 asB v1 fun b2 => cond b2
 (some (.panic (.iface 310 (.agg [])), h, none))
 (some (.ret (.tup []), h, none))

/-- (*countermand/state.State).Load -/
noncomputable def f253 (n : Nat) (F : Fns) (a0 a1 : AV) (h : Heap) : R :=
 unA4 a1 fun x1 x2 x3 x4 =>
 bindC (F.plain 60 [a0] h) (fun v5 h6 =>
 bindC (F.plain 281 [v5, (.agg [x1, x2, x3, x4])] h6) (fun v7 h8 =>
 some (.ret v7, h8, none))
 (fun v9 h10 => some (.panic v9, h10, none)))
 (fun v11 h12 => none)

noncomputable def f254_1 (n : Nat) (F : Fns) (v23 : AV) (x14 : AV) (h11 : Heap) (x22 : AV) (x13 : AV) (self9 : List AV → Heap → R) (x12 : AV) (x15 : AV) (x16 : AV) (x17 : AV) (x18 : AV) (x19 : AV) (x20 : AV) (x21 : AV) : R :=
 asB v23 fun b24 => cond b24
 (bindC (F.plain 280 [(.agg [x14]), (.int .i64 27)] h11) (fun v25 h26 =>
 bindC (F.plain 282 [v25] h26) (fun v27 h28 =>
 unT2 v27 fun x29 x30 =>
 unA12 x29 fun x31 x32 x33 x34 x35 x36 x37 x38 x39 x40 x41 x42 =>
 bindC (F.plain 252 [x30] h28) (fun v43 h44 =>
 unT0 v43 fun _u =>
 (appendA P h44 183 x22 1 [x31, x32, x33, x34, x35, x36, x37, x38, x39, x40, x41, x42]).bind fun r45 =>
 scal r45.1 fun v46 =>
 (binop .add x13 (.int .i64 1)).bind fun v47 =>
 self9 [x12, v47, x14, x15, x16, x17, x18, x19, x20, x21, v46] r45.2)
 (fun v48 h49 => some (.panic v48, h49, none)))
 (fun v50 h51 => some (.panic v50, h51, none)))
 (fun v52 h53 => some (.panic v52, h53, none)))
 (some (.ret (.agg [x19, x20, x21, x22]), h11, none))
/-- (countermand/image.source).chain -/
noncomputable def f254 (n : Nat) (F : Fns) (a0 a1 : AV) (h : Heap) : R :=
 unA1 a0 fun x1 =>
 unA2 a1 fun x2 x3 =>
 bindC (F.plain 279 [(.agg [x1])] h) (fun v4 h5 =>
 scal v4 fun v6 =>
 bindC (F.plain 279 [(.agg [x1])] h5) (fun v7 h8 =>
 loopV (fun vs10 h11 self9 => un11 vs10 fun x12 x13 x14 x15 x16 x17 x18 x19 x20 x21 x22 =>
 (binop .lss x13 x12).bind fun v23 =>
 f254_1 n F v23 x14 h11 x22 x13 self9 x12 x15 x16 x17 x18 x19 x20 x21) n [v7, (.int .i64 0), x1, (.int .i64 0), (.int .i64 0), (.int .i64 0), .nilSlice, x2, x3, v6, .nilSlice] h8)
 (fun v54 h55 => some (.panic v54, h55, none)))
 (fun v56 h57 => none)

/-- countermand/change.Get$1 -/
noncomputable def f255 (n : Nat) (F : Fns) (a0 a1 : AV) (h : Heap) : R :=
 asPtr a1 fun p1 o2 =>
 (h.rd p1 o2 1).bind fun l3 =>
 un1 l3 fun x4 =>
 bindC (F.plain 177 [x4, a0] h) (fun v5 h6 =>
 unT2 v5 fun x7 x8 =>
 (convertA P 277 3 x7).bind fun v9 =>
 some (.ret v9, h6, none))
 (fun v10 h11 => some (.panic v10, h11, none))

/-- countermand/change.Put$1 -/
noncomputable def f256 (n : Nat) (F : Fns) (a0 a1 a2 : AV) (h : Heap) : R :=
 asPtr a2 fun p1 o2 =>
 (h.rd p1 o2 1).bind fun l3 =>
 un1 l3 fun x4 =>
 (convertA P 3 277 a0).bind fun v5 =>
 bindC (F.plain 216 [x4, v5, a1] h) (fun v6 h7 =>
 asPtr a2 fun p8 o9 =>
 scal v6 fun v10 =>
 (h7.wr p8 o9 [v10]).bind fun h11 =>
 some (.ret (.tup []), h11, none))
 (fun v12 h13 => some (.panic v12, h13, none))

/-- countermand/booking.own -/
noncomputable def f257 (n : Nat) (F : Fns) (a0 : AV) (h : Heap) : R :=
 unA25 a0 fun x1 x2 x3 x4 x5 x6 x7 x8 x9 x10 x11 x12 x13 x14 x15 x16 x17 x18 x19 x20 x21 x22 x23 x24 x25 =>
 bindC (F.plain 162 [x25] h) (fun v26 h27 =>
 scal v26 fun v28 =>
 some (.ret (.agg [x1, x2, x3, x4, x5, x6, x7, x8, x9, x10, x11, x12, x13, x14, x15, x16, x17, x18, x19, x20, x21, x22, x23, x24, v28]), h27, none))
 (fun v29 h30 => some (.panic v29, h30, none))

noncomputable def f258_1 (n : Nat) (F : Fns) (v8 : AV) (v1 : AV) (h : Heap) (a0 : AV) (x7 : AV) (a1 : AV) (a2 : AV) : R :=
 asB v8 fun b9 => cond b9
 (thrown v1 fun v10 =>
 some (.panic v10, h, (some none)))
 (asPtr a0 fun p11 o12 =>
 (h.rd p11 o12 25).bind fun l13 =>
 un25 l13 fun x14 x15 x16 x17 x18 x19 x20 x21 x22 x23 x24 x25 x26 x27 x28 x29 x30 x31 x32 x33 x34 x35 x36 x37 x38 =>
 bindC (F.plain 257 [(.agg [x14, x15, x16, x17, x18, x19, x20, x21, x22, x23, x24, x25, x26, x27, x28, x29, x30, x31, x32, x33, x34, x35, x36, x37, x38])] h) (fun v39 h40 =>
 scal x7 fun v41 =>
 asPtr a1 fun p42 o43 =>
 unA25 v39 fun x44 x45 x46 x47 x48 x49 x50 x51 x52 x53 x54 x55 x56 x57 x58 x59 x60 x61 x62 x63 x64 x65 x66 x67 x68 =>
 (h40.wr p42 o43 [x44, x45, x46, x47, x48, x49, x50, x51, x52, x53, x54, x55, x56, x57, x58, x59, x60, x61, x62, x63, x64, x65, x66, x67, x68]).bind fun h69 =>
 asPtr a2 fun p70 o71 =>
 (h69.wr p70 o71 [v41, .nilSlice]).bind fun h72 =>
 some (.ret (.tup []), h72, (some none)))
 (fun v73 h74 => none))
noncomputable def f258_2 (n : Nat) (F : Fns) (v81 : AV) (a0 : AV) (h : Heap) (x80 : AV) (a1 : AV) (a2 : AV) : R :=
 asB v81 fun b82 => cond b82
 (none)
 (asPtr a0 fun p83 o84 =>
 (h.rd p83 o84 25).bind fun l85 =>
 un25 l85 fun x86 x87 x88 x89 x90 x91 x92 x93 x94 x95 x96 x97 x98 x99 x100 x101 x102 x103 x104 x105 x106 x107 x108 x109 x110 =>
 bindC (F.plain 257 [(.agg [x86, x87, x88, x89, x90, x91, x92, x93, x94, x95, x96, x97, x98, x99, x100, x101, x102, x103, x104, x105, x106, x107, x108, x109, x110])] h) (fun v111 h112 =>
 scal x80 fun v113 =>
 asPtr a1 fun p114 o115 =>
 unA25 v111 fun x116 x117 x118 x119 x120 x121 x122 x123 x124 x125 x126 x127 x128 x129 x130 x131 x132 x133 x134 x135 x136 x137 x138 x139 x140 =>
 (h112.wr p114 o115 [x116, x117, x118, x119, x120, x121, x122, x123, x124, x125, x126, x127, x128, x129, x130, x131, x132, x133, x134, x135, x136, x137, x138, x139, x140]).bind fun h141 =>
 asPtr a2 fun p142 o143 =>
 (h141.wr p142 o143 [v113, .nilSlice]).bind fun h144 =>
 some (.ret (.tup []), h144, (some none)))
 (fun v145 h146 => none))
/-- countermand/booking.Do$1 -/
noncomputable def f258 (n : Nat) (F : Fns) (a0 a1 a2 : AV) (h : Heap) (rc : Option (Option AV)) : R :=
 match rc.isSome with
 | false => none
 | true =>
 (recK rc (fun v1 =>
 (eqop P true true 20 v1 .nilIface).bind fun v2 =>
 asB v2 fun b3 => cond b3
 ((typeAssertA P v1 357 true).bind fun v4 =>
 unT2 v4 fun x5 x6 =>
 unA1 x5 fun x7 =>
 (unop .not x6).bind fun v8 =>
 f258_1 n F v8 v1 h a0 x7 a1 a2)
 (some (.ret (.tup []), h, (some none))))
 ((eqop P true true 20 .nilIface .nilIface).bind fun v75 =>
 asB v75 fun b76 => cond b76
 ((typeAssertA P .nilIface 357 true).bind fun v77 =>
 unT2 v77 fun x78 x79 =>
 unA1 x78 fun x80 =>
 (unop .not x79).bind fun v81 =>
 f258_2 n F v81 a0 h x80 a1 a2)
 (some (.ret (.tup []), h, (some none)))))

noncomputable def f259_1 (n : Nat) (F : Fns) (v12 : AV) (h : Heap) (a0 : AV) (x5 : AV) (x7 : AV) : R :=
 bindC (F.plain 283 [v12, (.int .i64 4)] h) (fun v13 h14 =>
 unT0 v13 fun _u =>
 notNil a0 fun v15 =>
 asPtr v15 fun p16 o17 =>
 (h14.rd p16 (o17 + 0) 25).bind fun l18 =>
 un25 l18 fun x19 x20 x21 x22 x23 x24 x25 x26 x27 x28 x29 x30 x31 x32 x33 x34 x35 x36 x37 x38 x39 x40 x41 x42 x43 =>
 bindC (F.plain 285 [(.agg [x19, x20, x21, x22, x23, x24, x25, x26, x27, x28, x29, x30, x31, x32, x33, x34, x35, x36, x37, x38, x39, x40, x41, x42, x43]), x5, x7] h14) (fun v44 h45 =>
 unT2 v44 fun x46 x47 =>
 bindC (F.plain 284 [a0, x46, x47] h45) (fun v48 h49 =>
 unT0 v48 fun _u =>
 some (.ret (.tup []), h49, none))
 (fun v50 h51 => some (.panic v50, h51, none)))
 (fun v52 h53 => some (.panic v52, h53, none)))
 (fun v54 h55 => some (.panic v54, h55, none))
noncomputable def f259_2 (n : Nat) (F : Fns) (h60 : Heap) (p62 : Nat) (o63 : Nat) (x5 : AV) (x7 : AV) (a0 : AV) : R :=
 (h60.rd p62 (o63 + 0) 25).bind fun l64 =>
 un25 l64 fun x65 x66 x67 x68 x69 x70 x71 x72 x73 x74 x75 x76 x77 x78 x79 x80 x81 x82 x83 x84 x85 x86 x87 x88 x89 =>
 bindC (F.plain 286 [(.agg [x65, x66, x67, x68, x69, x70, x71, x72, x73, x74, x75, x76, x77, x78, x79, x80, x81, x82, x83, x84, x85, x86, x87, x88, x89]), x5, x7] h60) (fun v90 h91 =>
 unT2 v90 fun x92 x93 =>
 bindC (F.plain 284 [a0, x92, x93] h91) (fun v94 h95 =>
 unT0 v94 fun _u =>
 bindC (F.plain 287 [a0, (.int .i64 8), x5, x7] h95) (fun v96 h97 =>
 unT0 v96 fun _u =>
 some (.ret (.tup []), h97, none))
 (fun v98 h99 => some (.panic v98, h99, none)))
 (fun v100 h101 => some (.panic v100, h101, none)))
 (fun v102 h103 => some (.panic v102, h103, none))
noncomputable def f259_3 (n : Nat) (F : Fns) (v142 : AV) (a0 : AV) (h : Heap) (x5 : AV) (x7 : AV) : R :=
 asB v142 fun b143 => cond b143
 (notNil a0 fun v144 =>
 asPtr v144 fun p145 o146 =>
 (h.rd p145 (o146 + 0) 25).bind fun l147 =>
 un25 l147 fun x148 x149 x150 x151 x152 x153 x154 x155 x156 x157 x158 x159 x160 x161 x162 x163 x164 x165 x166 x167 x168 x169 x170 x171 x172 =>
 bindC (F.plain 294 [(.agg [x148, x149, x150, x151, x152, x153, x154, x155, x156, x157, x158, x159, x160, x161, x162, x163, x164, x165, x166, x167, x168, x169, x170, x171, x172]), x5, x7] h) (fun v173 h174 =>
 unT2 v173 fun x175 x176 =>
 bindC (F.plain 284 [a0, x175, x176] h174) (fun v177 h178 =>
 unT0 v177 fun _u =>
 some (.ret (.tup []), h178, none))
 (fun v179 h180 => some (.panic v179, h180, none)))
 (fun v181 h182 => some (.panic v181, h182, none)))
 (some (.panic (.iface 357 (.agg [(.int .i64 12)])), h, none))
noncomputable def f259_4 (n : Nat) (F : Fns) (v124 : AV) (a0 : AV) (x1 : AV) (x2 : AV) (x3 : AV) (x4 : AV) (x5 : AV) (x6 : AV) (x7 : AV) (x8 : AV) (x9 : AV) (h : Heap) : R :=
 asB v124 fun b125 => cond b125
 (bindC (F.plain 291 [a0, (.agg [x1, x2, x3, x4, x5, x6, x7, x8, x9])] h) (fun v126 h127 =>
 unT0 v126 fun _u =>
 some (.ret (.tup []), h127, none))
 (fun v128 h129 => some (.panic v128, h129, none)))
 ((eqop P true false 3 x4 (.int .i64 7)).bind fun v130 =>
 asB v130 fun b131 => cond b131
 (bindC (F.plain 292 [a0, (.agg [x1, x2, x3, x4, x5, x6, x7, x8, x9])] h) (fun v132 h133 =>
 unT0 v132 fun _u =>
 some (.ret (.tup []), h133, none))
 (fun v134 h135 => some (.panic v134, h135, none)))
 ((eqop P true false 3 x4 (.int .i64 8)).bind fun v136 =>
 asB v136 fun b137 => cond b137
 (bindC (F.plain 293 [a0, (.agg [x1, x2, x3, x4, x5, x6, x7, x8, x9])] h) (fun v138 h139 =>
 unT0 v138 fun _u =>
 some (.ret (.tup []), h139, none))
 (fun v140 h141 => some (.panic v140, h141, none)))
 ((eqop P true false 3 x4 (.int .i64 9)).bind fun v142 =>
 f259_3 n F v142 a0 h x5 x7)))
noncomputable def f259_5 (n : Nat) (F : Fns) (v106 : AV) (a0 : AV) (x1 : AV) (x2 : AV) (x3 : AV) (x4 : AV) (x5 : AV) (x6 : AV) (x7 : AV) (x8 : AV) (x9 : AV) (h : Heap) : R :=
 asB v106 fun b107 => cond b107
 (bindC (F.plain 288 [a0, (.agg [x1, x2, x3, x4, x5, x6, x7, x8, x9])] h) (fun v108 h109 =>
 unT0 v108 fun _u =>
 some (.ret (.tup []), h109, none))
 (fun v110 h111 => some (.panic v110, h111, none)))
 ((eqop P true false 3 x4 (.int .i64 4)).bind fun v112 =>
 asB v112 fun b113 => cond b113
 (bindC (F.plain 289 [a0, (.agg [x1, x2, x3, x4, x5, x6, x7, x8, x9])] h) (fun v114 h115 =>
 unT0 v114 fun _u =>
 some (.ret (.tup []), h115, none))
 (fun v116 h117 => some (.panic v116, h117, none)))
 ((eqop P true false 3 x4 (.int .i64 5)).bind fun v118 =>
 asB v118 fun b119 => cond b119
 (bindC (F.plain 290 [a0, (.agg [x1, x2, x3, x4, x5, x6, x7, x8, x9])] h) (fun v120 h121 =>
 unT0 v120 fun _u =>
 some (.ret (.tup []), h121, none))
 (fun v122 h123 => some (.panic v122, h123, none)))
 ((eqop P true false 3 x4 (.int .i64 6)).bind fun v124 =>
 f259_4 n F v124 a0 x1 x2 x3 x4 x5 x6 x7 x8 x9 h)))
/-- (*countermand/booking.work).do -/
noncomputable def f259 (n : Nat) (F : Fns) (a0 a1 : AV) (h : Heap) : R :=
 unA9 a1 fun x1 x2 x3 x4 x5 x6 x7 x8 x9 =>
 (eqop P true false 3 x4 (.int .i64 1)).bind fun v10 =>
 asB v10 fun b11 => cond b11
 ((binop .geq x7 (.int .i64 1)).bind fun v12 =>
 f259_1 n F v12 h a0 x5 x7)
 ((eqop P true false 3 x4 (.int .i64 2)).bind fun v56 =>
 asB v56 fun b57 => cond b57
 ((binop .geq x7 (.int .i64 1)).bind fun v58 =>
 bindC (F.plain 283 [v58, (.int .i64 4)] h) (fun v59 h60 =>
 unT0 v59 fun _u =>
 notNil a0 fun v61 =>
 asPtr v61 fun p62 o63 =>
 f259_2 n F h60 p62 o63 x5 x7 a0)
 (fun v104 h105 => some (.panic v104, h105, none)))
 ((eqop P true false 3 x4 (.int .i64 3)).bind fun v106 =>
 f259_5 n F v106 a0 x1 x2 x3 x4 x5 x6 x7 x8 x9 h))

/-- countermand/msg.replica -/
noncomputable def f260 (n : Nat) (F : Fns) (a0 : AV) (h : Heap) : R :=
 bindC (F.plain 62 [a0, (.int .i64 0), (.int .i64 3)] h) (fun v1 h2 =>
 some (.ret v1, h2, none))
 (fun v3 h4 => some (.panic v3, h4, none))

/-- slices.ContainsFunc[[]int,int] -/
noncomputable def f261 (n : Nat) (F : Fns) (a0 a1 : AV) (h : Heap) : R :=
 bindC (F.plain 295 [a0, a1] h) (fun v1 h2 =>
 (binop .geq v1 (.int .i64 0)).bind fun v3 =>
 some (.ret v3, h2, none))
 (fun v4 h5 => some (.panic v4, h5, none))

/-- countermand/msg.may$1 -/
noncomputable def f262 (n : Nat) (F : Fns) (a0 : AV) (h : Heap) : R :=
 bindC (F.plain 62 [a0, (.int .i64 0), (.int .i64 65535)] h) (fun v1 h2 =>
 (unop .not v1).bind fun v3 =>
 some (.ret v3, h2, none))
 (fun v4 h5 => some (.panic v4, h5, none))

/-- slices.ContainsFunc[[]countermand/api.Id,countermand/api.Id] -/
noncomputable def f263 (n : Nat) (F : Fns) (a0 a1 : AV) (h : Heap) : R :=
 bindC (F.plain 296 [a0, a1] h) (fun v1 h2 =>
 (binop .geq v1 (.int .i64 0)).bind fun v3 =>
 some (.ret v3, h2, none))
 (fun v4 h5 => some (.panic v4, h5, none))

/-- countermand/msg.may$2 -/
noncomputable def f264 (n : Nat) (F : Fns) (a0 : AV) (h : Heap) : R :=
 unA2 a0 fun x1 x2 =>
 bindC (F.plain 213 [(.agg [x1, x2])] h) (fun v3 h4 =>
 (unop .not v3).bind fun v5 =>
 some (.ret v5, h4, none))
 (fun v6 h7 => some (.panic v6, h7, none))

/-- slices.ContainsFunc[[]countermand/api.Change,countermand/api.Change] -/
noncomputable def f265 (n : Nat) (F : Fns) (a0 a1 : AV) (h : Heap) : R :=
 bindC (F.plain 159 [a0, a1] h) (fun v1 h2 =>
 (binop .geq v1 (.int .i64 0)).bind fun v3 =>
 some (.ret v3, h2, none))
 (fun v4 h5 => some (.panic v4, h5, none))

/-- countermand/msg.may$3 -/
noncomputable def f266 (n : Nat) (F : Fns) (a0 : AV) (h : Heap) : R :=
 unA9 a0 fun x1 x2 x3 x4 x5 x6 x7 x8 x9 =>
 bindC (F.plain 156 [(.agg [x1, x2, x3, x4, x5, x6, x7, x8, x9])] h) (fun v10 h11 =>
 (eqop P true true 41 v10 (.int .i64 0)).bind fun v12 =>
 some (.ret v12, h11, none))
 (fun v13 h14 => some (.panic v13, h14, none))

/-- countermand/ident.MayKey -/
noncomputable def f267 (n : Nat) (F : Fns) (a0 : AV) (h : Heap) : R :=
 unA4 a0 fun x1 x2 x3 x4 =>
 bindC (F.plain 213 [(.agg [x1, x2])] h) (fun v5 h6 =>
 asB v5 fun b7 => cond b7
 (bindC (F.plain 62 [x3, (.int .i64 1), (.int .i64 255)] h6) (fun v8 h9 =>
 some (.ret v8, h9, none))
 (fun v10 h11 => some (.panic v10, h11, none)))
 (some (.ret (.bool false), h6, none)))
 (fun v12 h13 => some (.panic v12, h13, none))

noncomputable def f268_1 (n : Nat) (F : Fns) (v3 : AV) (h : Heap) (a0 : AV) (a1 : AV) : R :=
 asB v3 fun b4 => cond b4
 (some (.ret (.bool false), h, none))
 ((lenA P 139 a0).bind fun v5 =>
 loopV (fun vs7 h8 self6 => un4 vs7 fun x9 x10 x11 x12 =>
 (binop .lss x12 x11).bind fun v13 =>
 asB v13 fun b14 => cond b14
 (asI x12 fun i15 =>
 elemP x9 i15 2 fun p16 o17 =>
 (h8.rd p16 o17 2).bind fun l18 =>
 un2 l18 fun x19 x20 =>
 asI x12 fun i21 =>
 elemP x10 i21 2 fun p22 o23 =>
 (h8.rd p22 o23 2).bind fun l24 =>
 un2 l24 fun x25 x26 =>
 (eqop P false true 48 (.agg [x19, x20]) (.agg [x25, x26])).bind fun v27 =>
 asB v27 fun b28 => cond b28
 (some (.ret (.bool false), h8, none))
 ((binop .add x12 (.int .i64 1)).bind fun v29 =>
 self6 [x9, x10, x11, v29] h8))
 (some (.ret (.bool true), h8, none))) n [a0, a1, v5, (.int .i64 0)] h)
/-- slices.Equal[[]countermand/api.Id,countermand/api.Id] -/
noncomputable def f268 (n : Nat) (F : Fns) (a0 a1 : AV) (h : Heap) : R :=
 (lenA P 139 a0).bind fun v1 =>
 (lenA P 139 a1).bind fun v2 =>
 (eqop P false true 3 v1 v2).bind fun v3 =>
 f268_1 n F v3 h a0 a1

/-- countermand/entry.Ready -/
noncomputable def f269 (n : Nat) (F : Fns) (a0 a1 a2 : AV) (h : Heap) : R :=
 unA12 a0 fun x1 x2 x3 x4 x5 x6 x7 x8 x9 x10 x11 x12 =>
 unA5 a1 fun x13 x14 x15 x16 x17 =>
 bindC (F.plain 205 [(.agg [x1, x2, x3, x4, x5, x6, x7, x8, x9, x10, x11, x12])] h) (fun v18 h19 =>
 unT2 v18 fun x20 x21 =>
 bindC (F.plain 144 [(.agg [x1, x2, x3, x4, x5, x6, x7, x8, x9, x10, x11, x12])] h19) (fun v22 h23 =>
 asB v22 fun b24 => cond b24
 ((binop .lss x20 x15).bind fun v25 =>
 asB v25 fun b26 => cond b26
 (bindC (F.plain 297 [x16, x17, x20, x21, a2] h23) (fun v27 h28 =>
 some (.ret v27, h28, none))
 (fun v29 h30 => some (.panic v29, h30, none)))
 (some (.ret (.bool false), h23, none)))
 (some (.ret (.bool false), h23, none)))
 (fun v31 h32 => some (.panic v31, h32, none)))
 (fun v33 h34 => some (.panic v33, h34, none))

noncomputable def f270_1 (n : Nat) (F : Fns) (v19 : AV) (x1 : AV) (x2 : AV) (x3 : AV) (x4 : AV) (x5 : AV) (x6 : AV) (x7 : AV) (x8 : AV) (x9 : AV) (x10 : AV) (x11 : AV) (x12 : AV) (h18 : Heap) (a1 : AV) (x15 : AV) : R :=
 asB v19 fun b20 => cond b20
 (asB v19 fun b21 => cond b21
 (some (.ret (.agg [x1, x2, x3, x4, x5, x6, x7, x8, x9, x10, x11, x12]), h18, none))
 (bindC (F.plain 103 [(.agg [x1, x2, x3, x4, x5, x6, x7, x8, x9, x10, x11, x12])] h18) (fun v22 h23 =>
 asB v22 fun b24 => cond b24
 ((binop .add x11 (.int .i64 1)).bind fun v25 =>
 scal v25 fun v26 =>
 scal a1 fun v27 =>
 some (.ret (.agg [x1, x2, x3, x4, x5, x6, x7, x8, x9, x10, v26, v27]), h23, none))
 ((binop .add x7 (.int .i64 1)).bind fun v28 =>
 scal v28 fun v29 =>
 scal a1 fun v30 =>
 some (.ret (.agg [x1, x2, x3, x4, x5, x6, v29, v30, x9, x10, x11, x12]), h23, none)))
 (fun v31 h32 => some (.panic v31, h32, none))))
 ((binop .geq x15 (.int .i64 8)).bind fun v33 =>
 asB v33 fun b34 => cond b34
 (some (.ret (.agg [x1, x2, x3, x4, x5, x6, x7, x8, x9, x10, x11, x12]), h18, none))
 (bindC (F.plain 103 [(.agg [x1, x2, x3, x4, x5, x6, x7, x8, x9, x10, x11, x12])] h18) (fun v35 h36 =>
 asB v35 fun b37 => cond b37
 ((binop .add x11 (.int .i64 1)).bind fun v38 =>
 scal v38 fun v39 =>
 scal a1 fun v40 =>
 some (.ret (.agg [x1, x2, x3, x4, x5, x6, x7, x8, x9, x10, v39, v40]), h36, none))
 ((binop .add x7 (.int .i64 1)).bind fun v41 =>
 scal v41 fun v42 =>
 scal a1 fun v43 =>
 some (.ret (.agg [x1, x2, x3, x4, x5, x6, v42, v43, x9, x10, x11, x12]), h36, none)))
 (fun v44 h45 => some (.panic v44, h45, none))))
/-- countermand/entry.Try -/
noncomputable def f270 (n : Nat) (F : Fns) (a0 a1 : AV) (h : Heap) : R :=
 unA12 a0 fun x1 x2 x3 x4 x5 x6 x7 x8 x9 x10 x11 x12 =>
 bindC (F.plain 205 [(.agg [x1, x2, x3, x4, x5, x6, x7, x8, x9, x10, x11, x12])] h) (fun v13 h14 =>
 unT2 v13 fun x15 x16 =>
 bindC (F.plain 144 [(.agg [x1, x2, x3, x4, x5, x6, x7, x8, x9, x10, x11, x12])] h14) (fun v17 h18 =>
 (unop .not v17).bind fun v19 =>
 f270_1 n F v19 x1 x2 x3 x4 x5 x6 x7 x8 x9 x10 x11 x12 h18 a1 x15)
 (fun v46 h47 => some (.panic v46, h47, none)))
 (fun v48 h49 => some (.panic v48, h49, none))

/-- countermand/chain.key -/
noncomputable def f271 (n : Nat) (F : Fns) (a0 a1 : AV) (h : Heap) : R :=
 unA4 a0 fun x1 x2 x3 x4 =>
 unA12 a1 fun x5 x6 x7 x8 x9 x10 x11 x12 x13 x14 x15 x16 =>
 bindC (F.plain 103 [(.agg [x5, x6, x7, x8, x9, x10, x11, x12, x13, x14, x15, x16])] h) (fun v17 h18 =>
 scal x5 fun v19 =>
 scal v17 fun v20 =>
 some (.ret (.agg [x1, x2, v19, v20]), h18, none))
 (fun v21 h22 => some (.panic v21, h22, none))

noncomputable def f273_1 (n : Nat) (F : Fns) (v4 : AV) (h3 : Heap) (a0 : AV) (h : Heap) : R :=
 asB v4 fun b5 => cond b5
 (some (.ret (.bool false), h3, none))
 (notNil a0 fun v6 =>
 asPtr v6 fun p7 o8 =>
 (h3.rd p7 (o8 + 0) 1).bind fun l9 =>
 un1 l9 fun x10 =>
 (h3.rd h.next 0 2).bind fun l11 =>
 un2 l11 fun x12 x13 =>
 bindC (F.plain 110 [x10, (.agg [x12, x13])] h3) (fun v14 h15 =>
 (binop .lss v14 (.int .i64 0)).bind fun v16 =>
 asB v16 fun b17 => cond b17
 (some (.ret (.bool false), h15, none))
 (notNil a0 fun v18 =>
 asPtr v18 fun p19 o20 =>
 (h15.rd p19 (o20 + 0) 1).bind fun l21 =>
 un1 l21 fun x22 =>
 bindC (F.plain 265 [x22, (.fn 300 [] [(.ptr (some (h.next, 0)))])] h15) (fun v23 h24 =>
 (unop .not v23).bind fun v25 =>
 some (.ret v25, h24, none))
 (fun v26 h27 => some (.panic v26, h27, none))))
 (fun v28 h29 => some (.panic v28, h29, none)))
/-- (*countermand/tent.Tent).Free -/
noncomputable def f273 (n : Nat) (F : Fns) (a0 a1 : AV) (h : Heap) : R :=
 unA2 a1 fun x1 x2 =>
 let h3 := h.push (.cells [x1, x2] 1)
 (eqop P true false 112 a0 (.ptr none)).bind fun v4 =>
 f273_1 n F v4 h3 a0 h

noncomputable def f274_1 (n : Nat) (F : Fns) (a1 : AV) (a0 : AV) (h : Heap) : R :=
 (binop .lss a1 (.int .i64 0)).bind fun v1 =>
 asB v1 fun b2 => cond b2
 (bindC (F.plain 57 [a0] h) (fun v3 h4 =>
 some (.ret v3, h4, none))
 (fun v5 h6 => some (.panic v5, h6, none)))
 ((lenA P 67 a0).bind fun v7 =>
 (binop .geq a1 v7).bind fun v8 =>
 asB v8 fun b9 => cond b9
 (bindC (F.plain 57 [a0] h) (fun v10 h11 =>
 some (.ret v10, h11, none))
 (fun v12 h13 => some (.panic v12, h13, none)))
 ((sliceA P h 67 a0 none (some a1) none).bind fun v14 =>
 (binop .add a1 (.int .i64 1)).bind fun v15 =>
 (sliceA P h 67 a0 (some v15) none none).bind fun v16 =>
 (opBuildSlice P h 325 2 [(0, v14), (1, v16)]).bind fun r17 =>
 bindC (F.plain 174 [r17.1] r17.2) (fun v18 h19 =>
 some (.ret v18, h19, none))
 (fun v20 h21 => some (.panic v20, h21, none))))
/-- countermand/stamp.Without -/
noncomputable def f274 (n : Nat) (F : Fns) (a0 a1 : AV) (h : Heap) : R :=
 f274_1 n F a1 a0 h

/-- countermand/chain.Ack$1 -/
noncomputable def f275 (n : Nat) (F : Fns) (a0 a1 : AV) (h : Heap) : R :=
 unA12 a0 fun x1 x2 x3 x4 x5 x6 x7 x8 x9 x10 x11 x12 =>
 asPtr a1 fun p13 o14 =>
 (h.rd p13 (o14 + 2) 1).bind fun l15 =>
 un1 l15 fun x16 =>
 (eqop P false false 3 x1 x16).bind fun v17 =>
 some (.ret v17, h, none)

/-- (*countermand/ledger.Ledger).id -/
noncomputable def f276 (n : Nat) (F : Fns) (a0 a1 : AV) (h : Heap) : R :=
 (eqop P true false 101 a0 (.ptr none)).bind fun v1 =>
 asB v1 fun b2 => cond b2
 (some (.ret (.agg [(.int .i64 0), (.int .i64 0)]), h, none))
 (notNil a0 fun v3 =>
 asPtr v3 fun p4 o5 =>
 (h.rd p4 (o5 + 1) 1).bind fun l6 =>
 un1 l6 fun x7 =>
 scal x7 fun v8 =>
 scal a1 fun v9 =>
 some (.ret (.agg [v8, v9]), h, none))

noncomputable def f277_1 (n : Nat) (F : Fns) (v59 : AV) (x19 : AV) (x23 : AV) (h14 : Heap) (self12 : List AV → Heap → R) (x15 : AV) (x17 : AV) (x18 : AV) (x20 : AV) (x21 : AV) (x22 : AV) (x24 : AV) (x25 : AV) (x26 : AV) (x27 : AV) (x35 : AV) (x36 : AV) (x37 : AV) (x38 : AV) (x39 : AV) : R :=
 asB v59 fun b60 => cond b60
 (asI x19 fun i61 =>
 elemP x23 i61 12 fun p62 o63 =>
 (h14.wr p62 (o63 + 9) [(.bool true)]).bind fun h64 =>
 (binop .add x19 (.int .i64 1)).bind fun v65 =>
 self12 [x15, (.bool true), x17, x18, v65, x20, x21, x22, x23, x24, x25, x26, x27] h64)
 (asI x19 fun i66 =>
 elemP x15 i66 5 fun p67 o68 =>
 (h14.rd p67 o68 5).bind fun l69 =>
 un5 l69 fun x70 x71 x72 x73 x74 =>
 (eqop P false true 96 (.agg [x35, x36, x37, x38, x39]) (.agg [x70, x71, x72, x73, x74])).bind fun v75 =>
 asI x19 fun i76 =>
 elemP x23 i76 12 fun p77 o78 =>
 scal v75 fun v79 =>
 (h14.wr p77 (o78 + 9) [v79]).bind fun h80 =>
 (binop .add x19 (.int .i64 1)).bind fun v81 =>
 self12 [x15, v75, x17, x18, v81, x20, x21, x22, x23, x24, x25, x26, x27] h80)
noncomputable def f277_2 (n : Nat) (F : Fns) (x16 : AV) (x19 : AV) (x23 : AV) (h14 : Heap) (self12 : List AV → Heap → R) (x15 : AV) (x17 : AV) (x18 : AV) (x20 : AV) (x21 : AV) (x22 : AV) (x24 : AV) (x25 : AV) (x26 : AV) (x27 : AV) (x43 : AV) (x35 : AV) (x36 : AV) (x37 : AV) (x38 : AV) (x39 : AV) : R :=
 asB x16 fun b46 => cond b46
 (asI x19 fun i47 =>
 elemP x23 i47 12 fun p48 o49 =>
 (h14.wr p48 (o49 + 9) [(.bool true)]).bind fun h50 =>
 (binop .add x19 (.int .i64 1)).bind fun v51 =>
 self12 [x15, (.bool true), x17, x18, v51, x20, x21, x22, x23, x24, x25, x26, x27] h50)
 (asB x43 fun b52 => cond b52
 (asI x19 fun i53 =>
 elemP x23 i53 12 fun p54 o55 =>
 (h14.wr p54 (o55 + 9) [(.bool true)]).bind fun h56 =>
 (binop .add x19 (.int .i64 1)).bind fun v57 =>
 self12 [x15, (.bool true), x17, x18, v57, x20, x21, x22, x23, x24, x25, x26, x27] h56)
 ((lenA P 129 x15).bind fun v58 =>
 (binop .geq x19 v58).bind fun v59 =>
 f277_1 n F v59 x19 x23 h14 self12 x15 x17 x18 x20 x21 x22 x24 x25 x26 x27 x35 x36 x37 x38 x39))
noncomputable def f277_3 (n : Nat) (F : Fns) (x1 : AV) (x2 : AV) (x3 : AV) (x4 : AV) (h : Heap) (a1 : AV) : R :=
 bindC (F.plain 203 [(.agg [x1, x2, x3, x4])] h) (fun v5 h6 =>
 unA4 v5 fun x7 x8 x9 x10 =>
 (lenA P 173 x10).bind fun v11 =>
 loopV (fun vs13 h14 self12 => un13 vs13 fun x15 x16 x17 x18 x19 x20 x21 x22 x23 x24 x25 x26 x27 =>
 (binop .lss x19 x18).bind fun v28 =>
 asB v28 fun b29 => cond b29
 (asI x19 fun i30 =>
 elemP x17 i30 12 fun p31 o32 =>
 (h14.rd p31 o32 12).bind fun l33 =>
 un12 l33 fun x34 x35 x36 x37 x38 x39 x40 x41 x42 x43 x44 x45 =>
 f277_2 n F x16 x19 x23 h14 self12 x15 x17 x18 x20 x21 x22 x24 x25 x26 x27 x43 x35 x36 x37 x38 x39)
 (some (.ret (.agg [x20, x21, x22, x23]), h14, none))) n [a1, (.bool false), x10, v11, (.int .i64 0), x7, x8, x9, x10, (.int .i64 0), (.int .i64 0), (.int .i64 0), .nilSlice] h6)
 (fun v82 h83 => some (.panic v82, h83, none))
/-- countermand/chain.Settle -/
noncomputable def f277 (n : Nat) (F : Fns) (a0 a1 : AV) (h : Heap) : R :=
 unA4 a0 fun x1 x2 x3 x4 =>
 f277_3 n F x1 x2 x3 x4 h a1

/-- countermand/effect.Later -/
noncomputable def f278 (n : Nat) (F : Fns) (a0 : AV) (h : Heap) : R :=
 unA5 a0 fun x1 x2 x3 x4 x5 =>
 bindC (F.plain 62 [x1, (.int .i64 7), (.int .i64 11)] h) (fun v6 h7 =>
 some (.ret v6, h7, none))
 (fun v8 h9 => some (.panic v8, h9, none))

/-- (countermand/image.source).count -/
noncomputable def f279 (n : Nat) (F : Fns) (a0 : AV) (h : Heap) : R :=
 unA1 a0 fun x1 =>
 bindC (F.plain 177 [x1, (.int .i64 1)] h) (fun v2 h3 =>
 unT2 v2 fun x4 x5 =>
 bindC (F.plain 252 [x5] h3) (fun v6 h7 =>
 unT0 v6 fun _u =>
 (convertA P 277 3 x4).bind fun v8 =>
 some (.ret v8, h7, none))
 (fun v9 h10 => some (.panic v9, h10, none)))
 (fun v11 h12 => some (.panic v11, h12, none))

/-- (countermand/image.source).part -/
noncomputable def f280 (n : Nat) (F : Fns) (a0 a1 : AV) (h : Heap) : R :=
 unA1 a0 fun x1 =>
 bindC (F.plain 179 [x1, a1] h) (fun v2 h3 =>
 unT2 v2 fun x4 x5 =>
 bindC (F.plain 252 [x5] h3) (fun v6 h7 =>
 unT0 v6 fun _u =>
 some (.ret x4, h7, none))
 (fun v8 h9 => some (.panic v8, h9, none)))
 (fun v10 h11 => some (.panic v10, h11, none))

noncomputable def f281_1 (n : Nat) (F : Fns) (v5 : AV) (h6 : Heap) (x1 : AV) (x2 : AV) (x3 : AV) (x4 : AV) : R :=
 (eqop P true false 338 v5 (.ptr none)).bind fun v7 =>
 asB v7 fun b8 => cond b8
 (some (.ret (.bool false), h6, none))
 (bindC (F.plain 301 [(.agg [x1, x2, x3, x4])] h6) (fun v9 h10 =>
 (unop .not v9).bind fun v11 =>
 asB v11 fun b12 => cond b12
 (some (.ret (.bool false), h10, none))
 (notNil v5 fun v13 =>
 asPtr v13 fun p14 o15 =>
 (h10.rd p14 (o15 + 4) 1).bind fun l16 =>
 un1 l16 fun x17 =>
 bindC (F.plain 277 [(.agg [x1, x2, x3, x4]), x17] h10) (fun v18 h19 =>
 notNil v5 fun v20 =>
 asPtr v20 fun p21 o22 =>
 unA4 v18 fun x23 x24 x25 x26 =>
 (h19.wr p21 (o22 + 0) [x23, x24, x25, x26]).bind fun h27 =>
 some (.ret (.bool true), h27, none))
 (fun v28 h29 => some (.panic v28, h29, none))))
 (fun v30 h31 => some (.panic v30, h31, none)))
/-- (*countermand/ledger.Ledger).Load -/
noncomputable def f281 (n : Nat) (F : Fns) (a0 a1 : AV) (h : Heap) : R :=
 unA4 a1 fun x1 x2 x3 x4 =>
 bindC (F.plain 241 [a0, (.agg [x1, x2])] h) (fun v5 h6 =>
 f281_1 n F v5 h6 x1 x2 x3 x4)
 (fun v32 h33 => some (.panic v32, h33, none))

noncomputable def f282_1 (n : Nat) (F : Fns) (v11 : AV) (x22 : AV) (x23 : AV) (x24 : AV) (x25 : AV) (x26 : AV) (v35 : AV) (v36 : AV) (v45 : AV) (v46 : AV) (v37 : AV) (v38 : AV) (h40 : Heap) (a0 : AV) : R :=
 bindC (F.plain 201 [(.agg [v11, x22, x23, x24, x25, x26, v35, v36, v45, v46, v37, v38])] h40) (fun v47 h48 =>
 (cellsOf P h48 5 v47).bind fun l49 =>
 (bytesA l49).bind fun bs50 =>
 (cellsOf P h48 5 a0).bind fun l51 =>
 same (cellsOf P h40 5 a0) l51
 ((bytesA l51).bind fun bs52 =>
 (eqop P false true 9 (.str ⟨bs50.toArray⟩) (.str ⟨bs52.toArray⟩)).bind fun v53 =>
 asB v53 fun b54 => cond b54
 (some (.ret (.tup [(.agg [(.int .i64 0), (.int .i64 0), (.int .i64 0), (.int .i64 0), (.int .i64 0), (.int .i64 0), (.int .i64 0), (.int .i64 0), (.bool false), (.bool false), (.int .i64 0), (.int .i64 0)]), (.bool false)]), h48, none))
 (some (.ret (.tup [(.agg [v11, x22, x23, x24, x25, x26, v35, v36, v45, v46, v37, v38]), (.bool true)]), h48, none))))
 (fun v55 h56 => none)
noncomputable def f282_2 (n : Nat) (F : Fns) (h5 : Heap) (h30 : Heap) (v27 : AV) (v29 : AV) (v11 : AV) (x22 : AV) (x23 : AV) (x24 : AV) (x25 : AV) (x26 : AV) (a0 : AV) : R :=
 bindC (F.plain 302 [(.int .i64 1), (.ptr (some (h5.next, 0)))] h30) (fun v31 h32 =>
 bindC (F.plain 302 [(.int .i64 4), (.ptr (some (h5.next, 0)))] h32) (fun v33 h34 =>
 scal v27 fun v35 =>
 scal v29 fun v36 =>
 scal v31 fun v37 =>
 scal v33 fun v38 =>
 bindC (F.plain 302 [(.int .i64 1), (.ptr (some (h5.next, 0)))] h34) (fun v39 h40 =>
 (binop .and v39 (.int .i64 1)).bind fun v41 =>
 (eqop P true true 3 v41 (.int .i64 0)).bind fun v42 =>
 (binop .and v39 (.int .i64 2)).bind fun v43 =>
 (eqop P true true 3 v43 (.int .i64 0)).bind fun v44 =>
 scal v42 fun v45 =>
 scal v44 fun v46 =>
 f282_1 n F v11 x22 x23 x24 x25 x26 v35 v36 v45 v46 v37 v38 h40 a0)
 (fun v57 h58 => some (.panic v57, h58, none)))
 (fun v59 h60 => some (.panic v59, h60, none)))
 (fun v61 h62 => some (.panic v61, h62, none))
noncomputable def f282_3 (n : Nat) (F : Fns) (h5 : Heap) (h8 : Heap) (a0 : AV) : R :=
 bindC (F.plain 302 [(.int .i64 1), (.ptr (some (h5.next, 0)))] h8) (fun v9 h10 =>
 scal v9 fun v11 =>
 (h10.rd h5.next 0 1).bind fun l12 =>
 un1 l12 fun x13 =>
 bindC (F.plain 179 [x13, (.int .i64 13)] h10) (fun v14 h15 =>
 unT2 v14 fun x16 x17 =>
 bindC (F.plain 185 [x16] h15) (fun v18 h19 =>
 unT2 v18 fun x20 x21 =>
 unA5 x20 fun x22 x23 x24 x25 x26 =>
 bindC (F.plain 302 [(.int .i64 1), (.ptr (some (h5.next, 0)))] h19) (fun v27 h28 =>
 bindC (F.plain 302 [(.int .i64 4), (.ptr (some (h5.next, 0)))] h28) (fun v29 h30 =>
 f282_2 n F h5 h30 v27 v29 v11 x22 x23 x24 x25 x26 a0)
 (fun v63 h64 => some (.panic v63, h64, none)))
 (fun v65 h66 => some (.panic v65, h66, none)))
 (fun v67 h68 => some (.panic v67, h68, none)))
 (fun v69 h70 => some (.panic v69, h70, none)))
 (fun v71 h72 => some (.panic v71, h72, none))
/-- countermand/entry.Get -/
noncomputable def f282 (n : Nat) (F : Fns) (a0 : AV) (h : Heap) : R :=
 (lenA P 155 a0).bind fun v1 =>
 (eqop P true true 3 v1 (.int .i64 27)).bind fun v2 =>
 asB v2 fun b3 => cond b3
 (some (.ret (.tup [(.agg [(.int .i64 0), (.int .i64 0), (.int .i64 0), (.int .i64 0), (.int .i64 0), (.int .i64 0), (.int .i64 0), (.int .i64 0), (.bool false), (.bool false), (.int .i64 0), (.int .i64 0)]), (.bool false)]), h, none))
 (bindC (F.plain 127 [a0] h) (fun v4 h5 =>
 let h6 := h5.push (.cells [(.ptr none)] 1)
 scal v4 fun v7 =>
 (h6.wr h5.next 0 [v7]).bind fun h8 =>
 f282_3 n F h5 h8 a0)
 (fun v73 h74 => some (.panic v73, h74, none)))

/-- countermand/booking.ask -/
noncomputable def f283 (n : Nat) (F : Fns) (a0 a1 : AV) (h : Heap) : R :=
 (unop .not a0).bind fun v1 =>
 asB v1 fun b2 => cond b2
 (scal a1 fun v3 =>
 some (.panic (.iface 357 (.agg [v3])), h, none))
 (some (.ret (.tup []), h, none))

/-- (*countermand/booking.work).must -/
noncomputable def f284 (n : Nat) (F : Fns) (a0 a1 a2 : AV) (h : Heap) : R :=
 unA25 a1 fun x1 x2 x3 x4 x5 x6 x7 x8 x9 x10 x11 x12 x13 x14 x15 x16 x17 x18 x19 x20 x21 x22 x23 x24 x25 =>
 (eqop P true true 41 a2 (.int .i64 0)).bind fun v26 =>
 asB v26 fun b27 => cond b27
 (scal a2 fun v28 =>
 some (.panic (.iface 357 (.agg [v28])), h, none))
 (notNil a0 fun v29 =>
 asPtr v29 fun p30 o31 =>
 (h.wr p30 (o31 + 0) [x1, x2, x3, x4, x5, x6, x7, x8, x9, x10, x11, x12, x13, x14, x15, x16, x17, x18, x19, x20, x21, x22, x23, x24, x25]).bind fun h32 =>
 some (.ret (.tup []), h32, none))

noncomputable def f285_1 (n : Nat) (F : Fns) (v40 : AV) (h35 : Heap) (a1 : AV) (x36 : AV) (x1 : AV) (x2 : AV) (x3 : AV) (x4 : AV) (x5 : AV) (x6 : AV) (x7 : AV) (x8 : AV) (x9 : AV) (x10 : AV) (x11 : AV) (x12 : AV) (x13 : AV) (x14 : AV) (x15 : AV) (x16 : AV) (x17 : AV) (x18 : AV) (x19 : AV) (x20 : AV) (x21 : AV) (x22 : AV) (x23 : AV) (x24 : AV) (x25 : AV) : R :=
 asB v40 fun b41 => cond b41
 (some (.ret (.tup [(.agg [(.int .i64 0), (.int .i64 0), (.int .i64 0), (.int .i64 0), (.int .i64 0), (.int .i64 0), (.int .i64 0), (.int .i64 0), (.int .i64 0), (.int .i64 0), (.int .i64 0), (.int .i64 0), (.int .i64 0), (.int .i64 0), (.int .i64 0), (.int .i64 0), (.int .i64 0), (.int .i64 0), (.int .i64 0), (.int .i64 0), (.int .i64 0), (.int .i64 0), (.int .i64 0), (.int .i64 0), .nilSlice]), (.int .i64 7)]), h35, none))
 (asI a1 fun i42 =>
 inArr i42 8 fun j43 =>
 scal x36 fun v44 =>
 (lay? [x1, x2, x3, x4, x5, x6, x7, x8, x9, x10, x11, x12, x13, x14, x15, x16, x17, x18, x19, x20, x21, x22, x23, x24, x25] (0 + j43 * 1) [v44]).bind fun l45 =>
 un25 l45 fun x46 x47 x48 x49 x50 x51 x52 x53 x54 x55 x56 x57 x58 x59 x60 x61 x62 x63 x64 x65 x66 x67 x68 x69 x70 =>
 some (.ret (.tup [(.agg [x46, x47, x48, x49, x50, x51, x52, x53, x54, x55, x56, x57, x58, x59, x60, x61, x62, x63, x64, x65, x66, x67, x68, x69, x70]), (.int .i64 0)]), h35, none))
noncomputable def f285_2 (n : Nat) (F : Fns) (x33 : AV) (a2 : AV) (h27 : Heap) (a1 : AV) (x1 : AV) (x2 : AV) (x3 : AV) (x4 : AV) (x5 : AV) (x6 : AV) (x7 : AV) (x8 : AV) (x9 : AV) (x10 : AV) (x11 : AV) (x12 : AV) (x13 : AV) (x14 : AV) (x15 : AV) (x16 : AV) (x17 : AV) (x18 : AV) (x19 : AV) (x20 : AV) (x21 : AV) (x22 : AV) (x23 : AV) (x24 : AV) (x25 : AV) : R :=
 bindC (F.plain 304 [x33, a2] h27) (fun v34 h35 =>
 unT2 v34 fun x36 x37 =>
 (unop .not x37).bind fun v38 =>
 asB v38 fun b39 => cond b39
 (some (.ret (.tup [(.agg [(.int .i64 0), (.int .i64 0), (.int .i64 0), (.int .i64 0), (.int .i64 0), (.int .i64 0), (.int .i64 0), (.int .i64 0), (.int .i64 0), (.int .i64 0), (.int .i64 0), (.int .i64 0), (.int .i64 0), (.int .i64 0), (.int .i64 0), (.int .i64 0), (.int .i64 0), (.int .i64 0), (.int .i64 0), (.int .i64 0), (.int .i64 0), (.int .i64 0), (.int .i64 0), (.int .i64 0), .nilSlice]), (.int .i64 7)]), h35, none))
 ((binop .gtr x36 (.int .i64 1099511627776)).bind fun v40 =>
 f285_1 n F v40 h35 a1 x36 x1 x2 x3 x4 x5 x6 x7 x8 x9 x10 x11 x12 x13 x14 x15 x16 x17 x18 x19 x20 x21 x22 x23 x24 x25))
 (fun v71 h72 => some (.panic v71, h72, none))
noncomputable def f285_3 (n : Nat) (F : Fns) (v28 : AV) (h27 : Heap) (a1 : AV) (x1 : AV) (x2 : AV) (x3 : AV) (x4 : AV) (x5 : AV) (x6 : AV) (x7 : AV) (x8 : AV) (x9 : AV) (x10 : AV) (x11 : AV) (x12 : AV) (x13 : AV) (x14 : AV) (x15 : AV) (x16 : AV) (x17 : AV) (x18 : AV) (x19 : AV) (x20 : AV) (x21 : AV) (x22 : AV) (x23 : AV) (x24 : AV) (x25 : AV) (a2 : AV) : R :=
 asB v28 fun b29 => cond b29
 (some (.ret (.tup [(.agg [(.int .i64 0), (.int .i64 0), (.int .i64 0), (.int .i64 0), (.int .i64 0), (.int .i64 0), (.int .i64 0), (.int .i64 0), (.int .i64 0), (.int .i64 0), (.int .i64 0), (.int .i64 0), (.int .i64 0), (.int .i64 0), (.int .i64 0), (.int .i64 0), (.int .i64 0), (.int .i64 0), (.int .i64 0), (.int .i64 0), (.int .i64 0), (.int .i64 0), (.int .i64 0), (.int .i64 0), .nilSlice]), (.int .i64 4)]), h27, none))
 (asI a1 fun i30 =>
 inArr i30 8 fun j31 =>
 (take? [x1, x2, x3, x4, x5, x6, x7, x8, x9, x10, x11, x12, x13, x14, x15, x16, x17, x18, x19, x20, x21, x22, x23, x24, x25] (0 + j31 * 1) 1).bind fun l32 =>
 un1 l32 fun x33 =>
 f285_2 n F x33 a2 h27 a1 x1 x2 x3 x4 x5 x6 x7 x8 x9 x10 x11 x12 x13 x14 x15 x16 x17 x18 x19 x20 x21 x22 x23 x24 x25)
/-- countermand/shelf.Add -/
noncomputable def f285 (n : Nat) (F : Fns) (a0 a1 a2 : AV) (h : Heap) : R :=
 unA25 a0 fun x1 x2 x3 x4 x5 x6 x7 x8 x9 x10 x11 x12 x13 x14 x15 x16 x17 x18 x19 x20 x21 x22 x23 x24 x25 =>
 bindC (F.plain 303 [a1, a2] h) (fun v26 h27 =>
 (unop .not v26).bind fun v28 =>
 f285_3 n F v28 h27 a1 x1 x2 x3 x4 x5 x6 x7 x8 x9 x10 x11 x12 x13 x14 x15 x16 x17 x18 x19 x20 x21 x22 x23 x24 x25 a2)
 (fun v73 h74 => some (.panic v73, h74, none))
end Go.Proofs.YtahbihcbidkbaaaGreat.Ev

/-
  Printed by mk.py: the equations with the evaluator.
-/
set_option maxRecDepth 100000
set_option maxHeartbeats 4000000
namespace Go.Proofs.YtahbihcbidkbaaaGreat.Ev
open Go
theorem f242_eq (n : Nat) (F : Fns) (a0 a1 a2 : AV) (h : Heap) : callStep cx n F 242 [a0, a1, a2] h none = f242 n F a0 a1 a2 h := by kernel_rfl
theorem f243_eq (n : Nat) (F : Fns) (a0 a1 : AV) (h : Heap) : callStep cx n F 243 [a0, a1] h none = f243 n F a0 a1 h := by kernel_rfl
theorem f244_eq (n : Nat) (F : Fns) (a0 a1 a2 : AV) (h : Heap) : callStep cx n F 244 [a0, a1, a2] h none = f244 n F a0 a1 a2 h := by kernel_rfl
theorem f245_eq (n : Nat) (F : Fns) (a0 a1 : AV) (h : Heap) : callStep cx n F 245 [a0, a1] h none = f245 n F a0 a1 h := by kernel_rfl
theorem f246_eq (n : Nat) (F : Fns) (a0 : AV) (h : Heap) : callStep cx n F 246 [a0] h none = f246 n F a0 h := by kernel_rfl
theorem f247_eq (n : Nat) (F : Fns) (a0 : AV) (h : Heap) : callStep cx n F 247 [a0] h none = f247 n F a0 h := by kernel_rfl
theorem f248_eq (n : Nat) (F : Fns) (a0 : AV) (h : Heap) : callStep cx n F 248 [a0] h none = f248 n F a0 h := by kernel_rfl
theorem f249_eq (n : Nat) (F : Fns) (a0 : AV) (h : Heap) : callStep cx n F 249 [a0] h none = f249 n F a0 h := by kernel_rfl
theorem f250_eq (n : Nat) (F : Fns) (a0 a1 a2 : AV) (h : Heap) : callStep cx n F 250 [a0, a1, a2] h none = f250 n F a0 a1 a2 h := by kernel_rfl
theorem f251_eq (n : Nat) (F : Fns) (a0 : AV) (h : Heap) : callStep cx n F 251 [a0] h none = f251 n F a0 h := by kernel_rfl
theorem f252_eq (n : Nat) (F : Fns) (a0 : AV) (h : Heap) : callStep cx n F 252 [a0] h none = f252 n F a0 h := by kernel_rfl
theorem f253_eq (n : Nat) (F : Fns) (a0 a1 : AV) (h : Heap) : callStep cx n F 253 [a0, a1] h none = f253 n F a0 a1 h := by kernel_rfl
theorem f254_eq (n : Nat) (F : Fns) (a0 a1 : AV) (h : Heap) : callStep cx n F 254 [a0, a1] h none = f254 n F a0 a1 h := by kernel_rfl
theorem f255_eq (n : Nat) (F : Fns) (a0 a1 : AV) (h : Heap) : callStep cx n F 255 [a0, a1] h none = f255 n F a0 a1 h := by kernel_rfl
theorem f256_eq (n : Nat) (F : Fns) (a0 a1 a2 : AV) (h : Heap) : callStep cx n F 256 [a0, a1, a2] h none = f256 n F a0 a1 a2 h := by kernel_rfl
theorem f257_eq (n : Nat) (F : Fns) (a0 : AV) (h : Heap) : callStep cx n F 257 [a0] h none = f257 n F a0 h := by kernel_rfl
theorem f258_eq (n : Nat) (F : Fns) (a0 a1 a2 : AV) (h : Heap) (rc : Option (Option AV)) : callStep cx n F 258 [a0, a1, a2] h rc = f258 n F a0 a1 a2 h rc := by kernel_rfl
theorem f259_eq (n : Nat) (F : Fns) (a0 a1 : AV) (h : Heap) : callStep cx n F 259 [a0, a1] h none = f259 n F a0 a1 h := by kernel_rfl
theorem f260_eq (n : Nat) (F : Fns) (a0 : AV) (h : Heap) : callStep cx n F 260 [a0] h none = f260 n F a0 h := by kernel_rfl
theorem f261_eq (n : Nat) (F : Fns) (a0 a1 : AV) (h : Heap) : callStep cx n F 261 [a0, a1] h none = f261 n F a0 a1 h := by kernel_rfl
theorem f262_eq (n : Nat) (F : Fns) (a0 : AV) (h : Heap) : callStep cx n F 262 [a0] h none = f262 n F a0 h := by kernel_rfl
theorem f263_eq (n : Nat) (F : Fns) (a0 a1 : AV) (h : Heap) : callStep cx n F 263 [a0, a1] h none = f263 n F a0 a1 h := by kernel_rfl
theorem f264_eq (n : Nat) (F : Fns) (a0 : AV) (h : Heap) : callStep cx n F 264 [a0] h none = f264 n F a0 h := by kernel_rfl
theorem f265_eq (n : Nat) (F : Fns) (a0 a1 : AV) (h : Heap) : callStep cx n F 265 [a0, a1] h none = f265 n F a0 a1 h := by kernel_rfl
theorem f266_eq (n : Nat) (F : Fns) (a0 : AV) (h : Heap) : callStep cx n F 266 [a0] h none = f266 n F a0 h := by kernel_rfl
theorem f267_eq (n : Nat) (F : Fns) (a0 : AV) (h : Heap) : callStep cx n F 267 [a0] h none = f267 n F a0 h := by kernel_rfl
theorem f268_eq (n : Nat) (F : Fns) (a0 a1 : AV) (h : Heap) : callStep cx n F 268 [a0, a1] h none = f268 n F a0 a1 h := by kernel_rfl
theorem f269_eq (n : Nat) (F : Fns) (a0 a1 a2 : AV) (h : Heap) : callStep cx n F 269 [a0, a1, a2] h none = f269 n F a0 a1 a2 h := by kernel_rfl
theorem f270_eq (n : Nat) (F : Fns) (a0 a1 : AV) (h : Heap) : callStep cx n F 270 [a0, a1] h none = f270 n F a0 a1 h := by kernel_rfl
theorem f271_eq (n : Nat) (F : Fns) (a0 a1 : AV) (h : Heap) : callStep cx n F 271 [a0, a1] h none = f271 n F a0 a1 h := by kernel_rfl
theorem f273_eq (n : Nat) (F : Fns) (a0 a1 : AV) (h : Heap) : callStep cx n F 273 [a0, a1] h none = f273 n F a0 a1 h := by kernel_rfl
theorem f274_eq (n : Nat) (F : Fns) (a0 a1 : AV) (h : Heap) : callStep cx n F 274 [a0, a1] h none = f274 n F a0 a1 h := by kernel_rfl
theorem f275_eq (n : Nat) (F : Fns) (a0 a1 : AV) (h : Heap) : callStep cx n F 275 [a0, a1] h none = f275 n F a0 a1 h := by kernel_rfl
theorem f276_eq (n : Nat) (F : Fns) (a0 a1 : AV) (h : Heap) : callStep cx n F 276 [a0, a1] h none = f276 n F a0 a1 h := by kernel_rfl
theorem f277_eq (n : Nat) (F : Fns) (a0 a1 : AV) (h : Heap) : callStep cx n F 277 [a0, a1] h none = f277 n F a0 a1 h := by kernel_rfl
theorem f278_eq (n : Nat) (F : Fns) (a0 : AV) (h : Heap) : callStep cx n F 278 [a0] h none = f278 n F a0 h := by kernel_rfl
theorem f279_eq (n : Nat) (F : Fns) (a0 : AV) (h : Heap) : callStep cx n F 279 [a0] h none = f279 n F a0 h := by kernel_rfl
theorem f280_eq (n : Nat) (F : Fns) (a0 a1 : AV) (h : Heap) : callStep cx n F 280 [a0, a1] h none = f280 n F a0 a1 h := by kernel_rfl
theorem f281_eq (n : Nat) (F : Fns) (a0 a1 : AV) (h : Heap) : callStep cx n F 281 [a0, a1] h none = f281 n F a0 a1 h := by kernel_rfl
theorem f282_eq (n : Nat) (F : Fns) (a0 : AV) (h : Heap) : callStep cx n F 282 [a0] h none = f282 n F a0 h := by kernel_rfl
theorem f283_eq (n : Nat) (F : Fns) (a0 a1 : AV) (h : Heap) : callStep cx n F 283 [a0, a1] h none = f283 n F a0 a1 h := by kernel_rfl
theorem f284_eq (n : Nat) (F : Fns) (a0 a1 a2 : AV) (h : Heap) : callStep cx n F 284 [a0, a1, a2] h none = f284 n F a0 a1 a2 h := by kernel_rfl
theorem f285_eq (n : Nat) (F : Fns) (a0 a1 a2 : AV) (h : Heap) : callStep cx n F 285 [a0, a1, a2] h none = f285 n F a0 a1 a2 h := by kernel_rfl
end Go.Proofs.YtahbihcbidkbaaaGreat.Ev
