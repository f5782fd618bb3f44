/-
  Printed by mk.py: the functions as the evaluator has them.
-/
import Derived.Test.YtahbihcbidkbaaaGreatJt
import Derived.KernelRfl
set_option linter.unusedVariables false
set_option maxRecDepth 100000
namespace Go.Proofs.YtahbihcbidkbaaaGreat.Ev
open Go
/-- gosem.cut.init -/
noncomputable def f2 (n : Nat) (F : Fns) (h : Heap) : R :=
 bindC (F.plain 1 [] h) (fun v1 h2 =>
 unT0 v1 fun _u =>
 some (.ret (.tup []), h2, none))
 (fun v3 h4 => some (.panic v3, h4, none))

noncomputable def f3_1 (n : Nat) (F : Fns) (v41 : AV) (h2 : Heap) (h40 : Heap) : R :=
 asB v41 fun b42 => cond b42
 (bindC (F.plain 7 [(.ptr (some (h2.next, 0)))] h40) (fun v43 h44 =>
 (unop .not v43).bind fun v45 =>
 asB v45 fun b46 => cond b46
 (bindC (F.plain 8 [(.ptr (some (h2.next, 0)))] h44) (fun v47 h48 =>
 (unop .not v47).bind fun v49 =>
 asB v49 fun b50 => cond b50
 (bindC (F.plain 9 [(.ptr (some (h2.next, 0)))] h48) (fun v51 h52 =>
 (lenA P 38 v51).bind fun v53 =>
 (eqop P true false 3 v53 (.int .i64 0)).bind fun v54 =>
 some (.ret v54, h52, none))
 (fun v55 h56 => some (.panic v55, h56, none)))
 (some (.ret (.bool false), h48, none)))
 (fun v57 h58 => some (.panic v57, h58, none)))
 (some (.ret (.bool false), h44, none)))
 (fun v59 h60 => some (.panic v59, h60, none)))
 (some (.ret (.bool false), h40, none))
noncomputable def f3_2 (n : Nat) (F : Fns) (v28 : AV) (h27 : Heap) (h2 : Heap) : R :=
 asB v28 fun b29 => cond b29
 (bindC (F.plain 8 [(.ptr none)] h27) (fun v30 h31 =>
 (unop .not v30).bind fun v32 =>
 asB v32 fun b33 => cond b33
 (bindC (F.plain 9 [(.ptr none)] h31) (fun v34 h35 =>
 (lenA P 38 v34).bind fun v36 =>
 (eqop P true false 3 v36 (.int .i64 0)).bind fun v37 =>
 asB v37 fun b38 => cond b38
 (bindC (F.plain 6 [(.ptr (some (h2.next, 0)))] h35) (fun v39 h40 =>
 (eqop P true false 3 v39 (.int .i64 0)).bind fun v41 =>
 f3_1 n F v41 h2 h40)
 (fun v61 h62 => some (.panic v61, h62, none)))
 (some (.ret (.bool false), h35, none)))
 (fun v63 h64 => some (.panic v63, h64, none)))
 (some (.ret (.bool false), h31, none)))
 (fun v65 h66 => some (.panic v65, h66, none)))
 (some (.ret (.bool false), h27, none))
noncomputable def f3_3 (n : Nat) (F : Fns) (x9 : AV) (x12 : AV) (x13 : AV) (h11 : Heap) (h2 : Heap) : R :=
 (unop .not x9).bind fun v16 =>
 asB v16 fun b17 => cond b17
 ((eqop P true false 3 x12 (.int .i64 0)).bind fun v18 =>
 asB v18 fun b19 => cond b19
 ((unop .not x13).bind fun v20 =>
 asB v20 fun b21 => cond b21
 (bindC (F.plain 6 [(.ptr none)] h11) (fun v22 h23 =>
 (eqop P true false 3 v22 (.int .i64 0)).bind fun v24 =>
 asB v24 fun b25 => cond b25
 (bindC (F.plain 7 [(.ptr none)] h23) (fun v26 h27 =>
 (unop .not v26).bind fun v28 =>
 f3_2 n F v28 h27 h2)
 (fun v67 h68 => some (.panic v67, h68, none)))
 (some (.ret (.bool false), h23, none)))
 (fun v69 h70 => some (.panic v69, h70, none)))
 (some (.ret (.bool false), h11, none)))
 (some (.ret (.bool false), h11, none)))
 (some (.ret (.bool false), h11, none))
noncomputable def f3_4 (n : Nat) (F : Fns) (h : Heap) (a0 : AV) : R :=
 bindC (F.plain 4 [] h) (fun v1 h2 =>
 (unop .not v1).bind fun v3 =>
 asB v3 fun b4 => cond b4
 (some (.ret (.bool false), h2, none))
 (let h5 := h2.push (.cells [(.ptr none), (.ptr none), (.int .i64 0), .nilSlice, (.int .i64 0), (.int .i64 0), (.int .i64 0), (.int .i64 0), (.int .i64 0), .nilSlice, (.int .i64 0)] 1)
 bindC (F.plain 5 [(.ptr none), a0] h5) (fun v6 h7 =>
 unT2 v6 fun x8 x9 =>
 bindC (F.plain 5 [(.ptr (some (h2.next, 0))), a0] h7) (fun v10 h11 =>
 unT2 v10 fun x12 x13 =>
 (eqop P true false 3 x8 (.int .i64 0)).bind fun v14 =>
 asB v14 fun b15 => cond b15
 (f3_3 n F x9 x12 x13 h11 h2)
 (some (.ret (.bool false), h11, none)))
 (fun v71 h72 => some (.panic v71, h72, none)))
 (fun v73 h74 => some (.panic v73, h74, none))))
 (fun v75 h76 => some (.panic v75, h76, none))
/-- countermand/countermandlaw36.SettleNobody -/
noncomputable def f3 (n : Nat) (F : Fns) (a0 : AV) (h : Heap) : R :=
 f3_4 n F h a0

noncomputable def f4_1 (n : Nat) (F : Fns) (x3 : AV) (h16 : Heap) : R :=
 bindC (F.plain 8 [x3] h16) (fun v27 h28 =>
 asB v27 fun b29 => cond b29
 (bindC (F.plain 12 [x3] h28) (fun v30 h31 =>
 bindC (F.plain 13 [v30] h31) (fun v32 h33 =>
 (lenA P 53 v32).bind fun v34 =>
 (eqop P true false 3 v34 (.int .i64 1)).bind fun v35 =>
 asB v35 fun b36 => cond b36
 (bindC (F.plain 9 [x3] h33) (fun v37 h38 =>
 (lenA P 38 v37).bind fun v39 =>
 (eqop P true false 3 v39 (.int .i64 0)).bind fun v40 =>
 some (.ret v40, h38, none))
 (fun v41 h42 => some (.panic v41, h42, none)))
 (some (.ret (.bool false), h33, none)))
 (fun v43 h44 => some (.panic v43, h44, none)))
 (fun v45 h46 => some (.panic v45, h46, none)))
 (some (.ret (.bool false), h28, none)))
 (fun v47 h48 => some (.panic v47, h48, none))
noncomputable def f4_2 (n : Nat) (F : Fns) (x3 : AV) (h8 : Heap) : R :=
 bindC (F.plain 11 [x3, (.agg [(.int .i64 1), (.int .i64 1), (.int .i64 0), (.int .i64 0), (.int .i64 0), (.int .i64 0), (.int .i64 0), (.int .i64 2), (.int .i64 1), (.int .i64 0), (.int .i64 4), (.int .i64 0), (.int .i64 0)])] h8) (fun v11 h12 =>
 bindC (F.plain 8 [x3] h12) (fun v13 h14 =>
 bindC (F.plain 5 [x3, (.int .i64 40)] h14) (fun v15 h16 =>
 unT2 v15 fun x17 x18 =>
 (unop .not v13).bind fun v19 =>
 asB v19 fun b20 => cond b20
 ((binop .gtr x17 (.int .i64 0)).bind fun v21 =>
 asB v21 fun b22 => cond b22
 ((binop .lss x17 (.int .i64 20)).bind fun v23 =>
 asB v23 fun b24 => cond b24
 ((unop .not x18).bind fun v25 =>
 asB v25 fun b26 => cond b26
 (f4_1 n F x3 h16)
 (some (.ret (.bool false), h16, none)))
 (some (.ret (.bool false), h16, none)))
 (some (.ret (.bool false), h16, none)))
 (some (.ret (.bool false), h16, none)))
 (fun v49 h50 => some (.panic v49, h50, none)))
 (fun v51 h52 => some (.panic v51, h52, none)))
 (fun v53 h54 => some (.panic v53, h54, none))
/-- countermand/countermandlaw36.alive -/
noncomputable def f4 (n : Nat) (F : Fns) (h : Heap) : R :=
 bindC (F.plain 10 [(.agg [(.int .i64 2), (.int .i64 20), (.int .i64 3), (.int .i64 1), (.int .i64 1)])] h) (fun v1 h2 =>
 unT2 v1 fun x3 x4 =>
 (eqop P true true 41 x4 (.int .i64 0)).bind fun v5 =>
 asB v5 fun b6 => cond b6
 (some (.ret (.bool false), h2, none))
 (bindC (F.plain 8 [x3] h2) (fun v7 h8 =>
 (unop .not v7).bind fun v9 =>
 asB v9 fun b10 => cond b10
 (some (.ret (.bool false), h8, none))
 (f4_2 n F x3 h8))
 (fun v55 h56 => some (.panic v55, h56, none))))
 (fun v57 h58 => some (.panic v57, h58, none))

noncomputable def f5_1 (n : Nat) (F : Fns) (x19 : AV) (h18 : Heap) (x23 : AV) (x21 : AV) (self16 : List AV → Heap → R) (x20 : AV) (x22 : AV) : R :=
 bindC (F.plain 18 [x19] h18) (fun v26 h27 =>
 (fieldA P 30 v26 0).bind fun v28 =>
 (eqop P true false 3 v28 (.int .i64 0)).bind fun v29 =>
 asB v29 fun b30 => cond b30
 (some (.ret (.tup [x23, x21]), h27, none))
 (bindC (F.plain 8 [x19] h27) (fun v31 h32 =>
 asB v31 fun b33 => cond b33
 (some (.ret (.tup [x23, x21]), h32, none))
 (bindC (F.plain 7 [x19] h32) (fun v34 h35 =>
 asB v34 fun b36 => cond b36
 ((binop .add x23 (.int .i64 1)).bind fun v37 =>
 self16 [x19, x20, (.bool true), x22, v37] h35)
 ((binop .add x23 (.int .i64 1)).bind fun v38 =>
 self16 [x19, x20, x21, x22, v38] h35))
 (fun v39 h40 => some (.panic v39, h40, none))))
 (fun v41 h42 => some (.panic v41, h42, none))))
 (fun v43 h44 => some (.panic v43, h44, none))
noncomputable def f5_2 (n : Nat) (F : Fns) (h9 : Heap) (h : Heap) (a1 : AV) (a0 : AV) : R :=
 bindC (F.plain 16 [(.int .i64 13)] h9) (fun v10 h11 =>
 bindC (F.plain 15 [(.ptr (some (h.next, 0))), (.int .i64 0), v10] h11) (fun v12 h13 =>
 unT0 v12 fun _u =>
 bindC (F.plain 17 [a1, (.int .i64 0), (.int .i64 100)] h13) (fun v14 h15 =>
 loopV (fun vs17 h18 self16 => un5 vs17 fun x19 x20 x21 x22 x23 =>
 (binop .lss x23 x22).bind fun v24 =>
 asB v24 fun b25 => cond b25
 (f5_1 n F x19 h18 x23 x21 self16 x20 x22)
 (bindC (F.plain 17 [x20, (.int .i64 0), (.int .i64 100)] h18) (fun v45 h46 =>
 some (.ret (.tup [v45, x21]), h46, none))
 (fun v47 h48 => some (.panic v47, h48, none)))) n [a0, a1, (.bool false), v14, (.int .i64 0)] h15)
 (fun v49 h50 => some (.panic v49, h50, none)))
 (fun v51 h52 => some (.panic v51, h52, none)))
 (fun v53 h54 => some (.panic v53, h54, none))
noncomputable def f5_3 (n : Nat) (F : Fns) (h : Heap) (v1 : AV) (a1 : AV) (a0 : AV) : R :=
 let h2 := h.push (.cells [v1, (.bool false)] 1)
 (opBuildSlice P h2 99 1 [(0, .agg [(.int .i64 11), (.int .i64 0), (.int .i64 0), (.int .i64 0), (.int .i64 0), (.int .i64 0), (.int .i64 0), (.int .i64 0), (.int .i64 0), (.int .i64 0), (.int .i64 0), (.int .i64 0), (.int .i64 0)])]).bind fun r3 =>
 bindC (F.plain 14 [(.ptr (some (h.next, 0))), r3.1] r3.2) (fun v4 h5 =>
 unT0 v4 fun _u =>
 bindC (F.plain 16 [(.int .i64 14)] h5) (fun v6 h7 =>
 bindC (F.plain 15 [(.ptr (some (h.next, 0))), (.int .i64 0), v6] h7) (fun v8 h9 =>
 unT0 v8 fun _u =>
 f5_2 n F h9 h a1 a0)
 (fun v55 h56 => some (.panic v55, h56, none)))
 (fun v57 h58 => some (.panic v57, h58, none)))
 (fun v59 h60 => some (.panic v59, h60, none))
/-- countermand/settle.Fair -/
noncomputable def f5 (n : Nat) (F : Fns) (a0 a1 : AV) (h : Heap) : R :=
 scal a0 fun v1 =>
 f5_3 n F h v1 a1 a0

/-- countermand/settle.Deliver -/
noncomputable def f6 (n : Nat) (F : Fns) (a0 : AV) (h : Heap) : R :=
 scal a0 fun v1 =>
 let h2 := h.push (.cells [v1, (.bool false)] 1)
 bindC (F.plain 19 [(.ptr (some (h.next, 0)))] h2) (fun v3 h4 =>
 some (.ret v3, h4, none))
 (fun v5 h6 => some (.panic v5, h6, none))

noncomputable def f7_1 (n : Nat) (F : Fns) (h : Heap) (h23 : Heap) (a0 : AV) : R :=
 bindC (F.plain 19 [(.ptr (some (h.next, 0)))] h23) (fun v24 h25 =>
 bindC (F.plain 18 [a0] h25) (fun v26 h27 =>
 (fieldA P 30 v26 4).bind fun v28 =>
 scal v28 fun v29 =>
 (opBuildSlice P h27 99 1 [(0, .agg [(.int .i64 6), (.int .i64 0), (.int .i64 0), v29, (.int .i64 0), (.int .i64 0), (.int .i64 0), (.int .i64 0), (.int .i64 0), (.int .i64 0), (.int .i64 0), (.int .i64 0), (.int .i64 0)])]).bind fun r30 =>
 bindC (F.plain 14 [(.ptr (some (h.next, 0))), r30.1] r30.2) (fun v31 h32 =>
 unT0 v31 fun _u =>
 (h32.rd h.next 1 1).bind fun l33 =>
 un1 l33 fun x34 =>
 some (.ret x34, h32, none))
 (fun v35 h36 => some (.panic v35, h36, none)))
 (fun v37 h38 => some (.panic v37, h38, none)))
 (fun v39 h40 => some (.panic v39, h40, none))
noncomputable def f7_2 (n : Nat) (F : Fns) (h12 : Heap) (h : Heap) (a0 : AV) : R :=
 (opBuildSlice P h12 99 1 [(0, .agg [(.int .i64 4), (.int .i64 0), (.int .i64 0), (.int .i64 16), (.int .i64 0), (.int .i64 0), (.int .i64 0), (.int .i64 0), (.int .i64 0), (.int .i64 0), (.int .i64 0), (.int .i64 0), (.int .i64 0)])]).bind fun r13 =>
 bindC (F.plain 14 [(.ptr (some (h.next, 0))), r13.1] r13.2) (fun v14 h15 =>
 unT0 v14 fun _u =>
 bindC (F.plain 15 [(.ptr (some (h.next, 0))), (.int .i64 1), (.fn 21 [] [])] h15) (fun v16 h17 =>
 unT0 v16 fun _u =>
 bindC (F.plain 19 [(.ptr (some (h.next, 0)))] h17) (fun v18 h19 =>
 bindC (F.plain 16 [(.int .i64 5)] h19) (fun v20 h21 =>
 bindC (F.plain 15 [(.ptr (some (h.next, 0))), (.int .i64 0), v20] h21) (fun v22 h23 =>
 unT0 v22 fun _u =>
 f7_1 n F h h23 a0)
 (fun v41 h42 => some (.panic v41, h42, none)))
 (fun v43 h44 => some (.panic v43, h44, none)))
 (fun v45 h46 => some (.panic v45, h46, none)))
 (fun v47 h48 => some (.panic v47, h48, none)))
 (fun v49 h50 => some (.panic v49, h50, none))
noncomputable def f7_3 (n : Nat) (F : Fns) (a0 : AV) (h : Heap) : R :=
 scal a0 fun v1 =>
 let h2 := h.push (.cells [v1, (.bool false)] 1)
 bindC (F.plain 19 [(.ptr (some (h.next, 0)))] h2) (fun v3 h4 =>
 bindC (F.plain 16 [(.int .i64 15)] h4) (fun v5 h6 =>
 bindC (F.plain 15 [(.ptr (some (h.next, 0))), (.int .i64 0), v5] h6) (fun v7 h8 =>
 unT0 v7 fun _u =>
 bindC (F.plain 15 [(.ptr (some (h.next, 0))), (.int .i64 1), (.fn 20 [] [])] h8) (fun v9 h10 =>
 unT0 v9 fun _u =>
 bindC (F.plain 19 [(.ptr (some (h.next, 0)))] h10) (fun v11 h12 =>
 f7_2 n F h12 h a0)
 (fun v51 h52 => some (.panic v51, h52, none)))
 (fun v53 h54 => some (.panic v53, h54, none)))
 (fun v55 h56 => some (.panic v55, h56, none)))
 (fun v57 h58 => some (.panic v57, h58, none)))
 (fun v59 h60 => some (.panic v59, h60, none))
/-- countermand/settle.Round -/
noncomputable def f7 (n : Nat) (F : Fns) (a0 : AV) (h : Heap) : R :=
 f7_3 n F a0 h

noncomputable def f8_1 (n : Nat) (F : Fns) (v31 : AV) (h30 : Heap) (v27 : AV) (x22 : AV) (x24 : AV) (self18 : List AV → Heap → R) (x21 : AV) (x23 : AV) : R :=
 asB v31 fun b32 => cond b32
 (some (.ret (.bool false), h30, none))
 (bindC (F.plain 28 [v27] h30) (fun v33 h34 =>
 (unop .not v33).bind fun v35 =>
 asB v35 fun b36 => cond b36
 (some (.ret (.bool false), h34, none))
 (bindC (F.plain 25 [v27] h34) (fun v37 h38 =>
 bindC (F.plain 26 [v37] h38) (fun v39 h40 =>
 bindC (F.plain 29 [v39, x22] h40) (fun v41 h42 =>
 (unop .not v41).bind fun v43 =>
 asB v43 fun b44 => cond b44
 (some (.ret (.bool false), h42, none))
 ((binop .add x24 (.int .i64 1)).bind fun v45 =>
 self18 [x21, x22, x23, v45] h42))
 (fun v46 h47 => some (.panic v46, h47, none)))
 (fun v48 h49 => some (.panic v48, h49, none)))
 (fun v50 h51 => some (.panic v50, h51, none))))
 (fun v52 h53 => some (.panic v52, h53, none)))
noncomputable def f8_2 (n : Nat) (F : Fns) (a0 : AV) (h9 : Heap) (v3 : AV) : R :=
 bindC (F.plain 24 [a0, (.int .i64 0)] h9) (fun v12 h13 =>
 bindC (F.plain 25 [v12] h13) (fun v14 h15 =>
 bindC (F.plain 26 [v14] h15) (fun v16 h17 =>
 loopV (fun vs19 h20 self18 => un4 vs19 fun x21 x22 x23 x24 =>
 (binop .lss x24 x23).bind fun v25 =>
 asB v25 fun b26 => cond b26
 (bindC (F.plain 24 [x21, x24] h20) (fun v27 h28 =>
 bindC (F.plain 27 [x21, x24] h28) (fun v29 h30 =>
 (unop .not v29).bind fun v31 =>
 f8_1 n F v31 h30 v27 x22 x24 self18 x21 x23)
 (fun v54 h55 => some (.panic v54, h55, none)))
 (fun v56 h57 => some (.panic v56, h57, none)))
 (some (.ret (.bool true), h20, none))) n [a0, v16, v3, (.int .i64 0)] h17)
 (fun v58 h59 => some (.panic v58, h59, none)))
 (fun v60 h61 => some (.panic v60, h61, none)))
 (fun v62 h63 => some (.panic v62, h63, none))
/-- countermand/settle.Quiet -/
noncomputable def f8 (n : Nat) (F : Fns) (a0 : AV) (h : Heap) : R :=
 bindC (F.plain 18 [a0] h) (fun v1 h2 =>
 (fieldA P 30 v1 0).bind fun v3 =>
 (eqop P true false 3 v3 (.int .i64 0)).bind fun v4 =>
 asB v4 fun b5 => cond b5
 (some (.ret (.bool false), h2, none))
 (bindC (F.plain 22 [a0] h2) (fun v6 h7 =>
 bindC (F.plain 23 [v6] h7) (fun v8 h9 =>
 (binop .gtr v8 (.int .i64 0)).bind fun v10 =>
 asB v10 fun b11 => cond b11
 (some (.ret (.bool false), h9, none))
 (f8_2 n F a0 h9 v3))
 (fun v64 h65 => some (.panic v64, h65, none)))
 (fun v66 h67 => some (.panic v66, h67, none))))
 (fun v68 h69 => some (.panic v68, h69, none))

noncomputable def f9_1 (n : Nat) (F : Fns) (v1 : AV) (a0 : AV) (h2 : Heap) : R :=
 (fieldA P 30 v1 0).bind fun v3 =>
 loopV (fun vs5 h6 self4 => un4 vs5 fun x7 x8 x9 x10 =>
 (binop .lss x10 x9).bind fun v11 =>
 asB v11 fun b12 => cond b12
 (bindC (F.plain 24 [x7, x10] h6) (fun v13 h14 =>
 bindC (F.plain 18 [x7] h14) (fun v15 h16 =>
 bindC (F.plain 31 [x7] h16) (fun v17 h18 =>
 bindC (F.plain 30 [v13, v15, v17] h18) (fun v19 h20 =>
 (opAppend P h20 38 38 x8 v19).bind fun r21 =>
 (binop .add x10 (.int .i64 1)).bind fun v22 =>
 self4 [x7, r21.1, x9, v22] r21.2)
 (fun v23 h24 => some (.panic v23, h24, none)))
 (fun v25 h26 => some (.panic v25, h26, none)))
 (fun v27 h28 => some (.panic v27, h28, none)))
 (fun v29 h30 => some (.panic v29, h30, none)))
 (some (.ret x8, h6, none))) n [a0, .nilSlice, v3, (.int .i64 0)] h2
/-- countermand/settle.Dead -/
noncomputable def f9 (n : Nat) (F : Fns) (a0 : AV) (h : Heap) : R :=
 bindC (F.plain 18 [a0] h) (fun v1 h2 =>
 f9_1 n F v1 a0 h2)
 (fun v31 h32 => some (.panic v31, h32, none))

noncomputable def f10_1 (n : Nat) (F : Fns) (h11 : Heap) (x1 : AV) (x2 : AV) (x3 : AV) (x4 : AV) (x5 : AV) (h12 : Heap) : R :=
 loopV (fun vs14 h15 self13 => un8 vs14 fun x16 x17 x18 x19 x20 x21 x22 x23 =>
 (binop .lss x18 x17).bind fun v24 =>
 asB v24 fun b25 => cond b25
 (notNil x16 fun v26 =>
 asPtr v26 fun p27 o28 =>
 (h15.rd p27 (o28 + 9) 1).bind fun l29 =>
 un1 l29 fun x30 =>
 bindC (F.plain 33 [(.agg [x19, x20, x21, x22, x23]), x18] h15) (fun v31 h32 =>
 same (h32.rd p27 (o28 + 9) 1) l29
 (scal v31 fun v33 =>
 (appendA P h32 82 x30 1 [v33]).bind fun r34 =>
 notNil x16 fun v35 =>
 asPtr v35 fun p36 o37 =>
 scal r34.1 fun v38 =>
 (r34.2.wr p36 (o37 + 9) [v38]).bind fun h39 =>
 (binop .add x18 (.int .i64 1)).bind fun v40 =>
 self13 [x16, x17, v40, x19, x20, x21, x22, x23] h39))
 (fun v41 h42 => some (.panic v41, h42, none)))
 (some (.ret (.tup [x16, (.int .i64 0)]), h15, none))) n [(.ptr (some (h11.next, 0))), x1, (.int .i64 0), x1, x2, x3, x4, x5] h12
/-- countermand/world.New -/
noncomputable def f10 (n : Nat) (F : Fns) (a0 : AV) (h : Heap) : R :=
 unA5 a0 fun x1 x2 x3 x4 x5 =>
 bindC (F.plain 32 [(.agg [x1, x2, x3, x4, x5])] h) (fun v6 h7 =>
 (eqop P true true 41 v6 (.int .i64 0)).bind fun v8 =>
 asB v8 fun b9 => cond b9
 (some (.ret (.tup [(.ptr none), v6]), h7, none))
 (let h10 := h7.push (.cells [.nilSlice] 1)
 let h11 := h10.push (.cells [(.map none), .nilSlice, (.int .i64 0)] 1)
 let h12 := h11.push (.cells [(.ptr (some (h7.next, 0))), (.ptr (some (h10.next, 0))), (.int .i64 0), .nilSlice, x1, x2, x3, x4, x5, .nilSlice, (.int .i64 0)] 1)
 f10_1 n F h11 x1 x2 x3 x4 x5 h12))
 (fun v43 h44 => some (.panic v43, h44, none))

noncomputable def f11_1 (n : Nat) (F : Fns) (v131 : AV) (a0 : AV) (x1 : AV) (x2 : AV) (x3 : AV) (x4 : AV) (x5 : AV) (x6 : AV) (x7 : AV) (x8 : AV) (x9 : AV) (x10 : AV) (x11 : AV) (x12 : AV) (x13 : AV) (h37 : Heap) (v36 : AV) : R :=
 asB v131 fun b132 => cond b132
 (asB v131 fun b133 => cond b133
 (bindC (F.plain 45 [a0, (.agg [x1, x2, x3, x4, x5, x6, x7, x8, x9, x10, x11, x12, x13])] h37) (fun v134 h135 =>
 unA3 v134 fun x136 x137 x138 =>
 some (.ret (.agg [x136, x137, x138]), h135, none))
 (fun v139 h140 => some (.panic v139, h140, none)))
 (bindC (F.plain 46 [a0, v36, (.agg [x1, x2, x3, x4, x5, x6, x7, x8, x9, x10, x11, x12, x13])] h37) (fun v141 h142 =>
 unA3 v141 fun x143 x144 x145 =>
 some (.ret (.agg [x143, x144, x145]), h142, none))
 (fun v146 h147 => some (.panic v146, h147, none))))
 ((eqop P true false 3 x1 (.int .i64 10)).bind fun v148 =>
 asB v148 fun b149 => cond b149
 (bindC (F.plain 45 [a0, (.agg [x1, x2, x3, x4, x5, x6, x7, x8, x9, x10, x11, x12, x13])] h37) (fun v150 h151 =>
 unA3 v150 fun x152 x153 x154 =>
 some (.ret (.agg [x152, x153, x154]), h151, none))
 (fun v155 h156 => some (.panic v155, h156, none)))
 (bindC (F.plain 46 [a0, v36, (.agg [x1, x2, x3, x4, x5, x6, x7, x8, x9, x10, x11, x12, x13])] h37) (fun v157 h158 =>
 unA3 v157 fun x159 x160 x161 =>
 some (.ret (.agg [x159, x160, x161]), h158, none))
 (fun v162 h163 => some (.panic v162, h163, none))))
noncomputable def f11_2 (n : Nat) (F : Fns) (v105 : AV) (a0 : AV) (x3 : AV) (h37 : Heap) (x1 : AV) (x2 : AV) (x4 : AV) (x5 : AV) (x6 : AV) (x7 : AV) (x8 : AV) (x9 : AV) (x10 : AV) (x11 : AV) (x12 : AV) (x13 : AV) (v36 : AV) : R :=
 asB v105 fun b106 => cond b106
 (bindC (F.plain 44 [a0, x3] h37) (fun v107 h108 =>
 unA3 v107 fun x109 x110 x111 =>
 some (.ret (.agg [x109, x110, x111]), h108, none))
 (fun v112 h113 => some (.panic v112, h113, none)))
 ((eqop P true false 3 x1 (.int .i64 8)).bind fun v114 =>
 asB v114 fun b115 => cond b115
 (asB v114 fun b116 => cond b116
 (bindC (F.plain 45 [a0, (.agg [x1, x2, x3, x4, x5, x6, x7, x8, x9, x10, x11, x12, x13])] h37) (fun v117 h118 =>
 unA3 v117 fun x119 x120 x121 =>
 some (.ret (.agg [x119, x120, x121]), h118, none))
 (fun v122 h123 => some (.panic v122, h123, none)))
 (bindC (F.plain 46 [a0, v36, (.agg [x1, x2, x3, x4, x5, x6, x7, x8, x9, x10, x11, x12, x13])] h37) (fun v124 h125 =>
 unA3 v124 fun x126 x127 x128 =>
 some (.ret (.agg [x126, x127, x128]), h125, none))
 (fun v129 h130 => some (.panic v129, h130, none))))
 ((eqop P true false 3 x1 (.int .i64 9)).bind fun v131 =>
 f11_1 n F v131 a0 x1 x2 x3 x4 x5 x6 x7 x8 x9 x10 x11 x12 x13 h37 v36))
noncomputable def f11_3 (n : Nat) (F : Fns) (v78 : AV) (a0 : AV) (x4 : AV) (h37 : Heap) (x1 : AV) (v36 : AV) (x2 : AV) (x3 : AV) (x5 : AV) (x6 : AV) (x7 : AV) (x8 : AV) (x9 : AV) (x10 : AV) (x11 : AV) (x12 : AV) (x13 : AV) : R :=
 asB v78 fun b79 => cond b79
 (bindC (F.plain 41 [a0, x4] h37) (fun v80 h81 =>
 unA3 v80 fun x82 x83 x84 =>
 some (.ret (.agg [x82, x83, x84]), h81, none))
 (fun v85 h86 => some (.panic v85, h86, none)))
 ((eqop P true false 3 x1 (.int .i64 5)).bind fun v87 =>
 asB v87 fun b88 => cond b88
 (bindC (F.plain 42 [a0, v36, x2] h37) (fun v89 h90 =>
 unA3 v89 fun x91 x92 x93 =>
 some (.ret (.agg [x91, x92, x93]), h90, none))
 (fun v94 h95 => some (.panic v94, h95, none)))
 ((eqop P true false 3 x1 (.int .i64 6)).bind fun v96 =>
 asB v96 fun b97 => cond b97
 (bindC (F.plain 43 [a0, x4] h37) (fun v98 h99 =>
 unA3 v98 fun x100 x101 x102 =>
 some (.ret (.agg [x100, x101, x102]), h99, none))
 (fun v103 h104 => some (.panic v103, h104, none)))
 ((eqop P true false 3 x1 (.int .i64 7)).bind fun v105 =>
 f11_2 n F v105 a0 x3 h37 x1 x2 x4 x5 x6 x7 x8 x9 x10 x11 x12 x13 v36)))
noncomputable def f11_4 (n : Nat) (F : Fns) (v56 : AV) (v36 : AV) (h37 : Heap) (x1 : AV) (a0 : AV) (x2 : AV) (x3 : AV) (x4 : AV) (x5 : AV) (x6 : AV) (x7 : AV) (x8 : AV) (x9 : AV) (x10 : AV) (x11 : AV) (x12 : AV) (x13 : AV) : R :=
 asB v56 fun b57 => cond b57
 (bindC (F.plain 39 [v36] h37) (fun v58 h59 =>
 bindC (F.plain 35 [v58] h59) (fun v60 h61 =>
 unA3 v60 fun x62 x63 x64 =>
 some (.ret (.agg [x62, x63, x64]), h61, none))
 (fun v65 h66 => some (.panic v65, h66, none)))
 (fun v67 h68 => some (.panic v67, h68, none)))
 ((eqop P true false 3 x1 (.int .i64 3)).bind fun v69 =>
 asB v69 fun b70 => cond b70
 (bindC (F.plain 40 [a0, v36, (.agg [x1, x2, x3, x4, x5, x6, x7, x8, x9, x10, x11, x12, x13])] h37) (fun v71 h72 =>
 unA3 v71 fun x73 x74 x75 =>
 some (.ret (.agg [x73, x74, x75]), h72, none))
 (fun v76 h77 => some (.panic v76, h77, none)))
 ((eqop P true false 3 x1 (.int .i64 4)).bind fun v78 =>
 f11_3 n F v78 a0 x4 h37 x1 v36 x2 x3 x5 x6 x7 x8 x9 x10 x11 x12 x13))
noncomputable def f11_5 (n : Nat) (F : Fns) (a0 : AV) (x2 : AV) (h26 : Heap) (x1 : AV) (x5 : AV) (x6 : AV) (x7 : AV) (x8 : AV) (x9 : AV) (x10 : AV) (x11 : AV) (x12 : AV) (x13 : AV) (x3 : AV) (x4 : AV) : R :=
 bindC (F.plain 37 [a0, x2] h26) (fun v36 h37 =>
 (eqop P true false 82 v36 (.ptr none)).bind fun v38 =>
 asB v38 fun b39 => cond b39
 (bindC (F.plain 35 [(.int .i64 4)] h37) (fun v40 h41 =>
 unA3 v40 fun x42 x43 x44 =>
 some (.ret (.agg [x42, x43, x44]), h41, none))
 (fun v45 h46 => some (.panic v45, h46, none)))
 ((eqop P true false 3 x1 (.int .i64 1)).bind fun v47 =>
 asB v47 fun b48 => cond b48
 (bindC (F.plain 38 [a0, v36, (.agg [x5, x6, x7, x8, x9, x10, x11, x12, x13])] h37) (fun v49 h50 =>
 unA3 v49 fun x51 x52 x53 =>
 some (.ret (.agg [x51, x52, x53]), h50, none))
 (fun v54 h55 => some (.panic v54, h55, none)))
 ((eqop P true false 3 x1 (.int .i64 2)).bind fun v56 =>
 f11_4 n F v56 v36 h37 x1 a0 x2 x3 x4 x5 x6 x7 x8 x9 x10 x11 x12 x13)))
 (fun v164 h165 => some (.panic v164, h165, none))
noncomputable def f11_6 (n : Nat) (F : Fns) (v14 : AV) (h15 : Heap) (x1 : AV) (x2 : AV) (x3 : AV) (x4 : AV) (x5 : AV) (x6 : AV) (x7 : AV) (x8 : AV) (x9 : AV) (x10 : AV) (x11 : AV) (x12 : AV) (x13 : AV) (a0 : AV) : R :=
 (unop .not v14).bind fun v16 =>
 asB v16 fun b17 => cond b17
 (bindC (F.plain 35 [(.int .i64 9)] h15) (fun v18 h19 =>
 unA3 v18 fun x20 x21 x22 =>
 some (.ret (.agg [x20, x21, x22]), h19, none))
 (fun v23 h24 => some (.panic v23, h24, none)))
 (bindC (F.plain 36 [(.agg [x1, x2, x3, x4, x5, x6, x7, x8, x9, x10, x11, x12, x13])] h15) (fun v25 h26 =>
 (eqop P true true 41 v25 (.int .i64 0)).bind fun v27 =>
 asB v27 fun b28 => cond b28
 (bindC (F.plain 35 [v25] h26) (fun v29 h30 =>
 unA3 v29 fun x31 x32 x33 =>
 some (.ret (.agg [x31, x32, x33]), h30, none))
 (fun v34 h35 => some (.panic v34, h35, none)))
 (f11_5 n F a0 x2 h26 x1 x5 x6 x7 x8 x9 x10 x11 x12 x13 x3 x4))
 (fun v166 h167 => some (.panic v166, h167, none)))
/-- (*countermand/world.World).Step -/
noncomputable def f11 (n : Nat) (F : Fns) (a0 a1 : AV) (h : Heap) : R :=
 unA13 a1 fun x1 x2 x3 x4 x5 x6 x7 x8 x9 x10 x11 x12 x13 =>
 bindC (F.plain 34 [a0] h) (fun v14 h15 =>
 f11_6 n F v14 h15 x1 x2 x3 x4 x5 x6 x7 x8 x9 x10 x11 x12 x13 a0)
 (fun v168 h169 => some (.panic v168, h169, none))

/-- (*countermand/world.World).Gate -/
noncomputable def f12 (n : Nat) (F : Fns) (a0 : AV) (h : Heap) : R :=
 bindC (F.plain 34 [a0] h) (fun v1 h2 =>
 (unop .not v1).bind fun v3 =>
 asB v3 fun b4 => cond b4
 (some (.ret (.ptr none), h2, none))
 (notNil a0 fun v5 =>
 asPtr v5 fun p6 o7 =>
 (h2.rd p6 ((o7 + 0) + 1) 1).bind fun l8 =>
 un1 l8 fun x9 =>
 bindC (F.plain 47 [x9] h2) (fun v10 h11 =>
 some (.ret v10, h11, none))
 (fun v12 h13 => some (.panic v12, h13, none))))
 (fun v14 h15 => some (.panic v14, h15, none))

/-- (*countermand/gate.Gate).Applied -/
noncomputable def f13 (n : Nat) (F : Fns) (a0 : AV) (h : Heap) : R :=
 (eqop P true false 25 a0 (.ptr none)).bind fun v1 =>
 asB v1 fun b2 => cond b2
 (some (.ret .nilSlice, h, none))
 (notNil a0 fun v3 =>
 asPtr v3 fun p4 o5 =>
 (h.rd p4 (o5 + 1) 1).bind fun l6 =>
 un1 l6 fun x7 =>
 bindC (F.plain 48 [x7] h) (fun v8 h9 =>
 some (.ret v8, h9, none))
 (fun v10 h11 => some (.panic v10, h11, none)))

noncomputable def f14_1 (n : Nat) (F : Fns) (h4 : Heap) (p29 : Nat) (o30 : Nat) (x15 : AV) (x16 : AV) (x17 : AV) (x18 : AV) (x19 : AV) (x20 : AV) (x21 : AV) (x22 : AV) (x23 : AV) (x24 : AV) (x25 : AV) (x26 : AV) (x27 : AV) (x5 : AV) (x8 : AV) (self2 : List AV → Heap → R) (x6 : AV) (x7 : AV) : R :=
 (h4.rd p29 (o30 + 0) 1).bind fun l31 =>
 un1 l31 fun x32 =>
 bindC (F.plain 11 [x32, (.agg [x15, x16, x17, x18, x19, x20, x21, x22, x23, x24, x25, x26, x27])] h4) (fun v33 h34 =>
 unA3 v33 fun x35 x36 x37 =>
 notNil x5 fun v38 =>
 asPtr v38 fun p39 o40 =>
 (h34.rd p39 (o40 + 1) 1).bind fun l41 =>
 un1 l41 fun x42 =>
 asB x42 fun b43 => cond b43
 (none)
 ((eqop P true true 3 x15 (.int .i64 15)).bind fun v44 =>
 asB v44 fun b45 => cond b45
 ((eqop P true false 41 x35 (.int .i64 10)).bind fun v46 =>
 notNil x5 fun v47 =>
 asPtr v47 fun p48 o49 =>
 scal v46 fun v50 =>
 (h34.wr p48 (o49 + 1) [v50]).bind fun h51 =>
 (binop .add x8 (.int .i64 1)).bind fun v52 =>
 self2 [x5, x6, x7, v52] h51)
 (notNil x5 fun v53 =>
 asPtr v53 fun p54 o55 =>
 (h34.wr p54 (o55 + 1) [(.bool false)]).bind fun h56 =>
 (binop .add x8 (.int .i64 1)).bind fun v57 =>
 self2 [x5, x6, x7, v57] h56)))
 (fun v58 h59 => none)
/-- (*countermand/settle.driver).do -/
noncomputable def f14 (n : Nat) (F : Fns) (a0 a1 : AV) (h : Heap) : R :=
 (lenA P 99 a1).bind fun v1 =>
 loopV (fun vs3 h4 self2 => un4 vs3 fun x5 x6 x7 x8 =>
 (binop .lss x8 x7).bind fun v9 =>
 asB v9 fun b10 => cond b10
 (asI x8 fun i11 =>
 elemP x6 i11 13 fun p12 o13 =>
 (h4.rd p12 o13 13).bind fun l14 =>
 un13 l14 fun x15 x16 x17 x18 x19 x20 x21 x22 x23 x24 x25 x26 x27 =>
 notNil x5 fun v28 =>
 asPtr v28 fun p29 o30 =>
 f14_1 n F h4 p29 o30 x15 x16 x17 x18 x19 x20 x21 x22 x23 x24 x25 x26 x27 x5 x8 self2 x6 x7)
 (some (.ret (.tup []), h4, none))) n [a0, a1, v1, (.int .i64 0)] h

/-- (*countermand/settle.driver).all -/
noncomputable def f15 (n : Nat) (F : Fns) (a0 a1 a2 : AV) (h : Heap) : R :=
 loopV (fun vs2 h3 self1 => un3 vs2 fun x4 x5 x6 =>
 notNil x4 fun v7 =>
 asPtr v7 fun p8 o9 =>
 (h3.rd p8 (o9 + 0) 1).bind fun l10 =>
 un1 l10 fun x11 =>
 bindC (F.plain 18 [x11] h3) (fun v12 h13 =>
 (fieldA P 30 v12 0).bind fun v14 =>
 (binop .lss x6 v14).bind fun v15 =>
 asB v15 fun b16 => cond b16
 (bindC (F.callV x5 [x6] h13) (fun v17 h18 =>
 bindC (F.plain 14 [x4, v17] h18) (fun v19 h20 =>
 unT0 v19 fun _u =>
 (binop .add x6 (.int .i64 1)).bind fun v21 =>
 self1 [x4, x5, v21] h20)
 (fun v22 h23 => some (.panic v22, h23, none)))
 (fun v24 h25 => some (.panic v24, h25, none)))
 (some (.ret (.tup []), h13, none)))
 (fun v26 h27 => some (.panic v26, h27, none))) n [a0, a2, a1] h

/-- countermand/settle.one -/
noncomputable def f16 (n : Nat) (F : Fns) (a0 : AV) (h : Heap) : R :=
 scal a0 fun v1 =>
 let h2 := h.push (.cells [v1] 1)
 some (.ret (.fn 49 [] [(.ptr (some (h.next, 0)))]), h2, none)

/-- countermand/num.Clamp -/
noncomputable def f17 (n : Nat) (F : Fns) (a0 a1 a2 : AV) (h : Heap) : R :=
 (binop .lss a0 a1).bind fun v1 =>
 asB v1 fun b2 => cond b2
 (some (.ret a1, h, none))
 ((binop .gtr a0 a2).bind fun v3 =>
 asB v3 fun b4 => cond b4
 (some (.ret a2, h, none))
 (some (.ret a0, h, none)))

/-- (*countermand/world.World).Config -/
noncomputable def f18 (n : Nat) (F : Fns) (a0 : AV) (h : Heap) : R :=
 bindC (F.plain 34 [a0] h) (fun v1 h2 =>
 (unop .not v1).bind fun v3 =>
 asB v3 fun b4 => cond b4
 (some (.ret (.agg [(.int .i64 0), (.int .i64 0), (.int .i64 0), (.int .i64 0), (.int .i64 0)]), h2, none))
 (notNil a0 fun v5 =>
 asPtr v5 fun p6 o7 =>
 (h2.rd p6 (o7 + 4) 5).bind fun l8 =>
 un5 l8 fun x9 x10 x11 x12 x13 =>
 some (.ret (.agg [x9, x10, x11, x12, x13]), h2, none)))
 (fun v14 h15 => some (.panic v14, h15, none))

noncomputable def f19_1 (n : Nat) (F : Fns) (x10 : AV) (h3 : Heap) (x4 : AV) (x5 : AV) (self1 : List AV → Heap → R) : R :=
 bindC (F.plain 22 [x10] h3) (fun v11 h12 =>
 bindC (F.plain 23 [v11] h12) (fun v13 h14 =>
 (binop .gtr v13 (.int .i64 0)).bind fun v15 =>
 asB v15 fun b16 => cond b16
 ((opBuildSlice P h14 99 1 [(0, .agg [(.int .i64 7), (.int .i64 0), (.int .i64 0), (.int .i64 0), (.int .i64 0), (.int .i64 0), (.int .i64 0), (.int .i64 0), (.int .i64 0), (.int .i64 0), (.int .i64 0), (.int .i64 0), (.int .i64 0)])]).bind fun r17 =>
 bindC (F.plain 14 [x4, r17.1] r17.2) (fun v18 h19 =>
 unT0 v18 fun _u =>
 (binop .add x5 (.int .i64 1)).bind fun v20 =>
 self1 [x4, v20] h19)
 (fun v21 h22 => some (.panic v21, h22, none)))
 (some (.ret x5, h14, none)))
 (fun v23 h24 => some (.panic v23, h24, none)))
 (fun v25 h26 => some (.panic v25, h26, none))
/-- (*countermand/settle.driver).deliver -/
noncomputable def f19 (n : Nat) (F : Fns) (a0 : AV) (h : Heap) : R :=
 loopV (fun vs2 h3 self1 => un2 vs2 fun x4 x5 =>
 notNil x4 fun v6 =>
 asPtr v6 fun p7 o8 =>
 (h3.rd p7 (o8 + 0) 1).bind fun l9 =>
 un1 l9 fun x10 =>
 f19_1 n F x10 h3 x4 x5 self1) n [a0, (.int .i64 0)] h

/-- countermand/settle.both -/
noncomputable def f20 (n : Nat) (F : Fns) (a0 : AV) (h : Heap) : R :=
 scal a0 fun v1 =>
 scal a0 fun v2 =>
 (opBuildSlice P h 99 2 [(0, .agg [(.int .i64 3), v1, (.int .i64 0), (.int .i64 0), (.int .i64 0), (.int .i64 0), (.int .i64 0), (.int .i64 0), (.int .i64 0), (.int .i64 0), (.int .i64 0), (.int .i64 0), (.int .i64 0)]), (1, .agg [(.int .i64 3), (.int .i64 0), v2, (.int .i64 0), (.int .i64 0), (.int .i64 0), (.int .i64 0), (.int .i64 0), (.int .i64 0), (.int .i64 0), (.int .i64 0), (.int .i64 0), (.int .i64 0)])]).bind fun r3 =>
 some (.ret r3.1, r3.2, none)

/-- countermand/settle.learn -/
noncomputable def f21 (n : Nat) (F : Fns) (a0 : AV) (h : Heap) : R :=
 scal a0 fun v1 =>
 (opBuildSlice P h 99 1 [(0, .agg [(.int .i64 3), v1, (.int .i64 0), (.int .i64 0), (.int .i64 0), (.int .i64 0), (.int .i64 0), (.int .i64 0), (.int .i64 0), (.int .i64 0), (.int .i64 0), (.int .i64 0), (.int .i64 0)])]).bind fun r2 =>
 some (.ret r2.1, r2.2, none)

/-- (*countermand/world.World).Wire -/
noncomputable def f22 (n : Nat) (F : Fns) (a0 : AV) (h : Heap) : R :=
 bindC (F.plain 34 [a0] h) (fun v1 h2 =>
 (unop .not v1).bind fun v3 =>
 asB v3 fun b4 => cond b4
 (some (.ret (.ptr none), h2, none))
 (notNil a0 fun v5 =>
 asPtr v5 fun p6 o7 =>
 (h2.rd p6 ((o7 + 0) + 0) 1).bind fun l8 =>
 un1 l8 fun x9 =>
 bindC (F.plain 50 [x9] h2) (fun v10 h11 =>
 some (.ret v10, h11, none))
 (fun v12 h13 => some (.panic v12, h13, none))))
 (fun v14 h15 => some (.panic v14, h15, none))

/-- (*countermand/wire.Wire).Len -/
noncomputable def f23 (n : Nat) (F : Fns) (a0 : AV) (h : Heap) : R :=
 (eqop P true false 24 a0 (.ptr none)).bind fun v1 =>
 asB v1 fun b2 => cond b2
 (some (.ret (.int .i64 0), h, none))
 (notNil a0 fun v3 =>
 asPtr v3 fun p4 o5 =>
 (h.rd p4 (o5 + 0) 1).bind fun l6 =>
 un1 l6 fun x7 =>
 (lenA P 76 x7).bind fun v8 =>
 some (.ret v8, h, none))

/-- (*countermand/world.World).State -/
noncomputable def f24 (n : Nat) (F : Fns) (a0 a1 : AV) (h : Heap) : R :=
 bindC (F.plain 37 [a0, a1] h) (fun v1 h2 =>
 bindC (F.plain 51 [v1] h2) (fun v3 h4 =>
 asB v3 fun b5 => cond b5
 (bindC (F.plain 52 [v1] h4) (fun v6 h7 =>
 some (.ret v6, h7, none))
 (fun v8 h9 => some (.panic v8, h9, none)))
 (bindC (F.plain 53 [v1] h4) (fun v10 h11 =>
 some (.ret v10, h11, none))
 (fun v12 h13 => some (.panic v12, h13, none))))
 (fun v14 h15 => some (.panic v14, h15, none)))
 (fun v16 h17 => some (.panic v16, h17, none))

/-- (*countermand/state.State).Logs -/
noncomputable def f25 (n : Nat) (F : Fns) (a0 : AV) (h : Heap) : R :=
 bindC (F.plain 54 [a0] h) (fun v1 h2 =>
 (unop .not v1).bind fun v3 =>
 asB v3 fun b4 => cond b4
 (some (.ret (.ptr none), h2, none))
 (notNil a0 fun v5 =>
 asPtr v5 fun p6 o7 =>
 (h2.rd p6 (o7 + 1) 1).bind fun l8 =>
 un1 l8 fun x9 =>
 bindC (F.plain 55 [x9] h2) (fun v10 h11 =>
 some (.ret v10, h11, none))
 (fun v12 h13 => some (.panic v12, h13, none))))
 (fun v14 h15 => some (.panic v14, h15, none))

/-- (*countermand/logs.Logs).Committed -/
noncomputable def f26 (n : Nat) (F : Fns) (a0 : AV) (h : Heap) : R :=
 bindC (F.plain 56 [a0] h) (fun v1 h2 =>
 (unop .not v1).bind fun v3 =>
 asB v3 fun b4 => cond b4
 (some (.ret .nilSlice, h2, none))
 (notNil a0 fun v5 =>
 asPtr v5 fun p6 o7 =>
 (h2.rd p6 ((o7 + 0) + 0) 1).bind fun l8 =>
 un1 l8 fun x9 =>
 bindC (F.plain 57 [x9] h2) (fun v10 h11 =>
 some (.ret v10, h11, none))
 (fun v12 h13 => some (.panic v12, h13, none))))
 (fun v14 h15 => some (.panic v14, h15, none))

/-- (*countermand/world.World).Up -/
noncomputable def f27 (n : Nat) (F : Fns) (a0 a1 : AV) (h : Heap) : R :=
 bindC (F.plain 37 [a0, a1] h) (fun v1 h2 =>
 bindC (F.plain 51 [v1] h2) (fun v3 h4 =>
 some (.ret v3, h4, none))
 (fun v5 h6 => some (.panic v5, h6, none)))
 (fun v7 h8 => some (.panic v7, h8, none))

noncomputable def f28_1 (n : Nat) (F : Fns) (a0 : AV) (h : Heap) : R :=
 bindC (F.plain 54 [a0] h) (fun v1 h2 =>
 asB v1 fun b3 => cond b3
 (notNil a0 fun v4 =>
 asPtr v4 fun p5 o6 =>
 (h2.rd p5 (o6 + 1) 1).bind fun l7 =>
 un1 l7 fun x8 =>
 bindC (F.plain 58 [x8] h2) (fun v9 h10 =>
 (lenA P 67 v9).bind fun v11 =>
 (eqop P true false 3 v11 (.int .i64 0)).bind fun v12 =>
 asB v12 fun b13 => cond b13
 (notNil a0 fun v14 =>
 asPtr v14 fun p15 o16 =>
 (h10.rd p15 (o16 + 0) 1).bind fun l17 =>
 un1 l17 fun x18 =>
 bindC (F.plain 59 [x18] h10) (fun v19 h20 =>
 some (.ret v19, h20, none))
 (fun v21 h22 => some (.panic v21, h22, none)))
 (some (.ret (.bool false), h10, none)))
 (fun v23 h24 => some (.panic v23, h24, none)))
 (some (.ret (.bool false), h2, none)))
 (fun v25 h26 => some (.panic v25, h26, none))
/-- (*countermand/state.State).Quiet -/
noncomputable def f28 (n : Nat) (F : Fns) (a0 : AV) (h : Heap) : R :=
 f28_1 n F a0 h

noncomputable def f29_1 (n : Nat) (F : Fns) (a0 : AV) (a1 : AV) (v5 : AV) (h : Heap) : R :=
 loopV (fun vs7 h8 self6 => un4 vs7 fun x9 x10 x11 x12 =>
 (binop .lss x12 x11).bind fun v13 =>
 asB v13 fun b14 => cond b14
 (asI x12 fun i15 =>
 elemP x9 i15 9 fun p16 o17 =>
 (h8.rd p16 o17 9).bind fun l18 =>
 un9 l18 fun x19 x20 x21 x22 x23 x24 x25 x26 x27 =>
 asI x12 fun i28 =>
 elemP x10 i28 9 fun p29 o30 =>
 (h8.rd p29 o30 9).bind fun l31 =>
 un9 l31 fun x32 x33 x34 x35 x36 x37 x38 x39 x40 =>
 (eqop P false true 50 (.agg [x19, x20, x21, x22, x23, x24, x25, x26, x27]) (.agg [x32, x33, x34, x35, x36, x37, x38, x39, x40])).bind fun v41 =>
 asB v41 fun b42 => cond b42
 (some (.ret (.bool false), h8, none))
 ((binop .add x12 (.int .i64 1)).bind fun v43 =>
 self6 [x9, x10, x11, v43] h8))
 (some (.ret (.bool true), h8, none))) n [a0, a1, v5, (.int .i64 0)] h
/-- slices.Equal[[]countermand/api.Change,countermand/api.Change] -/
noncomputable def f29 (n : Nat) (F : Fns) (a0 a1 : AV) (h : Heap) : R :=
 (lenA P 67 a0).bind fun v1 =>
 (lenA P 67 a1).bind fun v2 =>
 (eqop P false true 3 v1 v2).bind fun v3 =>
 asB v3 fun b4 => cond b4
 (some (.ret (.bool false), h, none))
 ((lenA P 67 a0).bind fun v5 =>
 f29_1 n F a0 a1 v5 h)

/-- (*countermand/state.State).Dead -/
noncomputable def f30 (n : Nat) (F : Fns) (a0 a1 a2 : AV) (h : Heap) : R :=
 unA5 a1 fun x1 x2 x3 x4 x5 =>
 bindC (F.plain 60 [a0] h) (fun v6 h7 =>
 bindC (F.plain 61 [v6, (.agg [x1, x2, x3, x4, x5]), a2] h7) (fun v8 h9 =>
 some (.ret v8, h9, none))
 (fun v10 h11 => some (.panic v10, h11, none)))
 (fun v12 h13 => none)

/-- (*countermand/world.World).Now -/
noncomputable def f31 (n : Nat) (F : Fns) (a0 : AV) (h : Heap) : R :=
 bindC (F.plain 34 [a0] h) (fun v1 h2 =>
 (unop .not v1).bind fun v3 =>
 asB v3 fun b4 => cond b4
 (some (.ret (.int .i64 0), h2, none))
 (notNil a0 fun v5 =>
 asPtr v5 fun p6 o7 =>
 (h2.rd p6 ((o7 + 0) + 2) 1).bind fun l8 =>
 un1 l8 fun x9 =>
 some (.ret x9, h2, none)))
 (fun v10 h11 => some (.panic v10, h11, none))

noncomputable def f32_1 (n : Nat) (F : Fns) (v6 : AV) (v7 : AV) (v8 : AV) (v9 : AV) (v10 : AV) (h : Heap) : R :=
 loopV (fun vs12 h13 self11 => un7 vs12 fun x14 x15 x16 x17 x18 x19 x20 =>
 (binop .lss x15 (.int .i64 5)).bind fun v21 =>
 asB v21 fun b22 => cond b22
 ((indexA P 117 x14 x15).bind fun v23 =>
 asI x15 fun i24 =>
 inArr i24 5 fun j25 =>
 (take? [x16, x17, x18, x19, x20] (0 + j25 * 1) 1).bind fun l26 =>
 un1 l26 fun x27 =>
 bindC (F.plain 62 [v23, (.int .i64 1), x27] h13) (fun v28 h29 =>
 (unop .not v28).bind fun v30 =>
 asB v30 fun b31 => cond b31
 (some (.ret (.int .i64 6), h29, none))
 ((binop .add x15 (.int .i64 1)).bind fun v32 =>
 self11 [x14, v32, x16, x17, x18, x19, x20] h29))
 (fun v33 h34 => some (.panic v33, h34, none)))
 (some (.ret (.int .i64 0), h13, none))) n [(.agg [v6, v7, v8, v9, v10]), (.int .i64 0), (.int .i64 4), (.int .i64 64), (.int .i64 8), (.int .i64 64), (.int .i64 64)] h
/-- countermand/world.Check -/
noncomputable def f32 (n : Nat) (F : Fns) (a0 : AV) (h : Heap) : R :=
 unA5 a0 fun x1 x2 x3 x4 x5 =>
 scal x1 fun v6 =>
 scal x2 fun v7 =>
 scal x3 fun v8 =>
 scal x4 fun v9 =>
 scal x5 fun v10 =>
 f32_1 n F v6 v7 v8 v9 v10 h

noncomputable def f33_1 (n : Nat) (F : Fns) (h7 : Heap) (x1 : AV) (x2 : AV) (x3 : AV) (x4 : AV) (x5 : AV) (v8 : AV) : R :=
 let h9 := h7.push (.cells [(.ptr none), x1, x2, x3, x4, x5, v8, (.ptr none)] 1)
 bindC (F.plain 17 [x2, (.int .i64 1), (.int .i64 64)] h9) (fun v10 h11 =>
 (binop .mul (.int .i64 2) v10).bind fun v12 =>
 (binop .add v12 (.int .i64 1)).bind fun v13 =>
 bindC (F.plain 63 [v13] h11) (fun v14 h15 =>
 scal v14 fun v16 =>
 (h15.wr h7.next 7 [v16]).bind fun h17 =>
 (h17.rd h7.next 6 1).bind fun l18 =>
 un1 l18 fun x19 =>
 (h17.rd h7.next 7 1).bind fun l20 =>
 un1 l20 fun x21 =>
 bindC (F.plain 64 [x19, x21] h17) (fun v22 h23 =>
 scal v22 fun v24 =>
 (h23.wr h7.next 0 [v24]).bind fun h25 =>
 some (.ret (.ptr (some (h7.next, 0))), h25, none))
 (fun v26 h27 => some (.panic v26, h27, none)))
 (fun v28 h29 => some (.panic v28, h29, none)))
 (fun v30 h31 => some (.panic v30, h31, none))
/-- countermand/node.New -/
noncomputable def f33 (n : Nat) (F : Fns) (a0 a1 : AV) (h : Heap) : R :=
 unA5 a0 fun x1 x2 x3 x4 x5 =>
 bindC (F.plain 17 [a1, (.int .i64 0), (.int .i64 3)] h) (fun v6 h7 =>
 scal v6 fun v8 =>
 f33_1 n F h7 x1 x2 x3 x4 x5 v8)
 (fun v32 h33 => some (.panic v32, h33, none))

/-- (*countermand/world.World).is -/
noncomputable def f34 (n : Nat) (F : Fns) (a0 : AV) (h : Heap) : R :=
 (eqop P true true 23 a0 (.ptr none)).bind fun v1 =>
 asB v1 fun b2 => cond b2
 (notNil a0 fun v3 =>
 asPtr v3 fun p4 o5 =>
 (h.rd p4 (o5 + 9) 1).bind fun l6 =>
 un1 l6 fun x7 =>
 (lenA P 31 x7).bind fun v8 =>
 (binop .gtr v8 (.int .i64 0)).bind fun v9 =>
 some (.ret v9, h, none))
 (some (.ret (.bool false), h, none))

/-- countermand/world.fail -/
noncomputable def f35 (n : Nat) (F : Fns) (a0 : AV) (h : Heap) : R :=
 scal a0 fun v1 =>
 some (.ret (.agg [v1, (.int .i64 0), (.int .i64 0)]), h, none)

noncomputable def f36_1 (n : Nat) (F : Fns) (v54 : AV) (h53 : Heap) (x29 : AV) (x30 : AV) (x31 : AV) (x32 : AV) (x33 : AV) (x34 : AV) (x35 : AV) (x36 : AV) (x37 : AV) (x38 : AV) (x39 : AV) (x40 : AV) (x41 : AV) : R :=
 asB v54 fun b55 => cond b55
 (asB v54 fun b56 => cond b56
 (some (.ret (.int .i64 4), h53, none))
 (bindC (F.plain 65 [(.agg [x29, x30, x31, x32, x33, x34, x35, x36, x37, x38, x39, x40, x41])] h53) (fun v57 h58 =>
 (eqop P false true 52 v57 (.agg [x29, x30, x31, x32, x33, x34, x35, x36, x37, x38, x39, x40, x41])).bind fun v59 =>
 asB v59 fun b60 => cond b60
 (some (.ret (.int .i64 16), h58, none))
 (some (.ret (.int .i64 0), h58, none)))
 (fun v61 h62 => none)))
 (bindC (F.plain 62 [x32, (.int .i64 0), (.int .i64 2147483647)] h53) (fun v63 h64 =>
 (unop .not v63).bind fun v65 =>
 asB v65 fun b66 => cond b66
 (some (.ret (.int .i64 4), h64, none))
 (bindC (F.plain 65 [(.agg [x29, x30, x31, x32, x33, x34, x35, x36, x37, x38, x39, x40, x41])] h64) (fun v67 h68 =>
 (eqop P false true 52 v67 (.agg [x29, x30, x31, x32, x33, x34, x35, x36, x37, x38, x39, x40, x41])).bind fun v69 =>
 asB v69 fun b70 => cond b70
 (some (.ret (.int .i64 16), h68, none))
 (some (.ret (.int .i64 0), h68, none)))
 (fun v71 h72 => none)))
 (fun v73 h74 => some (.panic v73, h74, none)))
noncomputable def f36_2 (n : Nat) (F : Fns) (v18 : AV) (v19 : AV) (v20 : AV) (v21 : AV) (v22 : AV) (v23 : AV) (x1 : AV) (x2 : AV) (x3 : AV) (x4 : AV) (x5 : AV) (x6 : AV) (x7 : AV) (x8 : AV) (x9 : AV) (x10 : AV) (x11 : AV) (x12 : AV) (x13 : AV) (h15 : Heap) : R :=
 loopV (fun vs25 h26 self24 => un15 vs25 fun x27 x28 x29 x30 x31 x32 x33 x34 x35 x36 x37 x38 x39 x40 x41 =>
 (binop .lss x28 (.int .i64 6)).bind fun v42 =>
 asB v42 fun b43 => cond b43
 ((indexA P 125 x27 x28).bind fun v44 =>
 bindC (F.plain 62 [v44, (.int .i64 0), (.int .i64 255)] h26) (fun v45 h46 =>
 (unop .not v45).bind fun v47 =>
 asB v47 fun b48 => cond b48
 (some (.ret (.int .i64 4), h46, none))
 ((binop .add x28 (.int .i64 1)).bind fun v49 =>
 self24 [x27, v49, x29, x30, x31, x32, x33, x34, x35, x36, x37, x38, x39, x40, x41] h46))
 (fun v50 h51 => some (.panic v50, h51, none)))
 (bindC (F.plain 62 [x41, (.int .i64 0), (.int .i64 65535)] h26) (fun v52 h53 =>
 (unop .not v52).bind fun v54 =>
 f36_1 n F v54 h53 x29 x30 x31 x32 x33 x34 x35 x36 x37 x38 x39 x40 x41)
 (fun v75 h76 => some (.panic v75, h76, none)))) n [(.agg [v18, v19, v20, v21, v22, v23]), (.int .i64 0), x1, x2, x3, x4, x5, x6, x7, x8, x9, x10, x11, x12, x13] h15
/-- countermand/code.Check -/
noncomputable def f36 (n : Nat) (F : Fns) (a0 : AV) (h : Heap) : R :=
 unA13 a0 fun x1 x2 x3 x4 x5 x6 x7 x8 x9 x10 x11 x12 x13 =>
 bindC (F.plain 62 [x1, (.int .i64 1), (.int .i64 15)] h) (fun v14 h15 =>
 (unop .not v14).bind fun v16 =>
 asB v16 fun b17 => cond b17
 (some (.ret (.int .i64 12), h15, none))
 (scal x2 fun v18 =>
 scal x3 fun v19 =>
 scal x8 fun v20 =>
 scal x9 fun v21 =>
 scal x10 fun v22 =>
 scal x12 fun v23 =>
 f36_2 n F v18 v19 v20 v21 v22 v23 x1 x2 x3 x4 x5 x6 x7 x8 x9 x10 x11 x12 x13 h15))
 (fun v77 h78 => some (.panic v77, h78, none))

noncomputable def f37_1 (n : Nat) (F : Fns) (v1 : AV) (h2 : Heap) (a0 : AV) (a1 : AV) : R :=
 (unop .not v1).bind fun v3 =>
 asB v3 fun b4 => cond b4
 (some (.ret (.ptr none), h2, none))
 (notNil a0 fun v5 =>
 asPtr v5 fun p6 o7 =>
 (h2.rd p6 (o7 + 9) 1).bind fun l8 =>
 un1 l8 fun x9 =>
 (lenA P 31 x9).bind fun v10 =>
 (binop .sub v10 (.int .i64 1)).bind fun v11 =>
 bindC (F.plain 62 [a1, (.int .i64 0), v11] h2) (fun v12 h13 =>
 (unop .not v12).bind fun v14 =>
 asB v14 fun b15 => cond b15
 (some (.ret (.ptr none), h13, none))
 (notNil a0 fun v16 =>
 asPtr v16 fun p17 o18 =>
 (h13.rd p17 (o18 + 9) 1).bind fun l19 =>
 un1 l19 fun x20 =>
 asI a1 fun i21 =>
 elemP x20 i21 1 fun p22 o23 =>
 (h13.rd p22 o23 1).bind fun l24 =>
 un1 l24 fun x25 =>
 some (.ret x25, h13, none)))
 (fun v26 h27 => some (.panic v26, h27, none)))
/-- (*countermand/world.World).at -/
noncomputable def f37 (n : Nat) (F : Fns) (a0 a1 : AV) (h : Heap) : R :=
 bindC (F.plain 34 [a0] h) (fun v1 h2 =>
 f37_1 n F v1 h2 a0 a1)
 (fun v28 h29 => some (.panic v28, h29, none))

noncomputable def f38_1 (n : Nat) (F : Fns) (v37 : AV) (x27 : AV) (h25 : Heap) (a0 : AV) (a1 : AV) (x28 : AV) (x29 : AV) : R :=
 asB v37 fun b38 => cond b38
 (bindC (F.plain 35 [x27] h25) (fun v39 h40 =>
 unA3 v39 fun x41 x42 x43 =>
 some (.ret (.agg [x41, x42, x43]), h40, none))
 (fun v44 h45 => some (.panic v44, h45, none)))
 (notNil a0 fun v46 =>
 asPtr v46 fun p47 o48 =>
 (h25.rd p47 (o48 + 10) 1).bind fun l49 =>
 un1 l49 fun x50 =>
 (binop .add x50 (.int .i64 1)).bind fun v51 =>
 notNil a0 fun v52 =>
 asPtr v52 fun p53 o54 =>
 scal v51 fun v55 =>
 (h25.wr p53 (o54 + 10) [v55]).bind fun h56 =>
 bindC (F.plain 52 [a1] h56) (fun v57 h58 =>
 bindC (F.plain 25 [v57] h58) (fun v59 h60 =>
 bindC (F.plain 67 [v59, (.agg [x28, x29])] h60) (fun v61 h62 =>
 unT3 v61 fun x63 x64 x65 =>
 unA2 x63 fun x66 x67 =>
 scal x29 fun v68 =>
 scal x66 fun v69 =>
 some (.ret (.agg [(.int .i64 0), v68, v69]), h62, none))
 (fun v70 h71 => none))
 (fun v72 h73 => none))
 (fun v74 h75 => none))
/-- (*countermand/world.World).submit -/
noncomputable def f38 (n : Nat) (F : Fns) (a0 a1 a2 : AV) (h : Heap) : R :=
 unA9 a2 fun x1 x2 x3 x4 x5 x6 x7 x8 x9 =>
 notNil a0 fun v10 =>
 asPtr v10 fun p11 o12 =>
 (h.rd p11 (o12 + 10) 1).bind fun l13 =>
 un1 l13 fun x14 =>
 (binop .geq x14 (.int .i64 48)).bind fun v15 =>
 asB v15 fun b16 => cond b16
 (bindC (F.plain 35 [(.int .i64 3)] h) (fun v17 h18 =>
 unA3 v17 fun x19 x20 x21 =>
 some (.ret (.agg [x19, x20, x21]), h18, none))
 (fun v22 h23 => some (.panic v22, h23, none)))
 (bindC (F.plain 66 [a1, (.agg [x1, x2, x3, x4, x5, x6, x7, x8, x9])] h) (fun v24 h25 =>
 unT2 v24 fun x26 x27 =>
 unA9 x26 fun x28 x29 x30 x31 x32 x33 x34 x35 x36 =>
 (eqop P true true 41 x27 (.int .i64 0)).bind fun v37 =>
 f38_1 n F v37 x27 h25 a0 a1 x28 x29)
 (fun v76 h77 => some (.panic v76, h77, none)))

/-- (*countermand/node.Node).Sync -/
noncomputable def f39 (n : Nat) (F : Fns) (a0 : AV) (h : Heap) : R :=
 bindC (F.plain 51 [a0] h) (fun v1 h2 =>
 (unop .not v1).bind fun v3 =>
 asB v3 fun b4 => cond b4
 (some (.ret (.int .i64 19), h2, none))
 (notNil a0 fun v5 =>
 asPtr v5 fun p6 o7 =>
 (h2.rd p6 (o7 + 0) 1).bind fun l8 =>
 un1 l8 fun x9 =>
 notNil x9 fun v10 =>
 asPtr v10 fun p11 o12 =>
 (h2.rd p11 (o12 + 0) 1).bind fun l13 =>
 un1 l13 fun x14 =>
 bindC (F.plain 69 [x14] h2) (fun v15 h16 =>
 bindC (F.plain 68 [a0, v15] h16) (fun v17 h18 =>
 some (.ret v17, h18, none))
 (fun v19 h20 => some (.panic v19, h20, none)))
 (fun v21 h22 => some (.panic v21, h22, none))))
 (fun v23 h24 => some (.panic v23, h24, none))

noncomputable def f40_1 (n : Nat) (F : Fns) (a1 : AV) (h15 : Heap) (a0 : AV) (x3 : AV) : R :=
 bindC (F.plain 39 [a1] h15) (fun v34 h35 =>
 (eqop P true true 41 v34 (.int .i64 0)).bind fun v36 =>
 asB v36 fun b37 => cond b37
 (bindC (F.plain 35 [v34] h35) (fun v38 h39 =>
 unA3 v38 fun x40 x41 x42 =>
 some (.ret (.agg [x40, x41, x42]), h39, none))
 (fun v43 h44 => some (.panic v43, h44, none)))
 (notNil a0 fun v45 =>
 asPtr v45 fun p46 o47 =>
 bindC (F.plain 52 [a1] h35) (fun v48 h49 =>
 bindC (F.plain 71 [v48, x3] h49) (fun v50 h51 =>
 bindC (F.plain 70 [(.ptr (some (p46, (o47 + 0)))), v50] h51) (fun v52 h53 =>
 scal v52 fun v54 =>
 some (.ret (.agg [(.int .i64 0), v54, (.int .i64 0)]), h53, none))
 (fun v55 h56 => some (.panic v55, h56, none)))
 (fun v57 h58 => some (.panic v57, h58, none)))
 (fun v59 h60 => none)))
 (fun v61 h62 => some (.panic v61, h62, none))
/-- (*countermand/world.World).ask -/
noncomputable def f40 (n : Nat) (F : Fns) (a0 a1 a2 : AV) (h : Heap) : R :=
 unA13 a2 fun x1 x2 x3 x4 x5 x6 x7 x8 x9 x10 x11 x12 x13 =>
 bindC (F.plain 37 [a0, x3] h) (fun v14 h15 =>
 (eqop P true false 82 v14 (.ptr none)).bind fun v16 =>
 asB v16 fun b17 => cond b17
 (bindC (F.plain 35 [(.int .i64 4)] h15) (fun v18 h19 =>
 unA3 v18 fun x20 x21 x22 =>
 some (.ret (.agg [x20, x21, x22]), h19, none))
 (fun v23 h24 => some (.panic v23, h24, none)))
 ((eqop P false false 3 x3 x2).bind fun v25 =>
 asB v25 fun b26 => cond b26
 (bindC (F.plain 35 [(.int .i64 4)] h15) (fun v27 h28 =>
 unA3 v27 fun x29 x30 x31 =>
 some (.ret (.agg [x29, x30, x31]), h28, none))
 (fun v32 h33 => some (.panic v32, h33, none)))
 (f40_1 n F a1 h15 a0 x3)))
 (fun v63 h64 => some (.panic v63, h64, none))

noncomputable def f41_1 (n : Nat) (F : Fns) (x51 : AV) (x38 : AV) (h49 : Heap) (x52 : AV) (x53 : AV) (x36 : AV) (self32 : List AV → Heap → R) (x35 : AV) (x37 : AV) (x39 : AV) (x40 : AV) (x41 : AV) : R :=
 (unop .not x51).bind fun v54 =>
 asB v54 fun b55 => cond b55
 (scal x38 fun v56 =>
 some (.ret (.agg [(.int .i64 0), v56, (.int .i64 0)]), h49, none))
 (bindC (F.plain 74 [(.agg [x52, x53])] h49) (fun v57 h58 =>
 (opBuildSlice P h58 210 1 [(0, v57)]).bind fun r59 =>
 bindC (F.plain 73 [x36, r59.1] r59.2) (fun v60 h61 =>
 unT2 v60 fun x62 x63 =>
 (eqop P true true 41 x63 (.int .i64 0)).bind fun v64 =>
 asB v64 fun b65 => cond b65
 (scal x63 fun v66 =>
 scal x38 fun v67 =>
 some (.ret (.agg [v66, v67, (.int .i64 0)]), h61, none))
 ((binop .add x38 (.int .i64 1)).bind fun v68 =>
 self32 [x35, x36, x37, v68, x39, x40, x41] h61))
 (fun v69 h70 => some (.panic v69, h70, none)))
 (fun v71 h72 => some (.panic v71, h72, none)))
noncomputable def f41_2 (n : Nat) (F : Fns) (v23 : AV) (h22 : Heap) (a1 : AV) (x20 : AV) : R :=
 asB v23 fun b24 => cond b24
 (bindC (F.plain 35 [(.int .i64 19)] h22) (fun v25 h26 =>
 unA3 v25 fun x27 x28 x29 =>
 some (.ret (.agg [x27, x28, x29]), h26, none))
 (fun v30 h31 => some (.panic v30, h31, none)))
 (loopV (fun vs33 h34 self32 => un7 vs33 fun x35 x36 x37 x38 x39 x40 x41 =>
 (binop .lss x38 x37).bind fun v42 =>
 asB v42 fun b43 => cond b43
 (bindC (F.plain 52 [x36] h34) (fun v44 h45 =>
 bindC (F.plain 25 [v44] h45) (fun v46 h47 =>
 bindC (F.plain 72 [v46] h47) (fun v48 h49 =>
 unT2 v48 fun x50 x51 =>
 unA2 x50 fun x52 x53 =>
 f41_1 n F x51 x38 h49 x52 x53 x36 self32 x35 x37 x39 x40 x41)
 (fun v73 h74 => some (.panic v73, h74, none)))
 (fun v75 h76 => some (.panic v75, h76, none)))
 (fun v77 h78 => some (.panic v77, h78, none)))
 (scal x35 fun v79 =>
 some (.ret (.agg [(.int .i64 0), v79, (.int .i64 0)]), h34, none))) n [a1, x20, a1, (.int .i64 0), (.int .i64 0), (.int .i64 0), (.int .i64 0)] h22)
/-- (*countermand/world.World).commit -/
noncomputable def f41 (n : Nat) (F : Fns) (a0 a1 : AV) (h : Heap) : R :=
 bindC (F.plain 62 [a1, (.int .i64 1), (.int .i64 16)] h) (fun v1 h2 =>
 (unop .not v1).bind fun v3 =>
 asB v3 fun b4 => cond b4
 (bindC (F.plain 35 [(.int .i64 4)] h2) (fun v5 h6 =>
 unA3 v5 fun x7 x8 x9 =>
 some (.ret (.agg [x7, x8, x9]), h6, none))
 (fun v10 h11 => some (.panic v10, h11, none)))
 (notNil a0 fun v12 =>
 asPtr v12 fun p13 o14 =>
 (h2.rd p13 (o14 + 9) 1).bind fun l15 =>
 un1 l15 fun x16 =>
 elemP x16 0 1 fun p17 o18 =>
 (h2.rd p17 o18 1).bind fun l19 =>
 un1 l19 fun x20 =>
 bindC (F.plain 51 [x20] h2) (fun v21 h22 =>
 (unop .not v21).bind fun v23 =>
 f41_2 n F v23 h22 a1 x20)
 (fun v80 h81 => some (.panic v80, h81, none))))
 (fun v82 h83 => some (.panic v82, h83, none))

noncomputable def f42_1 (n : Nat) (F : Fns) (p40 : Nat) (o41 : Nat) (v42 : AV) (x30 : AV) (x31 : AV) (x32 : AV) (x33 : AV) (x34 : AV) (x35 : AV) (x36 : AV) (x37 : AV) (x38 : AV) (h13 : Heap) (x14 : AV) (x15 : AV) (x20 : AV) (self11 : List AV → Heap → R) (x16 : AV) (x17 : AV) (x18 : AV) (x19 : AV) (x21 : AV) (x22 : AV) (x23 : AV) : R :=
 bindC (F.plain 70 [(.ptr (some (p40, (o41 + 0)))), (.agg [(.int .i64 3), v42, (.int .i64 9), (.int .i64 0), (.int .i64 0), (.int .i64 0), (.int .i64 0), (.int .i64 0), .nilSlice, .nilSlice, x30, x31, x32, x33, x34, x35, x36, x37, x38])] h13) (fun v43 h44 =>
 notNil x14 fun v45 =>
 asPtr v45 fun p46 o47 =>
 (h44.rd p46 ((o47 + 0) + 3) 1).bind fun l48 =>
 un1 l48 fun x49 =>
 notNil x14 fun v50 =>
 asPtr v50 fun p51 o52 =>
 (h44.rd p51 ((o52 + 0) + 2) 1).bind fun l53 =>
 un1 l53 fun x54 =>
 scal x15 fun v55 =>
 scal x54 fun v56 =>
 (appendA P h44 153 x49 1 [v55, v56, x30, x31, x32, x33, x34, x35, x36, x37, x38]).bind fun r57 =>
 notNil x14 fun v58 =>
 asPtr v58 fun p59 o60 =>
 scal r57.1 fun v61 =>
 (r57.2.wr p59 ((o60 + 0) + 3) [v61]).bind fun h62 =>
 (binop .add x20 (.int .i64 1)).bind fun v63 =>
 self11 [x14, x15, x16, x17, x18, x19, v63, x21, x22, x23] h62)
 (fun v64 h65 => some (.panic v64, h65, none))
noncomputable def f42_2 (n : Nat) (F : Fns) (x8 : AV) (a0 : AV) (a2 : AV) (x9 : AV) (h7 : Heap) : R :=
 (lenA P 53 x8).bind fun v10 =>
 loopV (fun vs12 h13 self11 => un10 vs12 fun x14 x15 x16 x17 x18 x19 x20 x21 x22 x23 =>
 (binop .lss x20 x19).bind fun v24 =>
 asB v24 fun b25 => cond b25
 (asI x20 fun i26 =>
 elemP x18 i26 9 fun p27 o28 =>
 (h13.rd p27 o28 9).bind fun l29 =>
 un9 l29 fun x30 x31 x32 x33 x34 x35 x36 x37 x38 =>
 notNil x14 fun v39 =>
 asPtr v39 fun p40 o41 =>
 scal x15 fun v42 =>
 f42_1 n F p40 o41 v42 x30 x31 x32 x33 x34 x35 x36 x37 x38 h13 x14 x15 x20 self11 x16 x17 x18 x19 x21 x22 x23)
 ((lenA P 53 x16).bind fun v66 =>
 scal x17 fun v67 =>
 scal v66 fun v68 =>
 some (.ret (.agg [v67, v68, (.int .i64 0)]), h13, none))) n [a0, a2, x8, x9, x8, v10, (.int .i64 0), (.int .i64 0), (.int .i64 0), (.int .i64 0)] h7
/-- (*countermand/world.World).pump -/
noncomputable def f42 (n : Nat) (F : Fns) (a0 a1 a2 : AV) (h : Heap) : R :=
 notNil a0 fun v1 =>
 asPtr v1 fun p2 o3 =>
 (h.rd p2 ((o3 + 0) + 2) 1).bind fun l4 =>
 un1 l4 fun x5 =>
 bindC (F.plain 75 [a1, x5] h) (fun v6 h7 =>
 unT2 v6 fun x8 x9 =>
 f42_2 n F x8 a0 a2 x9 h7)
 (fun v69 h70 => some (.panic v69, h70, none))

noncomputable def f43_1 (n : Nat) (F : Fns) (v17 : AV) (h2 : Heap) (a0 : AV) (a1 : AV) : R :=
 (binop .gtr v17 (.int .i64 1073741824)).bind fun v18 =>
 asB v18 fun b19 => cond b19
 (bindC (F.plain 35 [(.int .i64 4)] h2) (fun v20 h21 =>
 unA3 v20 fun x22 x23 x24 =>
 some (.ret (.agg [x22, x23, x24]), h21, none))
 (fun v25 h26 => some (.panic v25, h26, none)))
 (notNil a0 fun v27 =>
 asPtr v27 fun p28 o29 =>
 (h2.rd p28 ((o29 + 0) + 2) 1).bind fun l30 =>
 un1 l30 fun x31 =>
 (binop .add x31 a1).bind fun v32 =>
 notNil a0 fun v33 =>
 asPtr v33 fun p34 o35 =>
 scal v32 fun v36 =>
 (h2.wr p34 ((o35 + 0) + 2) [v36]).bind fun h37 =>
 notNil a0 fun v38 =>
 asPtr v38 fun p39 o40 =>
 (h37.rd p39 ((o40 + 0) + 2) 1).bind fun l41 =>
 un1 l41 fun x42 =>
 scal x42 fun v43 =>
 some (.ret (.agg [(.int .i64 0), v43, (.int .i64 0)]), h37, none))
/-- (*countermand/world.World).tick -/
noncomputable def f43 (n : Nat) (F : Fns) (a0 a1 : AV) (h : Heap) : R :=
 bindC (F.plain 62 [a1, (.int .i64 1), (.int .i64 1000)] h) (fun v1 h2 =>
 (unop .not v1).bind fun v3 =>
 asB v3 fun b4 => cond b4
 (bindC (F.plain 35 [(.int .i64 4)] h2) (fun v5 h6 =>
 unA3 v5 fun x7 x8 x9 =>
 some (.ret (.agg [x7, x8, x9]), h6, none))
 (fun v10 h11 => some (.panic v10, h11, none)))
 (notNil a0 fun v12 =>
 asPtr v12 fun p13 o14 =>
 (h2.rd p13 ((o14 + 0) + 2) 1).bind fun l15 =>
 un1 l15 fun x16 =>
 (binop .add x16 a1).bind fun v17 =>
 f43_1 n F v17 h2 a0 a1))
 (fun v44 h45 => some (.panic v44, h45, none))

noncomputable def f44_1 (n : Nat) (F : Fns) (v51 : AV) (a0 : AV) (x30 : AV) (x31 : AV) (x32 : AV) (x33 : AV) (x34 : AV) (x35 : AV) (x36 : AV) (x37 : AV) (x38 : AV) (x39 : AV) (x40 : AV) (x41 : AV) (x42 : AV) (x43 : AV) (x44 : AV) (x45 : AV) (x46 : AV) (x47 : AV) (x48 : AV) (h27 : Heap) (v6 : AV) : R :=
 asB v51 fun b52 => cond b52
 (notNil a0 fun v53 =>
 asPtr v53 fun p54 o55 =>
 bindC (F.plain 79 [(.ptr (some (p54, (o55 + 0)))), (.agg [x30, x31, x32, x33, x34, x35, x36, x37, x38, x39, x40, x41, x42, x43, x44, x45, x46, x47, x48])] h27) (fun v56 h57 =>
 scal v56 fun v58 =>
 some (.ret (.agg [(.int .i64 0), v58, (.int .i64 0)]), h57, none))
 (fun v59 h60 => some (.panic v59, h60, none)))
 (bindC (F.plain 37 [a0, v6] h27) (fun v61 h62 =>
 bindC (F.plain 51 [v61] h62) (fun v63 h64 =>
 (unop .not v63).bind fun v65 =>
 asB v65 fun b66 => cond b66
 (some (.ret (.agg [(.int .i64 0), (.int .i64 0), (.int .i64 0)]), h64, none))
 (bindC (F.plain 80 [a0, v61, (.agg [x30, x31, x32, x33, x34, x35, x36, x37, x38, x39, x40, x41, x42, x43, x44, x45, x46, x47, x48])] h64) (fun v67 h68 =>
 unA3 v67 fun x69 x70 x71 =>
 some (.ret (.agg [x69, x70, x71]), h68, none))
 (fun v72 h73 => some (.panic v72, h73, none))))
 (fun v74 h75 => some (.panic v74, h75, none)))
 (fun v76 h77 => some (.panic v76, h77, none)))
noncomputable def f44_2 (n : Nat) (F : Fns) (v17 : AV) (h14 : Heap) (x15 : AV) (v6 : AV) (a0 : AV) : R :=
 asB v17 fun b18 => cond b18
 (bindC (F.plain 35 [(.int .i64 14)] h14) (fun v19 h20 =>
 unA3 v19 fun x21 x22 x23 =>
 some (.ret (.agg [x21, x22, x23]), h20, none))
 (fun v24 h25 => some (.panic v24, h25, none)))
 (bindC (F.plain 78 [x15] h14) (fun v26 h27 =>
 unT2 v26 fun x28 x29 =>
 unA19 x28 fun x30 x31 x32 x33 x34 x35 x36 x37 x38 x39 x40 x41 x42 x43 x44 x45 x46 x47 x48 =>
 (eqop P true true 41 x29 (.int .i64 0)).bind fun v49 =>
 asB v49 fun b50 => cond b50
 (some (.ret (.agg [(.int .i64 0), (.int .i64 0), (.int .i64 0)]), h27, none))
 ((eqop P true false 3 v6 (.int .i64 9)).bind fun v51 =>
 f44_1 n F v51 a0 x30 x31 x32 x33 x34 x35 x36 x37 x38 x39 x40 x41 x42 x43 x44 x45 x46 x47 x48 h27 v6))
 (fun v78 h79 => some (.panic v78, h79, none)))
/-- (*countermand/world.World).deliver -/
noncomputable def f44 (n : Nat) (F : Fns) (a0 a1 : AV) (h : Heap) : R :=
 notNil a0 fun v1 =>
 asPtr v1 fun p2 o3 =>
 (h.rd p2 ((o3 + 0) + 0) 1).bind fun l4 =>
 un1 l4 fun x5 =>
 bindC (F.plain 76 [x5, a1] h) (fun v6 h7 =>
 notNil a0 fun v8 =>
 asPtr v8 fun p9 o10 =>
 (h7.rd p9 ((o10 + 0) + 0) 1).bind fun l11 =>
 un1 l11 fun x12 =>
 bindC (F.plain 77 [x12, a1] h7) (fun v13 h14 =>
 unT2 v13 fun x15 x16 =>
 (unop .not x16).bind fun v17 =>
 f44_2 n F v17 h14 x15 v6 a0)
 (fun v80 h81 => some (.panic v80, h81, none)))
 (fun v82 h83 => some (.panic v82, h83, none))
end Go.Proofs.YtahbihcbidkbaaaGreat.Ev

/-
  Printed by mk.py: the equations with the evaluator.
-/
set_option maxRecDepth 100000
set_option maxHeartbeats 4000000
namespace Go.Proofs.YtahbihcbidkbaaaGreat.Ev
open Go
theorem f2_eq (n : Nat) (F : Fns) (h : Heap) : callStep cx n F 2 [] h none = f2 n F h := by kernel_rfl
theorem f3_eq (n : Nat) (F : Fns) (a0 : AV) (h : Heap) : callStep cx n F 3 [a0] h none = f3 n F a0 h := by kernel_rfl
theorem f4_eq (n : Nat) (F : Fns) (h : Heap) : callStep cx n F 4 [] h none = f4 n F h := by kernel_rfl
theorem f5_eq (n : Nat) (F : Fns) (a0 a1 : AV) (h : Heap) : callStep cx n F 5 [a0, a1] h none = f5 n F a0 a1 h := by kernel_rfl
theorem f6_eq (n : Nat) (F : Fns) (a0 : AV) (h : Heap) : callStep cx n F 6 [a0] h none = f6 n F a0 h := by kernel_rfl
theorem f7_eq (n : Nat) (F : Fns) (a0 : AV) (h : Heap) : callStep cx n F 7 [a0] h none = f7 n F a0 h := by kernel_rfl
theorem f8_eq (n : Nat) (F : Fns) (a0 : AV) (h : Heap) : callStep cx n F 8 [a0] h none = f8 n F a0 h := by kernel_rfl
theorem f9_eq (n : Nat) (F : Fns) (a0 : AV) (h : Heap) : callStep cx n F 9 [a0] h none = f9 n F a0 h := by kernel_rfl
theorem f10_eq (n : Nat) (F : Fns) (a0 : AV) (h : Heap) : callStep cx n F 10 [a0] h none = f10 n F a0 h := by kernel_rfl
theorem f11_eq (n : Nat) (F : Fns) (a0 a1 : AV) (h : Heap) : callStep cx n F 11 [a0, a1] h none = f11 n F a0 a1 h := by kernel_rfl
theorem f12_eq (n : Nat) (F : Fns) (a0 : AV) (h : Heap) : callStep cx n F 12 [a0] h none = f12 n F a0 h := by kernel_rfl
theorem f13_eq (n : Nat) (F : Fns) (a0 : AV) (h : Heap) : callStep cx n F 13 [a0] h none = f13 n F a0 h := by kernel_rfl
theorem f14_eq (n : Nat) (F : Fns) (a0 a1 : AV) (h : Heap) : callStep cx n F 14 [a0, a1] h none = f14 n F a0 a1 h := by kernel_rfl
theorem f15_eq (n : Nat) (F : Fns) (a0 a1 a2 : AV) (h : Heap) : callStep cx n F 15 [a0, a1, a2] h none = f15 n F a0 a1 a2 h := by kernel_rfl
theorem f16_eq (n : Nat) (F : Fns) (a0 : AV) (h : Heap) : callStep cx n F 16 [a0] h none = f16 n F a0 h := by kernel_rfl
theorem f17_eq (n : Nat) (F : Fns) (a0 a1 a2 : AV) (h : Heap) : callStep cx n F 17 [a0, a1, a2] h none = f17 n F a0 a1 a2 h := by kernel_rfl
theorem f18_eq (n : Nat) (F : Fns) (a0 : AV) (h : Heap) : callStep cx n F 18 [a0] h none = f18 n F a0 h := by kernel_rfl
theorem f19_eq (n : Nat) (F : Fns) (a0 : AV) (h : Heap) : callStep cx n F 19 [a0] h none = f19 n F a0 h := by kernel_rfl
theorem f20_eq (n : Nat) (F : Fns) (a0 : AV) (h : Heap) : callStep cx n F 20 [a0] h none = f20 n F a0 h := by kernel_rfl
theorem f21_eq (n : Nat) (F : Fns) (a0 : AV) (h : Heap) : callStep cx n F 21 [a0] h none = f21 n F a0 h := by kernel_rfl
theorem f22_eq (n : Nat) (F : Fns) (a0 : AV) (h : Heap) : callStep cx n F 22 [a0] h none = f22 n F a0 h := by kernel_rfl
theorem f23_eq (n : Nat) (F : Fns) (a0 : AV) (h : Heap) : callStep cx n F 23 [a0] h none = f23 n F a0 h := by kernel_rfl
theorem f24_eq (n : Nat) (F : Fns) (a0 a1 : AV) (h : Heap) : callStep cx n F 24 [a0, a1] h none = f24 n F a0 a1 h := by kernel_rfl
theorem f25_eq (n : Nat) (F : Fns) (a0 : AV) (h : Heap) : callStep cx n F 25 [a0] h none = f25 n F a0 h := by kernel_rfl
theorem f26_eq (n : Nat) (F : Fns) (a0 : AV) (h : Heap) : callStep cx n F 26 [a0] h none = f26 n F a0 h := by kernel_rfl
theorem f27_eq (n : Nat) (F : Fns) (a0 a1 : AV) (h : Heap) : callStep cx n F 27 [a0, a1] h none = f27 n F a0 a1 h := by kernel_rfl
theorem f28_eq (n : Nat) (F : Fns) (a0 : AV) (h : Heap) : callStep cx n F 28 [a0] h none = f28 n F a0 h := by kernel_rfl
theorem f29_eq (n : Nat) (F : Fns) (a0 a1 : AV) (h : Heap) : callStep cx n F 29 [a0, a1] h none = f29 n F a0 a1 h := by kernel_rfl
theorem f30_eq (n : Nat) (F : Fns) (a0 a1 a2 : AV) (h : Heap) : callStep cx n F 30 [a0, a1, a2] h none = f30 n F a0 a1 a2 h := by kernel_rfl
theorem f31_eq (n : Nat) (F : Fns) (a0 : AV) (h : Heap) : callStep cx n F 31 [a0] h none = f31 n F a0 h := by kernel_rfl
theorem f32_eq (n : Nat) (F : Fns) (a0 : AV) (h : Heap) : callStep cx n F 32 [a0] h none = f32 n F a0 h := by kernel_rfl
theorem f33_eq (n : Nat) (F : Fns) (a0 a1 : AV) (h : Heap) : callStep cx n F 33 [a0, a1] h none = f33 n F a0 a1 h := by kernel_rfl
theorem f34_eq (n : Nat) (F : Fns) (a0 : AV) (h : Heap) : callStep cx n F 34 [a0] h none = f34 n F a0 h := by kernel_rfl
theorem f35_eq (n : Nat) (F : Fns) (a0 : AV) (h : Heap) : callStep cx n F 35 [a0] h none = f35 n F a0 h := by kernel_rfl
theorem f36_eq (n : Nat) (F : Fns) (a0 : AV) (h : Heap) : callStep cx n F 36 [a0] h none = f36 n F a0 h := by kernel_rfl
theorem f37_eq (n : Nat) (F : Fns) (a0 a1 : AV) (h : Heap) : callStep cx n F 37 [a0, a1] h none = f37 n F a0 a1 h := by kernel_rfl
theorem f38_eq (n : Nat) (F : Fns) (a0 a1 a2 : AV) (h : Heap) : callStep cx n F 38 [a0, a1, a2] h none = f38 n F a0 a1 a2 h := by kernel_rfl
theorem f39_eq (n : Nat) (F : Fns) (a0 : AV) (h : Heap) : callStep cx n F 39 [a0] h none = f39 n F a0 h := by kernel_rfl
theorem f40_eq (n : Nat) (F : Fns) (a0 a1 a2 : AV) (h : Heap) : callStep cx n F 40 [a0, a1, a2] h none = f40 n F a0 a1 a2 h := by kernel_rfl
theorem f41_eq (n : Nat) (F : Fns) (a0 a1 : AV) (h : Heap) : callStep cx n F 41 [a0, a1] h none = f41 n F a0 a1 h := by kernel_rfl
theorem f42_eq (n : Nat) (F : Fns) (a0 a1 a2 : AV) (h : Heap) : callStep cx n F 42 [a0, a1, a2] h none = f42 n F a0 a1 a2 h := by kernel_rfl
theorem f43_eq (n : Nat) (F : Fns) (a0 a1 : AV) (h : Heap) : callStep cx n F 43 [a0, a1] h none = f43 n F a0 a1 h := by kernel_rfl
theorem f44_eq (n : Nat) (F : Fns) (a0 a1 : AV) (h : Heap) : callStep cx n F 44 [a0, a1] h none = f44 n F a0 a1 h := by kernel_rfl
end Go.Proofs.YtahbihcbidkbaaaGreat.Ev
