/-
  Printed by mk.py: the functions as the evaluator has them.
-/
import Derived.Test.YtahbihcbidkbaaaGreatJt
import Derived.KernelRfl
set_option linter.unusedVariables false
set_option maxRecDepth 100000
namespace Go.Proofs.YtahbihcbidkbaaaGreat.Ev
open Go
/-- slices.IndexFunc[[]countermand/api.Order,countermand/api.Order] -/
noncomputable def f323 (n : Nat) (F : Fns) (a0 a1 : AV) (h : Heap) : R :=
 (lenA P 107 a0).bind fun v1 =>
 loopV (fun vs3 h4 self2 => un4 vs3 fun x5 x6 x7 x8 =>
 (binop .lss x8 x7).bind fun v9 =>
 asB v9 fun b10 => cond b10
 (asI x8 fun i11 =>
 elemP x5 i11 7 fun p12 o13 =>
 (h4.rd p12 o13 7).bind fun l14 =>
 un7 l14 fun x15 x16 x17 x18 x19 x20 x21 =>
 bindC (F.callV x6 [(.agg [x15, x16, x17, x18, x19, x20, x21])] h4) (fun v22 h23 =>
 asB v22 fun b24 => cond b24
 (some (.ret x8, h23, none))
 ((binop .add x8 (.int .i64 1)).bind fun v25 =>
 self2 [x5, x6, x7, v25] h23))
 (fun v26 h27 => some (.panic v26, h27, none)))
 (some (.ret (.int .i64 (-1)), h4, none))) n [a0, a1, v1, (.int .i64 0)] h

/-- countermand/deal.place$1 -/
noncomputable def f324 (n : Nat) (F : Fns) (a0 a1 : AV) (h : Heap) : R :=
 unA7 a0 fun x1 x2 x3 x4 x5 x6 x7 =>
 asPtr a1 fun p8 o9 =>
 (h.rd p8 o9 2).bind fun l10 =>
 un2 l10 fun x11 x12 =>
 (eqop P false false 48 (.agg [x1, x2]) (.agg [x11, x12])).bind fun v13 =>
 some (.ret v13, h, none)

/-- countermand/ident.Less -/
noncomputable def f325 (n : Nat) (F : Fns) (a0 a1 : AV) (h : Heap) : R :=
 unA2 a0 fun x1 x2 =>
 unA2 a1 fun x3 x4 =>
 bindC (F.plain 332 [(.agg [x1, x2]), (.agg [x3, x4])] h) (fun v5 h6 =>
 (binop .lss v5 (.int .i64 0)).bind fun v7 =>
 some (.ret v7, h6, none))
 (fun v8 h9 => some (.panic v8, h9, none))

noncomputable def f326_1 (n : Nat) (F : Fns) (v10 : AV) (x9 : AV) (x7 : AV) (h4 : Heap) (x6 : AV) (self2 : List AV → Heap → R) (x5 : AV) (x8 : AV) : R :=
 asB v10 fun b11 => cond b11
 (asI x9 fun i12 =>
 elemP x7 i12 1 fun p13 o14 =>
 (h4.rd p13 o14 1).bind fun l15 =>
 un1 l15 fun x16 =>
 (lenA P 107 x16).bind fun v17 =>
 (binop .add x6 v17).bind fun v18 =>
 (binop .lss v18 (.int .i64 0)).bind fun v19 =>
 asB v19 fun b20 => cond b20
 (some (.panic (.iface 9 (.str ⟨#[108, 101, 110, 32, 111, 117, 116, 32, 111, 102, 32, 114, 97, 110, 103, 101]⟩)), h4, none))
 ((binop .add x9 (.int .i64 1)).bind fun v21 =>
 self2 [x5, v18, x7, x8, v21] h4))
 (bindC (F.plain 333 [.nilSlice, x6] h4) (fun v22 h23 =>
 (lenA P 411 x5).bind fun v24 =>
 loopV (fun vs26 h27 self25 => un4 vs26 fun x28 x29 x30 x31 =>
 (binop .lss x31 x30).bind fun v32 =>
 asB v32 fun b33 => cond b33
 (asI x31 fun i34 =>
 elemP x29 i34 1 fun p35 o36 =>
 (h27.rd p35 o36 1).bind fun l37 =>
 un1 l37 fun x38 =>
 (opAppend P h27 107 107 x28 x38).bind fun r39 =>
 (binop .add x31 (.int .i64 1)).bind fun v40 =>
 self25 [r39.1, x29, x30, v40] r39.2)
 (some (.ret x28, h27, none))) n [v22, x5, v24, (.int .i64 0)] h23)
 (fun v41 h42 => some (.panic v41, h42, none)))
/-- slices.Concat[[]countermand/api.Order,countermand/api.Order] -/
noncomputable def f326 (n : Nat) (F : Fns) (a0 : AV) (h : Heap) : R :=
 (lenA P 411 a0).bind fun v1 =>
 loopV (fun vs3 h4 self2 => un5 vs3 fun x5 x6 x7 x8 x9 =>
 (binop .lss x9 x8).bind fun v10 =>
 f326_1 n F v10 x9 x7 h4 x6 self2 x5 x8) n [a0, (.int .i64 0), a0, v1, (.int .i64 0)] h

noncomputable def f327_1 (n : Nat) (F : Fns) (a1 : AV) (x1 : AV) (x2 : AV) (x3 : AV) (x4 : AV) (x5 : AV) (x6 : AV) (x7 : AV) (x8 : AV) (x9 : AV) (x10 : AV) (x11 : AV) (x12 : AV) (x13 : AV) (x14 : AV) (x15 : AV) (x16 : AV) (x17 : AV) (x18 : AV) (x19 : AV) (x20 : AV) (x21 : AV) (x22 : AV) (x23 : AV) (x24 : AV) (x25 : AV) (h : Heap) : R :=
 unA2 a1 fun x26 x27 =>
 bindC (F.plain 317 [(.agg [x1, x2, x3, x4, x5, x6, x7, x8, x9, x10, x11, x12, x13, x14, x15, x16, x17, x18, x19, x20, x21, x22, x23, x24, x25]), (.agg [x26, x27])] h) (fun v28 h29 =>
 (binop .lss v28 (.int .i64 0)).bind fun v30 =>
 asB v30 fun b31 => cond b31
 (some (.ret (.tup [(.agg [(.int .i64 0), (.int .i64 0), (.int .i64 0), (.int .i64 0), (.int .i64 0), (.int .i64 0), (.int .i64 0)]), (.bool false)]), h29, none))
 (asI v28 fun i32 =>
 elemP x25 i32 7 fun p33 o34 =>
 (h29.rd p33 o34 7).bind fun l35 =>
 un7 l35 fun x36 x37 x38 x39 x40 x41 x42 =>
 some (.ret (.tup [(.agg [x36, x37, x38, x39, x40, x41, x42]), (.bool true)]), h29, none)))
 (fun v43 h44 => some (.panic v43, h44, none))
/-- countermand/deal.Find -/
noncomputable def f327 (n : Nat) (F : Fns) (a0 a1 : AV) (h : Heap) : R :=
 unA25 a0 fun x1 x2 x3 x4 x5 x6 x7 x8 x9 x10 x11 x12 x13 x14 x15 x16 x17 x18 x19 x20 x21 x22 x23 x24 x25 =>
 f327_1 n F a1 x1 x2 x3 x4 x5 x6 x7 x8 x9 x10 x11 x12 x13 x14 x15 x16 x17 x18 x19 x20 x21 x22 x23 x24 x25 h

/-- slices.Contains[[]int,int] -/
noncomputable def f328 (n : Nat) (F : Fns) (a0 a1 : AV) (h : Heap) : R :=
 bindC (F.plain 334 [a0, a1] h) (fun v1 h2 =>
 (binop .geq v1 (.int .i64 0)).bind fun v3 =>
 some (.ret v3, h2, none))
 (fun v4 h5 => some (.panic v4, h5, none))

noncomputable def f329_1 (n : Nat) (F : Fns) (a0 : AV) (a1 : AV) (h : Heap) : R :=
 (binop .and a0 (.int .u64 4294967295)).bind fun v1 =>
 (binop .shr a0 (.int .u64 32)).bind fun v2 =>
 (binop .and a1 (.int .u64 4294967295)).bind fun v3 =>
 (binop .shr a1 (.int .u64 32)).bind fun v4 =>
 (binop .mul v1 v3).bind fun v5 =>
 (binop .mul v2 v3).bind fun v6 =>
 (binop .shr v5 (.int .u64 32)).bind fun v7 =>
 (binop .add v6 v7).bind fun v8 =>
 (binop .and v8 (.int .u64 4294967295)).bind fun v9 =>
 (binop .shr v8 (.int .u64 32)).bind fun v10 =>
 (binop .mul v1 v4).bind fun v11 =>
 (binop .add v9 v11).bind fun v12 =>
 (binop .mul v2 v4).bind fun v13 =>
 (binop .add v13 v10).bind fun v14 =>
 (binop .shr v12 (.int .u64 32)).bind fun v15 =>
 (binop .add v14 v15).bind fun v16 =>
 (binop .mul a0 a1).bind fun v17 =>
 some (.ret (.tup [v16, v17]), h, none)
/-- math/bits.Mul64 -/
noncomputable def f329 (n : Nat) (F : Fns) (a0 a1 : AV) (h : Heap) : R :=
 f329_1 n F a0 a1 h

/-- countermand/num.size -/
noncomputable def f330 (n : Nat) (F : Fns) (a0 : AV) (h : Heap) : R :=
 (binop .lss a0 (.int .i64 0)).bind fun v1 =>
 asB v1 fun b2 => cond b2
 ((convertA P 2 277 a0).bind fun v3 =>
 (unop .neg v3).bind fun v4 =>
 some (.ret v4, h, none))
 ((convertA P 2 277 a0).bind fun v5 =>
 some (.ret v5, h, none))

/-- cmp.isNaN[int] -/
noncomputable def f331 (n : Nat) (F : Fns) (a0 : AV) (h : Heap) : R :=
 (eqop P false true 3 a0 a0).bind fun v1 =>
 some (.ret v1, h, none)

/-- countermand/ident.order -/
noncomputable def f332 (n : Nat) (F : Fns) (a0 a1 : AV) (h : Heap) : R :=
 unA2 a0 fun x1 x2 =>
 unA2 a1 fun x3 x4 =>
 bindC (F.plain 322 [x2, x4] h) (fun v5 h6 =>
 bindC (F.plain 322 [x1, x3] h6) (fun v7 h8 =>
 (opBuildSlice P h8 269 2 [(0, v5), (1, v7)]).bind fun r9 =>
 bindC (F.plain 321 [r9.1] r9.2) (fun v10 h11 =>
 some (.ret v10, h11, none))
 (fun v12 h13 => some (.panic v12, h13, none)))
 (fun v14 h15 => some (.panic v14, h15, none)))
 (fun v16 h17 => none)

/-- slices.Grow[[]countermand/api.Order,countermand/api.Order] -/
noncomputable def f333 (n : Nat) (F : Fns) (a0 a1 : AV) (h : Heap) : R :=
 (binop .lss a1 (.int .i64 0)).bind fun v1 =>
 asB v1 fun b2 => cond b2
 (some (.panic (.iface 9 (.str ⟨#[99, 97, 110, 110, 111, 116, 32, 98, 101, 32, 110, 101, 103, 97, 116, 105, 118, 101]⟩)), h, none))
 ((capA P 107 a0).bind fun v3 =>
 (lenA P 107 a0).bind fun v4 =>
 (binop .sub v3 v4).bind fun v5 =>
 (binop .sub a1 v5).bind fun v6 =>
 (binop .gtr v6 (.int .i64 0)).bind fun v7 =>
 asB v7 fun b8 => cond b8
 ((capA P 107 a0).bind fun v9 =>
 (sliceA P h 107 a0 none (some v9) none).bind fun v10 =>
 (opAppend P h 107 3 v10 v6).bind fun r11 =>
 (lenA P 107 a0).bind fun v12 =>
 (sliceA P r11.2 107 r11.1 none (some v12) none).bind fun v13 =>
 some (.ret v13, r11.2, none))
 (some (.ret a0, h, none)))

/-- slices.Index[[]int,int] -/
noncomputable def f334 (n : Nat) (F : Fns) (a0 a1 : AV) (h : Heap) : R :=
 (lenA P 269 a0).bind fun v1 =>
 loopV (fun vs3 h4 self2 => un4 vs3 fun x5 x6 x7 x8 =>
 (binop .lss x8 x7).bind fun v9 =>
 asB v9 fun b10 => cond b10
 (asI x8 fun i11 =>
 elemP x5 i11 1 fun p12 o13 =>
 (h4.rd p12 o13 1).bind fun l14 =>
 un1 l14 fun x15 =>
 (eqop P false false 3 x6 x15).bind fun v16 =>
 asB v16 fun b17 => cond b17
 (some (.ret x8, h4, none))
 ((binop .add x8 (.int .i64 1)).bind fun v18 =>
 self2 [x5, x6, x7, v18] h4))
 (some (.ret (.int .i64 (-1)), h4, none))) n [a0, a1, v1, (.int .i64 0)] h
end Go.Proofs.YtahbihcbidkbaaaGreat.Ev

/-
  Printed by mk.py: the equations with the evaluator.
-/
set_option maxRecDepth 100000
set_option maxHeartbeats 4000000
namespace Go.Proofs.YtahbihcbidkbaaaGreat.Ev
open Go
theorem f323_eq (n : Nat) (F : Fns) (a0 a1 : AV) (h : Heap) : callStep cx n F 323 [a0, a1] h none = f323 n F a0 a1 h := by kernel_rfl
theorem f324_eq (n : Nat) (F : Fns) (a0 a1 : AV) (h : Heap) : callStep cx n F 324 [a0, a1] h none = f324 n F a0 a1 h := by kernel_rfl
theorem f325_eq (n : Nat) (F : Fns) (a0 a1 : AV) (h : Heap) : callStep cx n F 325 [a0, a1] h none = f325 n F a0 a1 h := by kernel_rfl
theorem f326_eq (n : Nat) (F : Fns) (a0 : AV) (h : Heap) : callStep cx n F 326 [a0] h none = f326 n F a0 h := by kernel_rfl
theorem f327_eq (n : Nat) (F : Fns) (a0 a1 : AV) (h : Heap) : callStep cx n F 327 [a0, a1] h none = f327 n F a0 a1 h := by kernel_rfl
theorem f328_eq (n : Nat) (F : Fns) (a0 a1 : AV) (h : Heap) : callStep cx n F 328 [a0, a1] h none = f328 n F a0 a1 h := by kernel_rfl
theorem f329_eq (n : Nat) (F : Fns) (a0 a1 : AV) (h : Heap) : callStep cx n F 329 [a0, a1] h none = f329 n F a0 a1 h := by kernel_rfl
theorem f330_eq (n : Nat) (F : Fns) (a0 : AV) (h : Heap) : callStep cx n F 330 [a0] h none = f330 n F a0 h := by kernel_rfl
theorem f331_eq (n : Nat) (F : Fns) (a0 : AV) (h : Heap) : callStep cx n F 331 [a0] h none = f331 n F a0 h := by kernel_rfl
theorem f332_eq (n : Nat) (F : Fns) (a0 a1 : AV) (h : Heap) : callStep cx n F 332 [a0, a1] h none = f332 n F a0 a1 h := by kernel_rfl
theorem f333_eq (n : Nat) (F : Fns) (a0 a1 : AV) (h : Heap) : callStep cx n F 333 [a0, a1] h none = f333 n F a0 a1 h := by kernel_rfl
theorem f334_eq (n : Nat) (F : Fns) (a0 a1 : AV) (h : Heap) : callStep cx n F 334 [a0, a1] h none = f334 n F a0 a1 h := by kernel_rfl
end Go.Proofs.YtahbihcbidkbaaaGreat.Ev
