/-
  Printed by mk.py: the functions as the evaluator has them.
-/
import Derived.Test.YtahbihcbidkbaaaGreatJt
import Derived.KernelRfl
set_option linter.unusedVariables false
set_option maxRecDepth 100000
namespace Go.Proofs.YtahbihcbidkbaaaGreat.Ev
open Go
noncomputable def f209_1 (n : Nat) (F : Fns) (v38 : AV) (x25 : AV) (x26 : AV) (h37 : Heap) (x14 : AV) (x17 : AV) (self9 : List AV → Heap → R) (x12 : AV) (x13 : AV) (x15 : AV) (x16 : AV) (x18 : AV) : R :=
 asB v38 fun b39 => cond b39
 (bindC (F.plain 74 [(.agg [x25, x26])] h37) (fun v40 h41 =>
 bindC (F.plain 134 [x14, v40] h41) (fun v42 h43 =>
 (eqop P true false 41 v42 (.int .i64 0)).bind fun v44 =>
 bindC (F.plain 252 [v44] h43) (fun v45 h46 =>
 unT0 v45 fun _u =>
 (binop .add x17 (.int .i64 1)).bind fun v47 =>
 self9 [x12, x13, x14, x15, x16, v47, x18] h46)
 (fun v48 h49 => some (.panic v48, h49, none)))
 (fun v50 h51 => some (.panic v50, h51, none)))
 (fun v52 h53 => some (.panic v52, h53, none)))
 (bindC (F.plain 252 [(.bool false)] h37) (fun v54 h55 =>
 unT0 v54 fun _u =>
 (binop .add x17 (.int .i64 1)).bind fun v56 =>
 self9 [x12, x13, x14, x15, x16, v56, x18] h55)
 (fun v57 h58 => some (.panic v57, h58, none)))
noncomputable def f209_2 (n : Nat) (F : Fns) (v142 : AV) (x111 : AV) (x113 : AV) (h143 : Heap) (x112 : AV) : R :=
 (eqop P false false 3 v142 x111).bind fun v144 =>
 asB v144 fun b145 => cond b145
 (bindC (F.plain 136 [x113] h143) (fun v146 h147 =>
 (cellsOf P h147 5 v146).bind fun l148 =>
 (bytesA l148).bind fun bs149 =>
 (cellsOf P h147 5 x112).bind fun l150 =>
 same (cellsOf P h143 5 x112) l150
 ((bytesA l150).bind fun bs151 =>
 (eqop P false false 9 (.str ⟨bs149.toArray⟩) (.str ⟨bs151.toArray⟩)).bind fun v152 =>
 bindC (F.plain 252 [v152] h147) (fun v153 h154 =>
 unT0 v153 fun _u =>
 some (.ret x113, h154, none))
 (fun v155 h156 => some (.panic v155, h156, none))))
 (fun v157 h158 => none))
 (bindC (F.plain 252 [(.bool false)] h143) (fun v159 h160 =>
 unT0 v159 fun _u =>
 some (.ret x113, h160, none))
 (fun v161 h162 => some (.panic v161, h162, none)))
noncomputable def f209_3 (n : Nat) (F : Fns) (v117 : AV) (x113 : AV) (h110 : Heap) (x115 : AV) (x116 : AV) (self108 : List AV → Heap → R) (x111 : AV) (x112 : AV) (x114 : AV) : R :=
 asB v117 fun b118 => cond b118
 (bindC (F.plain 119 [x113] h110) (fun v119 h120 =>
 (binop .add x115 (.int .i64 1)).bind fun v121 =>
 scal v119 fun v122 =>
 scal v121 fun v123 =>
 bindC (F.plain 254 [(.agg [x116]), (.agg [v122, v123])] h120) (fun v124 h125 =>
 bindC (F.plain 253 [x113, v124] h125) (fun v126 h127 =>
 bindC (F.plain 252 [v126] h127) (fun v128 h129 =>
 unT0 v128 fun _u =>
 (binop .add x115 (.int .i64 1)).bind fun v130 =>
 self108 [x111, x112, x113, x114, v130, x116] h129)
 (fun v131 h132 => some (.panic v131, h132, none)))
 (fun v133 h134 => some (.panic v133, h134, none)))
 (fun v135 h136 => some (.panic v135, h136, none)))
 (fun v137 h138 => none))
 (bindC (F.plain 234 [x116] h110) (fun v139 h140 =>
 asB v139 fun b141 => cond b141
 (bindC (F.plain 119 [x113] h140) (fun v142 h143 =>
 f209_2 n F v142 x111 x113 h143 x112)
 (fun v163 h164 => none))
 (bindC (F.plain 252 [(.bool false)] h140) (fun v165 h166 =>
 unT0 v165 fun _u =>
 some (.ret x113, h166, none))
 (fun v167 h168 => some (.panic v167, h168, none))))
 (fun v169 h170 => some (.panic v169, h170, none)))
noncomputable def f209_4 (n : Nat) (F : Fns) (v76 : AV) (x74 : AV) (x72 : AV) (h68 : Heap) (x71 : AV) (self66 : List AV → Heap → R) (x69 : AV) (x70 : AV) (x73 : AV) (x75 : AV) : R :=
 asB v76 fun b77 => cond b77
 (asI x74 fun i78 =>
 elemP x72 i78 9 fun p79 o80 =>
 (h68.rd p79 o80 9).bind fun l81 =>
 un9 l81 fun x82 x83 x84 x85 x86 x87 x88 x89 x90 =>
 bindC (F.plain 109 [(.agg [x82, x83, x84, x85, x86, x87, x88, x89, x90])] h68) (fun v91 h92 =>
 bindC (F.plain 134 [x71, v91] h92) (fun v93 h94 =>
 (eqop P true false 41 v93 (.int .i64 0)).bind fun v95 =>
 bindC (F.plain 252 [v95] h94) (fun v96 h97 =>
 unT0 v96 fun _u =>
 (binop .add x74 (.int .i64 1)).bind fun v98 =>
 self66 [x69, x70, x71, x72, x73, v98, x75] h97)
 (fun v99 h100 => some (.panic v99, h100, none)))
 (fun v101 h102 => some (.panic v101, h102, none)))
 (fun v103 h104 => some (.panic v103, h104, none)))
 (bindC (F.plain 200 [x71] h68) (fun v105 h106 =>
 (lenA P 300 v105).bind fun v107 =>
 loopV (fun vs109 h110 self108 => un6 vs109 fun x111 x112 x113 x114 x115 x116 =>
 (binop .lss x115 x114).bind fun v117 =>
 f209_3 n F v117 x113 h110 x115 x116 self108 x111 x112 x114) n [x69, x70, x71, v107, (.int .i64 0), x75] h106)
 (fun v171 h172 => some (.panic v171, h172, none)))
noncomputable def f209_5 (n : Nat) (F : Fns) (v19 : AV) (x17 : AV) (x15 : AV) (h11 : Heap) (x14 : AV) (self9 : List AV → Heap → R) (x12 : AV) (x13 : AV) (x16 : AV) (x18 : AV) : R :=
 asB v19 fun b20 => cond b20
 (asI x17 fun i21 =>
 elemP x15 i21 9 fun p22 o23 =>
 (h11.rd p22 o23 9).bind fun l24 =>
 un9 l24 fun x25 x26 x27 x28 x29 x30 x31 x32 x33 =>
 bindC (F.plain 109 [(.agg [x25, x26, x27, x28, x29, x30, x31, x32, x33])] h11) (fun v34 h35 =>
 bindC (F.plain 134 [x14, v34] h35) (fun v36 h37 =>
 (eqop P true false 41 v36 (.int .i64 0)).bind fun v38 =>
 f209_1 n F v38 x25 x26 h37 x14 x17 self9 x12 x13 x15 x16 x18)
 (fun v59 h60 => some (.panic v59, h60, none)))
 (fun v61 h62 => some (.panic v61, h62, none)))
 (bindC (F.plain 251 [(.agg [x18])] h11) (fun v63 h64 =>
 (lenA P 67 v63).bind fun v65 =>
 loopV (fun vs67 h68 self66 => un7 vs67 fun x69 x70 x71 x72 x73 x74 x75 =>
 (binop .lss x74 x73).bind fun v76 =>
 f209_4 n F v76 x74 x72 h68 x71 self66 x69 x70 x73 x75) n [x12, x13, x14, v63, v65, (.int .i64 0), x18] h64)
 (fun v173 h174 => some (.panic v173, h174, none)))
/-- countermand/image.read -/
noncomputable def f209 (n : Nat) (F : Fns) (a0 a1 : AV) (h : Heap) : R :=
 bindC (F.plain 150 [a0] h) (fun v1 h2 =>
 bindC (F.plain 127 [a1] h2) (fun v3 h4 =>
 scal v3 fun v5 =>
 bindC (F.plain 251 [(.agg [v5])] h4) (fun v6 h7 =>
 (lenA P 67 v6).bind fun v8 =>
 loopV (fun vs10 h11 self9 => un7 vs10 fun x12 x13 x14 x15 x16 x17 x18 =>
 (binop .lss x17 x16).bind fun v19 =>
 f209_5 n F v19 x17 x15 h11 x14 self9 x12 x13 x16 x18) n [a0, a1, v1, v6, v8, (.int .i64 0), v5] h7)
 (fun v175 h176 => some (.panic v175, h176, none)))
 (fun v177 h178 => some (.panic v177, h178, none)))
 (fun v179 h180 => some (.panic v179, h180, none))

/-- countermand/record.Get$1 -/
noncomputable def f210 (n : Nat) (F : Fns) (a0 a1 : AV) (h : Heap) : R :=
 asPtr a1 fun p1 o2 =>
 (h.rd p1 o2 1).bind fun l3 =>
 un1 l3 fun x4 =>
 bindC (F.plain 177 [x4, a0] h) (fun v5 h6 =>
 unT2 v5 fun x7 x8 =>
 (convertA P 277 3 x7).bind fun v9 =>
 some (.ret v9, h6, none))
 (fun v10 h11 => some (.panic v10, h11, none))

noncomputable def f211_1 (n : Nat) (F : Fns) (v41 : AV) (h40 : Heap) (v10 : AV) (v11 : AV) (v20 : AV) (v21 : AV) (v22 : AV) (v23 : AV) (v26 : AV) (v31 : AV) (v32 : AV) : R :=
 asB v41 fun b42 => cond b42
 (some (.ret (.tup [(.agg [(.int .i64 0), (.int .i64 0), (.int .i64 0), (.int .i64 0), (.int .i64 0), (.int .i64 0), (.int .i64 0), (.int .i64 0), (.int .i64 0)]), (.int .i64 16)]), h40, none))
 (bindC (F.plain 156 [(.agg [v10, v11, v20, v21, v22, v23, v26, v31, v32])] h40) (fun v43 h44 =>
 (eqop P true true 41 v43 (.int .i64 0)).bind fun v45 =>
 asB v45 fun b46 => cond b46
 (some (.ret (.tup [(.agg [(.int .i64 0), (.int .i64 0), (.int .i64 0), (.int .i64 0), (.int .i64 0), (.int .i64 0), (.int .i64 0), (.int .i64 0), (.int .i64 0)]), (.int .i64 16)]), h44, none))
 (some (.ret (.tup [(.agg [v10, v11, v20, v21, v22, v23, v26, v31, v32]), (.int .i64 0)]), h44, none)))
 (fun v47 h48 => some (.panic v47, h48, none)))
noncomputable def f211_2 (n : Nat) (F : Fns) (h2 : Heap) (h28 : Heap) (v27 : AV) (v10 : AV) (v11 : AV) (v20 : AV) (v21 : AV) (v22 : AV) (v23 : AV) (v26 : AV) : R :=
 bindC (F.plain 255 [(.int .i64 2), (.ptr (some (h2.next, 0)))] h28) (fun v29 h30 =>
 scal v27 fun v31 =>
 scal v29 fun v32 =>
 bindC (F.plain 255 [(.int .i64 1), (.ptr (some (h2.next, 0)))] h30) (fun v33 h34 =>
 (eqop P true true 3 v33 (.int .i64 67)).bind fun v35 =>
 asB v35 fun b36 => cond b36
 (some (.ret (.tup [(.agg [(.int .i64 0), (.int .i64 0), (.int .i64 0), (.int .i64 0), (.int .i64 0), (.int .i64 0), (.int .i64 0), (.int .i64 0), (.int .i64 0)]), (.int .i64 16)]), h34, none))
 ((h34.rd h2.next 0 1).bind fun l37 =>
 un1 l37 fun x38 =>
 bindC (F.plain 234 [x38] h34) (fun v39 h40 =>
 (unop .not v39).bind fun v41 =>
 f211_1 n F v41 h40 v10 v11 v20 v21 v22 v23 v26 v31 v32)
 (fun v49 h50 => some (.panic v49, h50, none))))
 (fun v51 h52 => some (.panic v51, h52, none)))
 (fun v53 h54 => some (.panic v53, h54, none))
noncomputable def f211_3 (n : Nat) (F : Fns) (h2 : Heap) (h13 : Heap) (v12 : AV) (v10 : AV) (v11 : AV) : R :=
 bindC (F.plain 255 [(.int .i64 1), (.ptr (some (h2.next, 0)))] h13) (fun v14 h15 =>
 bindC (F.plain 255 [(.int .i64 1), (.ptr (some (h2.next, 0)))] h15) (fun v16 h17 =>
 bindC (F.plain 255 [(.int .i64 1), (.ptr (some (h2.next, 0)))] h17) (fun v18 h19 =>
 scal v12 fun v20 =>
 scal v14 fun v21 =>
 scal v16 fun v22 =>
 scal v18 fun v23 =>
 bindC (F.plain 255 [(.int .i64 8), (.ptr (some (h2.next, 0)))] h19) (fun v24 h25 =>
 scal v24 fun v26 =>
 bindC (F.plain 255 [(.int .i64 1), (.ptr (some (h2.next, 0)))] h25) (fun v27 h28 =>
 f211_2 n F h2 h28 v27 v10 v11 v20 v21 v22 v23 v26)
 (fun v55 h56 => some (.panic v55, h56, none)))
 (fun v57 h58 => some (.panic v57, h58, none)))
 (fun v59 h60 => some (.panic v59, h60, none)))
 (fun v61 h62 => some (.panic v61, h62, none)))
 (fun v63 h64 => some (.panic v63, h64, none))
/-- countermand/change.Get -/
noncomputable def f211 (n : Nat) (F : Fns) (a0 : AV) (h : Heap) : R :=
 bindC (F.plain 127 [a0] h) (fun v1 h2 =>
 let h3 := h2.push (.cells [(.ptr none)] 1)
 scal v1 fun v4 =>
 (h3.wr h2.next 0 [v4]).bind fun h5 =>
 bindC (F.plain 255 [(.int .i64 1), (.ptr (some (h2.next, 0)))] h5) (fun v6 h7 =>
 bindC (F.plain 255 [(.int .i64 2), (.ptr (some (h2.next, 0)))] h7) (fun v8 h9 =>
 scal v6 fun v10 =>
 scal v8 fun v11 =>
 bindC (F.plain 255 [(.int .i64 4), (.ptr (some (h2.next, 0)))] h9) (fun v12 h13 =>
 f211_3 n F h2 h13 v12 v10 v11)
 (fun v65 h66 => some (.panic v65, h66, none)))
 (fun v67 h68 => some (.panic v67, h68, none)))
 (fun v69 h70 => some (.panic v69, h70, none)))
 (fun v71 h72 => some (.panic v71, h72, none))

/-- countermand/vector.there -/
noncomputable def f212 (n : Nat) (F : Fns) (a0 : AV) (h : Heap) : R :=
 (binop .geq a0 (.int .i64 0)).bind fun v1 =>
 asB v1 fun b2 => cond b2
 ((binop .lss a0 (.int .i64 4)).bind fun v3 =>
 some (.ret v3, h, none))
 (some (.ret (.bool false), h, none))

/-- countermand/ident.May -/
noncomputable def f213 (n : Nat) (F : Fns) (a0 : AV) (h : Heap) : R :=
 unA2 a0 fun x1 x2 =>
 (binop .geq x1 (.int .i64 0)).bind fun v3 =>
 asB v3 fun b4 => cond b4
 ((binop .lss x1 (.int .i64 4)).bind fun v5 =>
 asB v5 fun b6 => cond b6
 (bindC (F.plain 62 [x2, (.int .i64 1), (.int .i64 65535)] h) (fun v7 h8 =>
 some (.ret v7, h8, none))
 (fun v9 h10 => some (.panic v9, h10, none)))
 (some (.ret (.bool false), h, none)))
 (some (.ret (.bool false), h, none))

noncomputable def f214_1 (n : Nat) (F : Fns) (x7 : AV) (h11 : Heap) (h26 : Heap) (x8 : AV) (x9 : AV) : R :=
 bindC (F.plain 256 [x7, (.int .i64 8), (.ptr (some (h11.next, 0)))] h26) (fun v27 h28 =>
 unT0 v27 fun _u =>
 bindC (F.plain 256 [x8, (.int .i64 1), (.ptr (some (h11.next, 0)))] h28) (fun v29 h30 =>
 unT0 v29 fun _u =>
 bindC (F.plain 256 [x9, (.int .i64 2), (.ptr (some (h11.next, 0)))] h30) (fun v31 h32 =>
 unT0 v31 fun _u =>
 bindC (F.plain 256 [(.int .i64 67), (.int .i64 1), (.ptr (some (h11.next, 0)))] h32) (fun v33 h34 =>
 unT0 v33 fun _u =>
 (h34.rd h11.next 0 1).bind fun l35 =>
 un1 l35 fun x36 =>
 some (.ret (.tup [x36, (.int .i64 0)]), h34, none))
 (fun v37 h38 => some (.panic v37, h38, none)))
 (fun v39 h40 => some (.panic v39, h40, none)))
 (fun v41 h42 => some (.panic v41, h42, none)))
 (fun v43 h44 => some (.panic v43, h44, none))
noncomputable def f214_2 (n : Nat) (F : Fns) (x2 : AV) (h11 : Heap) (h16 : Heap) (x3 : AV) (x4 : AV) (x5 : AV) (x6 : AV) (x7 : AV) (x8 : AV) (x9 : AV) : R :=
 bindC (F.plain 256 [x2, (.int .i64 2), (.ptr (some (h11.next, 0)))] h16) (fun v17 h18 =>
 unT0 v17 fun _u =>
 bindC (F.plain 256 [x3, (.int .i64 4), (.ptr (some (h11.next, 0)))] h18) (fun v19 h20 =>
 unT0 v19 fun _u =>
 bindC (F.plain 256 [x4, (.int .i64 1), (.ptr (some (h11.next, 0)))] h20) (fun v21 h22 =>
 unT0 v21 fun _u =>
 bindC (F.plain 256 [x5, (.int .i64 1), (.ptr (some (h11.next, 0)))] h22) (fun v23 h24 =>
 unT0 v23 fun _u =>
 bindC (F.plain 256 [x6, (.int .i64 1), (.ptr (some (h11.next, 0)))] h24) (fun v25 h26 =>
 unT0 v25 fun _u =>
 f214_1 n F x7 h11 h26 x8 x9)
 (fun v45 h46 => some (.panic v45, h46, none)))
 (fun v47 h48 => some (.panic v47, h48, none)))
 (fun v49 h50 => some (.panic v49, h50, none)))
 (fun v51 h52 => some (.panic v51, h52, none)))
 (fun v53 h54 => some (.panic v53, h54, none))
/-- countermand/change.Put -/
noncomputable def f214 (n : Nat) (F : Fns) (a0 : AV) (h : Heap) : R :=
 unA9 a0 fun x1 x2 x3 x4 x5 x6 x7 x8 x9 =>
 bindC (F.plain 156 [(.agg [x1, x2, x3, x4, x5, x6, x7, x8, x9])] h) (fun v10 h11 =>
 (eqop P true true 41 v10 (.int .i64 0)).bind fun v12 =>
 asB v12 fun b13 => cond b13
 (some (.ret (.tup [.nilSlice, v10]), h11, none))
 (let h14 := h11.push (.cells [.nilSlice] 1)
 bindC (F.plain 256 [x1, (.int .i64 1), (.ptr (some (h11.next, 0)))] h14) (fun v15 h16 =>
 unT0 v15 fun _u =>
 f214_2 n F x2 h11 h16 x3 x4 x5 x6 x7 x8 x9)
 (fun v55 h56 => some (.panic v55, h56, none))))
 (fun v57 h58 => some (.panic v57, h58, none))

/-- countermand/record.id -/
noncomputable def f215 (n : Nat) (F : Fns) (a0 a1 : AV) (h : Heap) : R :=
 unA2 a1 fun x1 x2 =>
 (convertA P 3 277 x1).bind fun v3 =>
 bindC (F.plain 216 [a0, v3, (.int .i64 1)] h) (fun v4 h5 =>
 (convertA P 3 277 x2).bind fun v6 =>
 bindC (F.plain 216 [v4, v6, (.int .i64 2)] h5) (fun v7 h8 =>
 some (.ret v7, h8, none))
 (fun v9 h10 => some (.panic v9, h10, none)))
 (fun v11 h12 => none)

noncomputable def f216_1 (n : Nat) (F : Fns) (h : Heap) (a0 : AV) (a2 : AV) (a1 : AV) : R :=
 (opAppend P (h.push (.cells [] 1)) 155 155 (.slice h.next 0 0 0 (.ex 0)) a0).bind fun r1 =>
 (binop .lss a2 (.int .i64 1)).bind fun v2 =>
 asB v2 fun b3 => cond b3
 (some (.ret r1.1, r1.2, none))
 ((binop .gtr a2 (.int .i64 8)).bind fun v4 =>
 asB v4 fun b5 => cond b5
 (some (.ret r1.1, r1.2, none))
 ((binop .sub a2 (.int .i64 1)).bind fun v6 =>
 loopV (fun vs8 h9 self7 => un3 vs8 fun x10 x11 x12 =>
 (binop .geq x12 (.int .i64 0)).bind fun v13 =>
 asB v13 fun b14 => cond b14
 ((binop .mul (.int .i64 8) x12).bind fun v15 =>
 (binop .shr x10 v15).bind fun v16 =>
 (convertA P 277 5 v16).bind fun v17 =>
 scal v17 fun v18 =>
 (appendA P h9 5 x11 1 [v18]).bind fun r19 =>
 (binop .sub x12 (.int .i64 1)).bind fun v20 =>
 self7 [x10, r19.1, v20] r19.2)
 (some (.ret x11, h9, none))) n [a1, r1.1, v6] r1.2))
/-- countermand/octet.Put -/
noncomputable def f216 (n : Nat) (F : Fns) (a0 a1 a2 : AV) (h : Heap) : R :=
 f216_1 n F h a0 a2 a1

/-- (*countermand/wal.Log).Room -/
noncomputable def f217 (n : Nat) (F : Fns) (a0 : AV) (h : Heap) : R :=
 bindC (F.plain 113 [a0] h) (fun v1 h2 =>
 (unop .not v1).bind fun v3 =>
 asB v3 fun b4 => cond b4
 (some (.ret (.int .i64 0), h2, none))
 (notNil a0 fun v5 =>
 asPtr v5 fun p6 o7 =>
 (h2.rd p6 ((o7 + 0) + 1) 1).bind fun l8 =>
 un1 l8 fun x9 =>
 (binop .mul x9 (.int .i64 32)).bind fun v10 =>
 notNil a0 fun v11 =>
 asPtr v11 fun p12 o13 =>
 (h2.rd p12 (o13 + 4) 1).bind fun l14 =>
 un1 l14 fun x15 =>
 (binop .sub v10 x15).bind fun v16 =>
 notNil a0 fun v17 =>
 asPtr v17 fun p18 o19 =>
 (h2.rd p18 (o19 + 5) 1).bind fun l20 =>
 un1 l20 fun x21 =>
 (lenA P 155 x21).bind fun v22 =>
 (binop .sub v16 v22).bind fun v23 =>
 some (.ret v23, h2, none)))
 (fun v24 h25 => some (.panic v24, h25, none))

noncomputable def f218_1 (n : Nat) (F : Fns) (x10 : AV) (x59 : AV) (h58 : Heap) (x60 : AV) (x9 : AV) (x13 : AV) (self6 : List AV → Heap → R) (x11 : AV) (x12 : AV) : R :=
 asPtr x10 fun p61 o62 =>
 unA25 x59 fun x63 x64 x65 x66 x67 x68 x69 x70 x71 x72 x73 x74 x75 x76 x77 x78 x79 x80 x81 x82 x83 x84 x85 x86 x87 =>
 (h58.wr p61 o62 [x63, x64, x65, x66, x67, x68, x69, x70, x71, x72, x73, x74, x75, x76, x77, x78, x79, x80, x81, x82, x83, x84, x85, x86, x87]).bind fun h88 =>
 unA2 x60 fun x89 x90 =>
 asPtr x10 fun p91 o92 =>
 (h88.rd p91 o92 25).bind fun l93 =>
 un25 l93 fun x94 x95 x96 x97 x98 x99 x100 x101 x102 x103 x104 x105 x106 x107 x108 x109 x110 x111 x112 x113 x114 x115 x116 x117 x118 =>
 bindC (F.callV x9 [(.agg [x89, x90]), (.agg [x94, x95, x96, x97, x98, x99, x100, x101, x102, x103, x104, x105, x106, x107, x108, x109, x110, x111, x112, x113, x114, x115, x116, x117, x118])] h88) (fun v119 h120 =>
 (unop .not v119).bind fun v121 =>
 asB v121 fun b122 => cond b122
 (some (.ret (.tup []), h120, none))
 ((binop .add x13 (.int .i64 1)).bind fun v123 =>
 self6 [x9, x10, x11, x12, v123] h120))
 (fun v124 h125 => some (.panic v124, h125, none))
noncomputable def f218_2 (n : Nat) (F : Fns) (v14 : AV) (x13 : AV) (x11 : AV) (h8 : Heap) (x10 : AV) (x9 : AV) (self6 : List AV → Heap → R) (x12 : AV) : R :=
 asB v14 fun b15 => cond b15
 (asI x13 fun i16 =>
 elemP x11 i16 9 fun p17 o18 =>
 (h8.rd p17 o18 9).bind fun l19 =>
 un9 l19 fun x20 x21 x22 x23 x24 x25 x26 x27 x28 =>
 asPtr x10 fun p29 o30 =>
 (h8.rd p29 o30 25).bind fun l31 =>
 un25 l31 fun x32 x33 x34 x35 x36 x37 x38 x39 x40 x41 x42 x43 x44 x45 x46 x47 x48 x49 x50 x51 x52 x53 x54 x55 x56 =>
 bindC (F.plain 219 [(.agg [x32, x33, x34, x35, x36, x37, x38, x39, x40, x41, x42, x43, x44, x45, x46, x47, x48, x49, x50, x51, x52, x53, x54, x55, x56]), (.agg [x20, x21, x22, x23, x24, x25, x26, x27, x28])] h8) (fun v57 h58 =>
 unT2 v57 fun x59 x60 =>
 f218_1 n F x10 x59 h58 x60 x9 x13 self6 x11 x12)
 (fun v126 h127 => some (.panic v126, h127, none)))
 (some (.ret (.tup []), h8, none))
/-- countermand/fold.steps$1 -/
noncomputable def f218 (n : Nat) (F : Fns) (a0 a1 a2 : AV) (h : Heap) : R :=
 asPtr a1 fun p1 o2 =>
 (h.rd p1 o2 1).bind fun l3 =>
 un1 l3 fun x4 =>
 (lenA P 67 x4).bind fun v5 =>
 loopV (fun vs7 h8 self6 => un5 vs7 fun x9 x10 x11 x12 x13 =>
 (binop .lss x13 x12).bind fun v14 =>
 f218_2 n F v14 x13 x11 h8 x10 x9 self6 x12) n [a0, a2, x4, v5, (.int .i64 0)] h

noncomputable def f219_1 (n : Nat) (F : Fns) (h93 : Heap) (h26 : Heap) (x95 : AV) (x96 : AV) (x97 : AV) (x98 : AV) (x99 : AV) (x100 : AV) (x101 : AV) (x102 : AV) (x103 : AV) (x104 : AV) (x105 : AV) (x106 : AV) (x107 : AV) (x108 : AV) (x109 : AV) (x110 : AV) (x111 : AV) (x112 : AV) (x113 : AV) (x114 : AV) (x115 : AV) (x116 : AV) (x117 : AV) (x118 : AV) (x119 : AV) (h65 : Heap) (l120 : List AV) (h36 : Heap) (v122 : AV) (h : Heap) : R :=
 (h93.wr h26.next 0 [x95, x96, x97, x98, x99, x100, x101, x102, x103, x104, x105, x106, x107, x108, x109, x110, x111, x112, x113, x114, x115, x116, x117, x118, x119]).bind fun h123 =>
 same (h123.rd h65.next 25 1) l120
 ((h123.wr h36.next 0 [(.int .i64 0), v122]).bind fun h124 =>
 bindD (F.defers [(.fn 258 [] [(.ptr (some (h.next, 0))), (.ptr (some (h26.next, 0))), (.ptr (some (h36.next, 0)))])] none h124) (fun h125 =>
 (h125.rd h26.next 0 25).bind fun l128 =>
 un25 l128 fun x129 x130 x131 x132 x133 x134 x135 x136 x137 x138 x139 x140 x141 x142 x143 x144 x145 x146 x147 x148 x149 x150 x151 x152 x153 =>
 (h125.rd h36.next 0 2).bind fun l154 =>
 un2 l154 fun x155 x156 =>
 some (.ret (.tup [(.agg [x129, x130, x131, x132, x133, x134, x135, x136, x137, x138, x139, x140, x141, x142, x143, x144, x145, x146, x147, x148, x149, x150, x151, x152, x153]), (.agg [x155, x156])]), h125, none))
 (fun v126 h127 => some (.panic v126, h127, none)))
noncomputable def f219_2 (n : Nat) (F : Fns) (h65 : Heap) (x27 : AV) (x28 : AV) (x29 : AV) (x30 : AV) (x31 : AV) (x32 : AV) (x33 : AV) (x34 : AV) (x35 : AV) (h91 : Heap) (h26 : Heap) (h36 : Heap) (h : Heap) : R :=
 bindC (F.plain 259 [(.ptr (some (h65.next, 0))), (.agg [x27, x28, x29, x30, x31, x32, x33, x34, x35])] h91) (fun v92 h93 =>
 unT0 v92 fun _u =>
 (h93.rd h65.next 0 25).bind fun l94 =>
 un25 l94 fun x95 x96 x97 x98 x99 x100 x101 x102 x103 x104 x105 x106 x107 x108 x109 x110 x111 x112 x113 x114 x115 x116 x117 x118 x119 =>
 (h93.rd h65.next 25 1).bind fun l120 =>
 un1 l120 fun x121 =>
 scal x121 fun v122 =>
 f219_1 n F h93 h26 x95 x96 x97 x98 x99 x100 x101 x102 x103 x104 x105 x106 x107 x108 x109 x110 x111 x112 x113 x114 x115 x116 x117 x118 x119 h65 l120 h36 v122 h)
 (fun v157 h158 => bindD (F.defers [(.fn 258 [] [(.ptr (some (h.next, 0))), (.ptr (some (h26.next, 0))), (.ptr (some (h36.next, 0)))])] (some v157) h158) (fun h159 =>
 (h159.rd h26.next 0 25).bind fun l162 =>
 un25 l162 fun x163 x164 x165 x166 x167 x168 x169 x170 x171 x172 x173 x174 x175 x176 x177 x178 x179 x180 x181 x182 x183 x184 x185 x186 x187 =>
 (h159.rd h36.next 0 2).bind fun l188 =>
 un2 l188 fun x189 x190 =>
 some (.ret (.tup [(.agg [x163, x164, x165, x166, x167, x168, x169, x170, x171, x172, x173, x174, x175, x176, x177, x178, x179, x180, x181, x182, x183, x184, x185, x186, x187]), (.agg [x189, x190])]), h159, none))
 (fun v160 h161 => some (.panic v160, h161, none)))
noncomputable def f219_3 (n : Nat) (F : Fns) (h37 : Heap) (h : Heap) (x27 : AV) (x28 : AV) (x29 : AV) (x30 : AV) (x31 : AV) (x32 : AV) (x33 : AV) (x34 : AV) (x35 : AV) (h26 : Heap) (h36 : Heap) : R :=
 (h37.rd h.next 0 25).bind fun l38 =>
 un25 l38 fun x39 x40 x41 x42 x43 x44 x45 x46 x47 x48 x49 x50 x51 x52 x53 x54 x55 x56 x57 x58 x59 x60 x61 x62 x63 =>
 bindC (F.plain 257 [(.agg [x39, x40, x41, x42, x43, x44, x45, x46, x47, x48, x49, x50, x51, x52, x53, x54, x55, x56, x57, x58, x59, x60, x61, x62, x63])] h37) (fun v64 h65 =>
 unA25 v64 fun x66 x67 x68 x69 x70 x71 x72 x73 x74 x75 x76 x77 x78 x79 x80 x81 x82 x83 x84 x85 x86 x87 x88 x89 x90 =>
 let h91 := h65.push (.cells [x66, x67, x68, x69, x70, x71, x72, x73, x74, x75, x76, x77, x78, x79, x80, x81, x82, x83, x84, x85, x86, x87, x88, x89, x90, .nilSlice, (.int .i64 0), (.int .i64 0)] 1)
 f219_2 n F h65 x27 x28 x29 x30 x31 x32 x33 x34 x35 h91 h26 h36 h)
 (fun v191 h192 => some (.panic v191, h192, none))
/-- countermand/booking.Do -/
noncomputable def f219 (n : Nat) (F : Fns) (a0 a1 : AV) (h : Heap) : R :=
 unA25 a0 fun x1 x2 x3 x4 x5 x6 x7 x8 x9 x10 x11 x12 x13 x14 x15 x16 x17 x18 x19 x20 x21 x22 x23 x24 x25 =>
 let h26 := h.push (.cells [x1, x2, x3, x4, x5, x6, x7, x8, x9, x10, x11, x12, x13, x14, x15, x16, x17, x18, x19, x20, x21, x22, x23, x24, x25] 1)
 unA9 a1 fun x27 x28 x29 x30 x31 x32 x33 x34 x35 =>
 let h36 := h26.push (.cells [(.int .i64 0), (.int .i64 0), (.int .i64 0), (.int .i64 0), (.int .i64 0), (.int .i64 0), (.int .i64 0), (.int .i64 0), (.int .i64 0), (.int .i64 0), (.int .i64 0), (.int .i64 0), (.int .i64 0), (.int .i64 0), (.int .i64 0), (.int .i64 0), (.int .i64 0), (.int .i64 0), (.int .i64 0), (.int .i64 0), (.int .i64 0), (.int .i64 0), (.int .i64 0), (.int .i64 0), .nilSlice] 1)
 let h37 := h36.push (.cells [(.int .i64 0), .nilSlice] 1)
 f219_3 n F h37 h x27 x28 x29 x30 x31 x32 x33 x34 x35 h26 h36

/-- (*countermand/disk.Disk).has -/
noncomputable def f220 (n : Nat) (F : Fns) (a0 a1 : AV) (h : Heap) : R :=
 (eqop P true true 120 a0 (.ptr none)).bind fun v1 =>
 asB v1 fun b2 => cond b2
 (notNil a0 fun v3 =>
 asPtr v3 fun p4 o5 =>
 (h.rd p4 (o5 + 1) 1).bind fun l6 =>
 un1 l6 fun x7 =>
 (unop .not x7).bind fun v8 =>
 asB v8 fun b9 => cond b9
 ((binop .geq a1 (.int .i64 0)).bind fun v10 =>
 asB v10 fun b11 => cond b11
 (notNil a0 fun v12 =>
 asPtr v12 fun p13 o14 =>
 (h.rd p13 (o14 + 4) 1).bind fun l15 =>
 un1 l15 fun x16 =>
 (lenA P 185 x16).bind fun v17 =>
 (binop .lss a1 v17).bind fun v18 =>
 some (.ret v18, h, none))
 (some (.ret (.bool false), h, none)))
 (some (.ret (.bool false), h, none)))
 (some (.ret (.bool false), h, none))

noncomputable def f221_1 (n : Nat) (F : Fns) (v20 : AV) (x2 : AV) (h : Heap) (x3 : AV) (x1 : AV) : R :=
 asB v20 fun b21 => cond b21
 (bindC (F.plain 260 [x2] h) (fun v22 h23 =>
 asB v22 fun b24 => cond b24
 ((eqop P true false 3 x3 (.int .i64 9)).bind fun v25 =>
 some (.ret v25, h23, none))
 (some (.ret (.bool false), h23, none)))
 (fun v26 h27 => some (.panic v26, h27, none)))
 ((eqop P true false 3 x1 (.int .i64 4)).bind fun v28 =>
 asB v28 fun b29 => cond b29
 ((eqop P true false 3 x2 (.int .i64 9)).bind fun v30 =>
 asB v30 fun b31 => cond b31
 (bindC (F.plain 260 [x3] h) (fun v32 h33 =>
 some (.ret v32, h33, none))
 (fun v34 h35 => some (.panic v34, h35, none)))
 (some (.ret (.bool false), h, none)))
 (bindC (F.plain 260 [x2] h) (fun v36 h37 =>
 asB v36 fun b38 => cond b38
 (bindC (F.plain 260 [x3] h37) (fun v39 h40 =>
 some (.ret v39, h40, none))
 (fun v41 h42 => some (.panic v41, h42, none)))
 (some (.ret (.bool false), h37, none)))
 (fun v43 h44 => some (.panic v43, h44, none))))
/-- countermand/msg.parties -/
noncomputable def f221 (n : Nat) (F : Fns) (a0 : AV) (h : Heap) : R :=
 unA19 a0 fun x1 x2 x3 x4 x5 x6 x7 x8 x9 x10 x11 x12 x13 x14 x15 x16 x17 x18 x19 =>
 (eqop P true false 3 x1 (.int .i64 3)).bind fun v20 =>
 f221_1 n F v20 x2 h x3 x1

noncomputable def f222_1 (n : Nat) (F : Fns) (v52 : AV) (h48 : Heap) (h : Heap) (v49 : AV) : R :=
 (binop .leq v52 (.int .i64 8)).bind fun v53 =>
 asB v53 fun b54 => cond b54
 ((h48.rd h.next 9 1).bind fun l55 =>
 un1 l55 fun x56 =>
 bindC (F.plain 265 [x56, (.fn 266 [] [])] h48) (fun v57 h58 =>
 (unop .not v57).bind fun v59 =>
 asB v49 fun b60 => cond b60
 (asB v59 fun b61 => cond b61
 ((h58.rd h.next 7 1).bind fun l62 =>
 un1 l62 fun x63 =>
 bindC (F.plain 62 [x63, (.int .i64 0), (.int .i64 48)] h58) (fun v64 h65 =>
 some (.ret v64, h65, none))
 (fun v66 h67 => some (.panic v66, h67, none)))
 (some (.ret (.bool false), h58, none)))
 (some (.ret (.bool false), h58, none)))
 (fun v68 h69 => some (.panic v68, h69, none)))
 (asB v49 fun b70 => cond b70
 (some (.ret (.bool false), h48, none))
 (some (.ret (.bool false), h48, none)))
noncomputable def f222_2 (n : Nat) (F : Fns) (v43 : AV) (h20 : Heap) (h : Heap) : R :=
 asB v43 fun b44 => cond b44
 ((h20.rd h.next 8 1).bind fun l45 =>
 un1 l45 fun x46 =>
 bindC (F.plain 263 [x46, (.fn 264 [] [])] h20) (fun v47 h48 =>
 (unop .not v47).bind fun v49 =>
 (h48.rd h.next 9 1).bind fun l50 =>
 un1 l50 fun x51 =>
 (lenA P 67 x51).bind fun v52 =>
 f222_1 n F v52 h48 h v49)
 (fun v71 h72 => some (.panic v71, h72, none)))
 ((h20.rd h.next 9 1).bind fun l73 =>
 un1 l73 fun x74 =>
 (lenA P 67 x74).bind fun v75 =>
 (binop .leq v75 (.int .i64 8)).bind fun v76 =>
 asB v76 fun b77 => cond b77
 ((h20.rd h.next 9 1).bind fun l78 =>
 un1 l78 fun x79 =>
 bindC (F.plain 265 [x79, (.fn 266 [] [])] h20) (fun v80 h81 =>
 (unop .not v80).bind fun v82 =>
 some (.ret (.bool false), h81, none))
 (fun v83 h84 => some (.panic v83, h84, none)))
 (some (.ret (.bool false), h20, none)))
noncomputable def f222_3 (n : Nat) (F : Fns) (v85 : AV) (h20 : Heap) (h : Heap) : R :=
 asB v85 fun b86 => cond b86
 ((h20.rd h.next 10 4).bind fun l87 =>
 un4 l87 fun x88 x89 x90 x91 =>
 bindC (F.plain 267 [(.agg [x88, x89, x90, x91])] h20) (fun v92 h93 =>
 asB v92 fun b94 => cond b94
 ((h93.rd h.next 14 5).bind fun l95 =>
 un5 l95 fun x96 x97 x98 x99 x100 =>
 bindC (F.plain 225 [(.agg [x96, x97, x98, x99, x100])] h93) (fun v101 h102 =>
 (eqop P true false 41 v101 (.int .i64 0)).bind fun v103 =>
 some (.ret v103, h102, none))
 (fun v104 h105 => some (.panic v104, h105, none)))
 (some (.ret (.bool false), h93, none)))
 (fun v106 h107 => some (.panic v106, h107, none)))
 ((h20.rd h.next 10 4).bind fun l108 =>
 un4 l108 fun x109 x110 x111 x112 =>
 bindC (F.plain 267 [(.agg [x109, x110, x111, x112])] h20) (fun v113 h114 =>
 some (.ret v113, h114, none))
 (fun v115 h116 => some (.panic v115, h116, none)))
noncomputable def f222_4 (n : Nat) (F : Fns) (v23 : AV) (h20 : Heap) (h : Heap) (x22 : AV) : R :=
 asB v23 fun b24 => cond b24
 ((sliceA P h20 113 (.ptr (some (h.next, 3))) none none none).bind fun v25 =>
 bindC (F.plain 261 [v25, (.fn 262 [] [])] h20) (fun v26 h27 =>
 (unop .not v26).bind fun v28 =>
 asB v28 fun b29 => cond b29
 ((h27.rd h.next 7 1).bind fun l30 =>
 un1 l30 fun x31 =>
 bindC (F.plain 62 [x31, (.int .i64 0), (.int .i64 48)] h27) (fun v32 h33 =>
 some (.ret v32, h33, none))
 (fun v34 h35 => some (.panic v34, h35, none)))
 (some (.ret (.bool false), h27, none)))
 (fun v36 h37 => some (.panic v36, h37, none)))
 ((eqop P true false 3 x22 (.int .i64 2)).bind fun v38 =>
 asB v38 fun b39 => cond b39
 ((h20.rd h.next 8 1).bind fun l40 =>
 un1 l40 fun x41 =>
 (lenA P 139 x41).bind fun v42 =>
 (binop .leq v42 (.int .i64 16)).bind fun v43 =>
 f222_2 n F v43 h20 h)
 ((eqop P true false 3 x22 (.int .i64 3)).bind fun v85 =>
 f222_3 n F v85 h20 h))
/-- countermand/msg.may -/
noncomputable def f222 (n : Nat) (F : Fns) (a0 : AV) (h : Heap) : R :=
 unA19 a0 fun x1 x2 x3 x4 x5 x6 x7 x8 x9 x10 x11 x12 x13 x14 x15 x16 x17 x18 x19 =>
 let h20 := h.push (.cells [x1, x2, x3, x4, x5, x6, x7, x8, x9, x10, x11, x12, x13, x14, x15, x16, x17, x18, x19] 1)
 (h20.rd h.next 0 1).bind fun l21 =>
 un1 l21 fun x22 =>
 (eqop P true false 3 x22 (.int .i64 1)).bind fun v23 =>
 f222_4 n F v23 h20 h x22

noncomputable def f223_1 (n : Nat) (F : Fns) (x8 : AV) (x27 : AV) (x11 : AV) (x12 : AV) (x13 : AV) (x14 : AV) (x30 : AV) (x31 : AV) (x32 : AV) (x33 : AV) (x15 : AV) (x16 : AV) (x17 : AV) (x18 : AV) (x19 : AV) (x34 : AV) (x35 : AV) (x36 : AV) (x37 : AV) (x38 : AV) (x9 : AV) (x28 : AV) (h : Heap) (x10 : AV) (x29 : AV) : R :=
 (eqop P false false 3 x8 x27).bind fun v47 =>
 asB v47 fun b48 => cond b48
 ((eqop P false false 94 (.agg [x11, x12, x13, x14]) (.agg [x30, x31, x32, x33])).bind fun v49 =>
 asB v49 fun b50 => cond b50
 ((eqop P false false 96 (.agg [x15, x16, x17, x18, x19]) (.agg [x34, x35, x36, x37, x38])).bind fun v51 =>
 asB v51 fun b52 => cond b52
 (bindC (F.plain 268 [x9, x28] h) (fun v53 h54 =>
 asB v53 fun b55 => cond b55
 (bindC (F.plain 29 [x10, x29] h54) (fun v56 h57 =>
 some (.ret v56, h57, none))
 (fun v58 h59 => some (.panic v58, h59, none)))
 (some (.ret (.bool false), h54, none)))
 (fun v60 h61 => some (.panic v60, h61, none)))
 (some (.ret (.bool false), h, none)))
 (some (.ret (.bool false), h, none)))
 (some (.ret (.bool false), h, none))
/-- countermand/msg.Same -/
noncomputable def f223 (n : Nat) (F : Fns) (a0 a1 : AV) (h : Heap) : R :=
 unA19 a0 fun x1 x2 x3 x4 x5 x6 x7 x8 x9 x10 x11 x12 x13 x14 x15 x16 x17 x18 x19 =>
 unA19 a1 fun x20 x21 x22 x23 x24 x25 x26 x27 x28 x29 x30 x31 x32 x33 x34 x35 x36 x37 x38 =>
 (eqop P false false 3 x1 x20).bind fun v39 =>
 asB v39 fun b40 => cond b40
 ((eqop P false false 3 x2 x21).bind fun v41 =>
 asB v41 fun b42 => cond b42
 ((eqop P false false 3 x3 x22).bind fun v43 =>
 asB v43 fun b44 => cond b44
 ((eqop P false false 113 (.agg [x4, x5, x6, x7]) (.agg [x23, x24, x25, x26])).bind fun v45 =>
 asB v45 fun b46 => cond b46
 (f223_1 n F x8 x27 x11 x12 x13 x14 x30 x31 x32 x33 x15 x16 x17 x18 x19 x34 x35 x36 x37 x38 x9 x28 h x10 x29)
 (some (.ret (.bool false), h, none)))
 (some (.ret (.bool false), h, none)))
 (some (.ret (.bool false), h, none)))
 (some (.ret (.bool false), h, none))

noncomputable def f224_1 (n : Nat) (F : Fns) (v31 : AV) (v20 : AV) (v21 : AV) (v22 : AV) (x11 : AV) (x12 : AV) (x13 : AV) (x14 : AV) (x15 : AV) (x16 : AV) (x17 : AV) (x18 : AV) (x19 : AV) (h : Heap) (x1 : AV) : R :=
 asB v31 fun b32 => cond b32
 (some (.ret (.agg [v20, v21, v22, (.int .i64 0), (.int .i64 0), (.int .i64 0), (.int .i64 0), (.int .i64 0), .nilSlice, .nilSlice, x11, x12, x13, x14, x15, x16, x17, x18, x19]), h, none))
 ((eqop P true false 3 x1 (.int .i64 4)).bind fun v33 =>
 asB v33 fun b34 => cond b34
 (some (.ret (.agg [v20, v21, v22, (.int .i64 0), (.int .i64 0), (.int .i64 0), (.int .i64 0), (.int .i64 0), .nilSlice, .nilSlice, x11, x12, x13, x14, (.int .i64 0), (.int .i64 0), (.int .i64 0), (.int .i64 0), (.int .i64 0)]), h, none))
 (some (.ret (.agg [v20, v21, v22, (.int .i64 0), (.int .i64 0), (.int .i64 0), (.int .i64 0), (.int .i64 0), .nilSlice, .nilSlice, (.int .i64 0), (.int .i64 0), (.int .i64 0), (.bool false), (.int .i64 0), (.int .i64 0), (.int .i64 0), (.int .i64 0), (.int .i64 0)]), h, none)))
noncomputable def f224_2 (n : Nat) (F : Fns) (v23 : AV) (x8 : AV) (v20 : AV) (v21 : AV) (v22 : AV) (x4 : AV) (x5 : AV) (x6 : AV) (x7 : AV) (h : Heap) (x1 : AV) (x9 : AV) (x10 : AV) (x11 : AV) (x12 : AV) (x13 : AV) (x14 : AV) (x15 : AV) (x16 : AV) (x17 : AV) (x18 : AV) (x19 : AV) : R :=
 asB v23 fun b24 => cond b24
 (scal x8 fun v25 =>
 some (.ret (.agg [v20, v21, v22, x4, x5, x6, x7, v25, .nilSlice, .nilSlice, (.int .i64 0), (.int .i64 0), (.int .i64 0), (.bool false), (.int .i64 0), (.int .i64 0), (.int .i64 0), (.int .i64 0), (.int .i64 0)]), h, none))
 ((eqop P true false 3 x1 (.int .i64 2)).bind fun v26 =>
 asB v26 fun b27 => cond b27
 (scal x8 fun v28 =>
 scal x9 fun v29 =>
 scal x10 fun v30 =>
 some (.ret (.agg [v20, v21, v22, (.int .i64 0), (.int .i64 0), (.int .i64 0), (.int .i64 0), v28, v29, v30, (.int .i64 0), (.int .i64 0), (.int .i64 0), (.bool false), (.int .i64 0), (.int .i64 0), (.int .i64 0), (.int .i64 0), (.int .i64 0)]), h, none))
 ((eqop P true false 3 x1 (.int .i64 3)).bind fun v31 =>
 f224_1 n F v31 v20 v21 v22 x11 x12 x13 x14 x15 x16 x17 x18 x19 h x1))
/-- countermand/msg.bare -/
noncomputable def f224 (n : Nat) (F : Fns) (a0 : AV) (h : Heap) : R :=
 unA19 a0 fun x1 x2 x3 x4 x5 x6 x7 x8 x9 x10 x11 x12 x13 x14 x15 x16 x17 x18 x19 =>
 scal x1 fun v20 =>
 scal x2 fun v21 =>
 scal x3 fun v22 =>
 (eqop P true false 3 x1 (.int .i64 1)).bind fun v23 =>
 f224_2 n F v23 x8 v20 v21 v22 x4 x5 x6 x7 h x1 x9 x10 x11 x12 x13 x14 x15 x16 x17 x18 x19

noncomputable def f225_1 (n : Nat) (F : Fns) (v10 : AV) (h11 : Heap) (x4 : AV) (x5 : AV) : R :=
 (unop .not v10).bind fun v12 =>
 asB v12 fun b13 => cond b13
 (asB v12 fun b14 => cond b14
 (some (.ret (.int .i64 4), h11, none))
 (some (.ret (.int .i64 0), h11, none)))
 (bindC (F.plain 62 [x4, (.int .i64 0), (.int .i64 255)] h11) (fun v15 h16 =>
 (unop .not v15).bind fun v17 =>
 asB v17 fun b18 => cond b18
 (asB v17 fun b19 => cond b19
 (some (.ret (.int .i64 4), h16, none))
 (some (.ret (.int .i64 0), h16, none)))
 (bindC (F.plain 62 [x5, (.int .i64 0), (.int .i64 65535)] h16) (fun v20 h21 =>
 (unop .not v20).bind fun v22 =>
 asB v22 fun b23 => cond b23
 (some (.ret (.int .i64 4), h21, none))
 (some (.ret (.int .i64 0), h21, none)))
 (fun v24 h25 => some (.panic v24, h25, none))))
 (fun v26 h27 => some (.panic v26, h27, none)))
/-- countermand/effect.Check -/
noncomputable def f225 (n : Nat) (F : Fns) (a0 : AV) (h : Heap) : R :=
 unA5 a0 fun x1 x2 x3 x4 x5 =>
 bindC (F.plain 62 [x1, (.int .i64 1), (.int .i64 11)] h) (fun v6 h7 =>
 (unop .not v6).bind fun v8 =>
 asB v8 fun b9 => cond b9
 (some (.ret (.int .i64 12), h7, none))
 (bindC (F.plain 62 [x2, (.int .i64 0), (.int .i64 255)] h7) (fun v10 h11 =>
 f225_1 n F v10 h11 x4 x5)
 (fun v28 h29 => some (.panic v28, h29, none))))
 (fun v30 h31 => some (.panic v30, h31, none))

/-- slices.Grow[[]countermand/api.Change,countermand/api.Change] -/
noncomputable def f226 (n : Nat) (F : Fns) (a0 a1 : AV) (h : Heap) : R :=
 (binop .lss a1 (.int .i64 0)).bind fun v1 =>
 asB v1 fun b2 => cond b2
 (some (.panic (.iface 9 (.str ⟨#[99, 97, 110, 110, 111, 116, 32, 98, 101, 32, 110, 101, 103, 97, 116, 105, 118, 101]⟩)), h, none))
 ((capA P 67 a0).bind fun v3 =>
 (lenA P 67 a0).bind fun v4 =>
 (binop .sub v3 v4).bind fun v5 =>
 (binop .sub a1 v5).bind fun v6 =>
 (binop .gtr v6 (.int .i64 0)).bind fun v7 =>
 asB v7 fun b8 => cond b8
 ((capA P 67 a0).bind fun v9 =>
 (sliceA P h 67 a0 none (some v9) none).bind fun v10 =>
 (opAppend P h 67 3 v10 v6).bind fun r11 =>
 (lenA P 67 a0).bind fun v12 =>
 (sliceA P r11.2 67 r11.1 none (some v12) none).bind fun v13 =>
 some (.ret v13, r11.2, none))
 (some (.ret a0, h, none)))

noncomputable def f227_1 (n : Nat) (F : Fns) (x26 : AV) (x27 : AV) (x28 : AV) (x29 : AV) (x30 : AV) (x31 : AV) (x32 : AV) (x33 : AV) (x34 : AV) (x35 : AV) (x36 : AV) (x37 : AV) (x38 : AV) (h24 : Heap) (x13 : AV) (x5 : AV) (x6 : AV) (x7 : AV) (x8 : AV) (x9 : AV) (a3 : AV) : R :=
 asB x26 fun b39 => cond b39
 (bindC (F.plain 144 [(.agg [x27, x28, x29, x30, x31, x32, x33, x34, x35, x36, x37, x38])] h24) (fun v40 h41 =>
 asB v40 fun b42 => cond b42
 (asB x13 fun b43 => cond b43
 (bindC (F.plain 269 [(.agg [x27, x28, x29, x30, x31, x32, x33, x34, x35, x36, x37, x38]), (.agg [x5, x6, x7, x8, x9]), a3] h41) (fun v44 h45 =>
 some (.ret v44, h45, none))
 (fun v46 h47 => some (.panic v46, h47, none)))
 (some (.ret (.bool false), h41, none)))
 (asB x13 fun b48 => cond b48
 ((binop .geq x7 (.int .i64 1)).bind fun v49 =>
 some (.ret v49, h41, none))
 (some (.ret (.bool false), h41, none))))
 (fun v50 h51 => some (.panic v50, h51, none)))
 (asB x13 fun b52 => cond b52
 ((binop .geq x7 (.int .i64 1)).bind fun v53 =>
 some (.ret v53, h24, none))
 (some (.ret (.bool false), h24, none)))
/-- countermand/chain.Ready -/
noncomputable def f227 (n : Nat) (F : Fns) (a0 a1 a2 a3 : AV) (h : Heap) : R :=
 unA4 a0 fun x1 x2 x3 x4 =>
 unA5 a2 fun x5 x6 x7 x8 x9 =>
 bindC (F.plain 228 [(.agg [x1, x2, x3, x4]), a1] h) (fun v10 h11 =>
 unT2 v10 fun x12 x13 =>
 unA9 x12 fun x14 x15 x16 x17 x18 x19 x20 x21 x22 =>
 bindC (F.plain 145 [(.agg [x1, x2, x3, x4])] h11) (fun v23 h24 =>
 unT2 v23 fun x25 x26 =>
 unA12 x25 fun x27 x28 x29 x30 x31 x32 x33 x34 x35 x36 x37 x38 =>
 f227_1 n F x26 x27 x28 x29 x30 x31 x32 x33 x34 x35 x36 x37 x38 h24 x13 x5 x6 x7 x8 x9 a3)
 (fun v54 h55 => some (.panic v54, h55, none)))
 (fun v56 h57 => some (.panic v56, h57, none))

noncomputable def f228_1 (n : Nat) (F : Fns) (x9 : AV) (x10 : AV) (x11 : AV) (x12 : AV) (x13 : AV) (x14 : AV) (x15 : AV) (x16 : AV) (x17 : AV) (x18 : AV) (x19 : AV) (x20 : AV) (v25 : AV) (h23 : Heap) (x1 : AV) (x2 : AV) (x3 : AV) (x4 : AV) : R :=
 bindC (F.plain 270 [(.agg [x9, x10, x11, x12, x13, x14, x15, x16, x17, x18, x19, x20]), v25] h23) (fun v26 h27 =>
 (eqop P false false 183 v26 (.agg [x9, x10, x11, x12, x13, x14, x15, x16, x17, x18, x19, x20])).bind fun v28 =>
 asB v28 fun b29 => cond b29
 (some (.ret (.tup [(.agg [(.int .i64 0), (.int .i64 0), (.int .i64 0), (.bool false), (.int .i64 0), (.int .i64 0), (.int .i64 0), (.int .i64 0), (.int .i64 0)]), (.bool false)]), h27, none))
 (bindC (F.plain 271 [(.agg [x1, x2, x3, x4]), (.agg [x9, x10, x11, x12, x13, x14, x15, x16, x17, x18, x19, x20])] h27) (fun v30 h31 =>
 unA4 v30 fun x32 x33 x34 x35 =>
 some (.ret (.tup [(.agg [x32, x33, x34, x35, x10, x11, x12, x13, x14]), (.bool true)]), h31, none))
 (fun v36 h37 => none)))
 (fun v38 h39 => none)
noncomputable def f228_2 (n : Nat) (F : Fns) (v42 : AV) (h23 : Heap) (x3 : AV) (x4 : AV) (a1 : AV) (x1 : AV) (x2 : AV) : R :=
 asB v42 fun b43 => cond b43
 (some (.ret (.tup [(.agg [(.int .i64 0), (.int .i64 0), (.int .i64 0), (.bool false), (.int .i64 0), (.int .i64 0), (.int .i64 0), (.int .i64 0), (.int .i64 0)]), (.bool false)]), h23, none))
 ((binop .geq x3 (.int .i64 255)).bind fun v44 =>
 asB v44 fun b45 => cond b45
 (some (.ret (.tup [(.agg [(.int .i64 0), (.int .i64 0), (.int .i64 0), (.bool false), (.int .i64 0), (.int .i64 0), (.int .i64 0), (.int .i64 0), (.int .i64 0)]), (.bool false)]), h23, none))
 ((binop .add x3 (.int .i64 1)).bind fun v46 =>
 scal v46 fun v47 =>
 (lenA P 173 x4).bind fun v48 =>
 asI v48 fun i49 =>
 elemP a1 i49 5 fun p50 o51 =>
 (h23.rd p50 o51 5).bind fun l52 =>
 un5 l52 fun x53 x54 x55 x56 x57 =>
 some (.ret (.tup [(.agg [x1, x2, v47, (.bool false), x53, x54, x55, x56, x57]), (.bool true)]), h23, none)))
noncomputable def f228_3 (n : Nat) (F : Fns) (v62 : AV) (h6 : Heap) (x3 : AV) (x4 : AV) (a1 : AV) (x1 : AV) (x2 : AV) : R :=
 asB v62 fun b63 => cond b63
 (some (.ret (.tup [(.agg [(.int .i64 0), (.int .i64 0), (.int .i64 0), (.bool false), (.int .i64 0), (.int .i64 0), (.int .i64 0), (.int .i64 0), (.int .i64 0)]), (.bool false)]), h6, none))
 ((binop .geq x3 (.int .i64 255)).bind fun v64 =>
 asB v64 fun b65 => cond b65
 (some (.ret (.tup [(.agg [(.int .i64 0), (.int .i64 0), (.int .i64 0), (.bool false), (.int .i64 0), (.int .i64 0), (.int .i64 0), (.int .i64 0), (.int .i64 0)]), (.bool false)]), h6, none))
 ((binop .add x3 (.int .i64 1)).bind fun v66 =>
 scal v66 fun v67 =>
 (lenA P 173 x4).bind fun v68 =>
 asI v68 fun i69 =>
 elemP a1 i69 5 fun p70 o71 =>
 (h6.rd p70 o71 5).bind fun l72 =>
 un5 l72 fun x73 x74 x75 x76 x77 =>
 some (.ret (.tup [(.agg [x1, x2, v67, (.bool false), x73, x74, x75, x76, x77]), (.bool true)]), h6, none)))
noncomputable def f228_4 (n : Nat) (F : Fns) (x1 : AV) (x2 : AV) (x3 : AV) (x4 : AV) (h : Heap) (a1 : AV) : R :=
 bindC (F.plain 145 [(.agg [x1, x2, x3, x4])] h) (fun v5 h6 =>
 unT2 v5 fun x7 x8 =>
 unA12 x7 fun x9 x10 x11 x12 x13 x14 x15 x16 x17 x18 x19 x20 =>
 asB x8 fun b21 => cond b21
 (bindC (F.plain 144 [(.agg [x9, x10, x11, x12, x13, x14, x15, x16, x17, x18, x19, x20])] h6) (fun v22 h23 =>
 asB v22 fun b24 => cond b24
 ((binop .add x16 (.int .i64 1)).bind fun v25 =>
 f228_1 n F x9 x10 x11 x12 x13 x14 x15 x16 x17 x18 x19 x20 v25 h23 x1 x2 x3 x4)
 ((lenA P 173 x4).bind fun v40 =>
 (lenA P 129 a1).bind fun v41 =>
 (binop .geq v40 v41).bind fun v42 =>
 f228_2 n F v42 h23 x3 x4 a1 x1 x2))
 (fun v58 h59 => some (.panic v58, h59, none)))
 ((lenA P 173 x4).bind fun v60 =>
 (lenA P 129 a1).bind fun v61 =>
 (binop .geq v60 v61).bind fun v62 =>
 f228_3 n F v62 h6 x3 x4 a1 x1 x2))
 (fun v78 h79 => some (.panic v78, h79, none))
/-- countermand/chain.Next -/
noncomputable def f228 (n : Nat) (F : Fns) (a0 a1 : AV) (h : Heap) : R :=
 unA4 a0 fun x1 x2 x3 x4 =>
 f228_4 n F x1 x2 x3 x4 h a1

noncomputable def f229_1 (n : Nat) (F : Fns) (a1 : AV) (v16 : AV) (a0 : AV) (h2 : Heap) : R :=
 (binop .gtr a1 v16).bind fun v17 =>
 asB v17 fun b18 => cond b18
 (notNil a0 fun v19 =>
 asPtr v19 fun p20 o21 =>
 (h2.wr p20 (o21 + 1) [(.bool true)]).bind fun h22 =>
 some (.ret (.tup [.nilSlice, (.bool false)]), h22, none))
 (notNil a0 fun v23 =>
 asPtr v23 fun p24 o25 =>
 (h2.rd p24 (o25 + 2) 1).bind fun l26 =>
 un1 l26 fun x27 =>
 (sliceA P h2 155 x27 none (some a1) (some a1)).bind fun v28 =>
 notNil a0 fun v29 =>
 asPtr v29 fun p30 o31 =>
 (h2.rd p30 (o31 + 2) 1).bind fun l32 =>
 un1 l32 fun x33 =>
 (sliceA P h2 155 x33 (some a1) none none).bind fun v34 =>
 notNil a0 fun v35 =>
 asPtr v35 fun p36 o37 =>
 scal v34 fun v38 =>
 (h2.wr p36 (o37 + 2) [v38]).bind fun h39 =>
 some (.ret (.tup [v28, (.bool true)]), h39, none))
/-- (*countermand/octet.Reader).next -/
noncomputable def f229 (n : Nat) (F : Fns) (a0 a1 : AV) (h : Heap) : R :=
 bindC (F.plain 231 [a0] h) (fun v1 h2 =>
 (unop .not v1).bind fun v3 =>
 asB v3 fun b4 => cond b4
 (some (.ret (.tup [.nilSlice, (.bool false)]), h2, none))
 ((binop .lss a1 (.int .i64 0)).bind fun v5 =>
 asB v5 fun b6 => cond b6
 (notNil a0 fun v7 =>
 asPtr v7 fun p8 o9 =>
 (h2.wr p8 (o9 + 1) [(.bool true)]).bind fun h10 =>
 some (.ret (.tup [.nilSlice, (.bool false)]), h10, none))
 (notNil a0 fun v11 =>
 asPtr v11 fun p12 o13 =>
 (h2.rd p12 (o13 + 2) 1).bind fun l14 =>
 un1 l14 fun x15 =>
 (lenA P 155 x15).bind fun v16 =>
 f229_1 n F a1 v16 a0 h2)))
 (fun v40 h41 => some (.panic v40, h41, none))

noncomputable def f230_1 (n : Nat) (F : Fns) (self3 : List AV → Heap → R) (v18 : AV) (x7 : AV) (x8 : AV) (x9 : AV) (h5 : Heap) : R :=
 loopV (fun vs20 h21 self19 => un5 vs20 fun x22 x23 x24 x25 x26 =>
 (binop .lss x26 (.int .i64 8)).bind fun v27 =>
 asB v27 fun b28 => cond b28
 ((binop .and x22 (.int .u32 1)).bind fun v29 =>
 (eqop P true false 280 v29 (.int .u32 1)).bind fun v30 =>
 asB v30 fun b31 => cond b31
 ((binop .shr x22 (.int .u64 1)).bind fun v32 =>
 (binop .xor v32 (.int .u32 3988292384)).bind fun v33 =>
 (binop .add x26 (.int .i64 1)).bind fun v34 =>
 self19 [v33, x23, x24, x25, v34] h21)
 ((binop .shr x22 (.int .u64 1)).bind fun v35 =>
 (binop .add x26 (.int .i64 1)).bind fun v36 =>
 self19 [v35, x23, x24, x25, v36] h21))
 ((binop .add x25 (.int .i64 1)).bind fun v37 =>
 self3 [x22, x23, x24, v37] h21)) n [v18, x7, x8, x9, (.int .i64 0)] h5
/-- countermand/crc.More -/
noncomputable def f230 (n : Nat) (F : Fns) (a0 a1 : AV) (h : Heap) : R :=
 (unop .xor a0).bind fun v1 =>
 (lenA P 155 a1).bind fun v2 =>
 loopV (fun vs4 h5 self3 => un4 vs4 fun x6 x7 x8 x9 =>
 (binop .lss x9 x8).bind fun v10 =>
 asB v10 fun b11 => cond b11
 (asI x9 fun i12 =>
 elemP x7 i12 1 fun p13 o14 =>
 (h5.rd p13 o14 1).bind fun l15 =>
 un1 l15 fun x16 =>
 (convertA P 5 280 x16).bind fun v17 =>
 (binop .xor x6 v17).bind fun v18 =>
 f230_1 n F self3 v18 x7 x8 x9 h5)
 ((unop .xor x6).bind fun v38 =>
 some (.ret v38, h5, none))) n [v1, a1, v2, (.int .i64 0)] h

/-- (*countermand/octet.Reader).fine -/
noncomputable def f231 (n : Nat) (F : Fns) (a0 : AV) (h : Heap) : R :=
 (eqop P true true 218 a0 (.ptr none)).bind fun v1 =>
 asB v1 fun b2 => cond b2
 (notNil a0 fun v3 =>
 asPtr v3 fun p4 o5 =>
 (h.rd p4 (o5 + 0) 1).bind fun l6 =>
 un1 l6 fun x7 =>
 asB x7 fun b8 => cond b8
 (notNil a0 fun v9 =>
 asPtr v9 fun p10 o11 =>
 (h.rd p10 (o11 + 1) 1).bind fun l12 =>
 un1 l12 fun x13 =>
 (unop .not x13).bind fun v14 =>
 some (.ret v14, h, none))
 (some (.ret (.bool false), h, none)))
 (some (.ret (.bool false), h, none))

/-- (*countermand/octet.Reader).Bad -/
noncomputable def f232 (n : Nat) (F : Fns) (a0 : AV) (h : Heap) : R :=
 bindC (F.plain 231 [a0] h) (fun v1 h2 =>
 (unop .not v1).bind fun v3 =>
 some (.ret v3, h2, none))
 (fun v4 h5 => some (.panic v4, h5, none))

/-- countermand/effect.Get$1 -/
noncomputable def f233 (n : Nat) (F : Fns) (a0 a1 : AV) (h : Heap) : R :=
 asPtr a1 fun p1 o2 =>
 (h.rd p1 o2 1).bind fun l3 =>
 un1 l3 fun x4 =>
 bindC (F.plain 177 [x4, a0] h) (fun v5 h6 =>
 unT2 v5 fun x7 x8 =>
 some (.ret x7, h6, none))
 (fun v9 h10 => some (.panic v9, h10, none))

/-- (*countermand/octet.Reader).Done -/
noncomputable def f234 (n : Nat) (F : Fns) (a0 : AV) (h : Heap) : R :=
 bindC (F.plain 231 [a0] h) (fun v1 h2 =>
 asB v1 fun b3 => cond b3
 (bindC (F.plain 182 [a0] h2) (fun v4 h5 =>
 (eqop P true false 3 v4 (.int .i64 0)).bind fun v6 =>
 some (.ret v6, h5, none))
 (fun v7 h8 => some (.panic v7, h8, none)))
 (some (.ret (.bool false), h2, none)))
 (fun v9 h10 => some (.panic v9, h10, none))

/-- countermand/vector.Has -/
noncomputable def f235 (n : Nat) (F : Fns) (a0 a1 : AV) (h : Heap) : R :=
 unA4 a0 fun x1 x2 x3 x4 =>
 unA2 a1 fun x5 x6 =>
 bindC (F.plain 212 [x5] h) (fun v7 h8 =>
 asB v7 fun b9 => cond b9
 ((binop .geq x6 (.int .i64 1)).bind fun v10 =>
 asB v10 fun b11 => cond b11
 (asI x5 fun i12 =>
 inArr i12 4 fun j13 =>
 (take? [x1, x2, x3, x4] (0 + j13 * 1) 1).bind fun l14 =>
 un1 l14 fun x15 =>
 (binop .leq x6 x15).bind fun v16 =>
 some (.ret v16, h8, none))
 (some (.ret (.bool false), h8, none)))
 (some (.ret (.bool false), h8, none)))
 (fun v17 h18 => some (.panic v17, h18, none))

noncomputable def f236_1 (n : Nat) (F : Fns) (x13 : AV) (x14 : AV) (x15 : AV) (x16 : AV) (h76 : Heap) (x17 : AV) (v75 : AV) : R :=
 bindC (F.plain 267 [(.agg [x13, x14, x15, x16])] h76) (fun v77 h78 =>
 asB v77 fun b79 => cond b79
 (bindC (F.plain 62 [x17, (.int .i64 0), (.int .i64 1073741824)] h78) (fun v80 h81 =>
 unA17 v75 fun x82 x83 x84 x85 x86 x87 x88 x89 x90 x91 x92 x93 x94 x95 x96 x97 x98 =>
 some (.ret (.tup [(.agg [x82, x83, x84, x85, x86, x87, x88, x89, x90, x91, x92, x93, x94, x95, x96, x97, x98]), v80]), h81, none))
 (fun v99 h100 => some (.panic v99, h100, none)))
 (unA17 v75 fun x101 x102 x103 x104 x105 x106 x107 x108 x109 x110 x111 x112 x113 x114 x115 x116 x117 =>
 some (.ret (.tup [(.agg [x101, x102, x103, x104, x105, x106, x107, x108, x109, x110, x111, x112, x113, x114, x115, x116, x117]), (.bool false)]), h78, none)))
 (fun v118 h119 => some (.panic v118, h119, none))
noncomputable def f236_2 (n : Nat) (F : Fns) (v46 : AV) (x11 : AV) (x12 : AV) (h : Heap) (x1 : AV) (x13 : AV) (x14 : AV) (x15 : AV) (x16 : AV) (x17 : AV) : R :=
 asB v46 fun b47 => cond b47
 (bindC (F.plain 74 [(.agg [x11, x12])] h) (fun v48 h49 =>
 bindC (F.plain 213 [(.agg [x11, x12])] h49) (fun v50 h51 =>
 unA17 v48 fun x52 x53 x54 x55 x56 x57 x58 x59 x60 x61 x62 x63 x64 x65 x66 x67 x68 =>
 some (.ret (.tup [(.agg [x52, x53, x54, x55, x56, x57, x58, x59, x60, x61, x62, x63, x64, x65, x66, x67, x68]), v50]), h51, none))
 (fun v69 h70 => some (.panic v69, h70, none)))
 (fun v71 h72 => none))
 ((eqop P true false 3 x1 (.int .i64 3)).bind fun v73 =>
 asB v73 fun b74 => cond b74
 (bindC (F.plain 123 [(.agg [x13, x14, x15, x16]), x17] h) (fun v75 h76 =>
 f236_1 n F x13 x14 x15 x16 h76 x17 v75)
 (fun v120 h121 => none))
 (bindC (F.plain 133 [(.agg [x13, x14, x15, x16])] h) (fun v122 h123 =>
 bindC (F.plain 267 [(.agg [x13, x14, x15, x16])] h123) (fun v124 h125 =>
 unA17 v122 fun x126 x127 x128 x129 x130 x131 x132 x133 x134 x135 x136 x137 x138 x139 x140 x141 x142 =>
 some (.ret (.tup [(.agg [x126, x127, x128, x129, x130, x131, x132, x133, x134, x135, x136, x137, x138, x139, x140, x141, x142]), v124]), h125, none))
 (fun v143 h144 => some (.panic v143, h144, none)))
 (fun v145 h146 => none)))
noncomputable def f236_3 (n : Nat) (F : Fns) (x1 : AV) (x2 : AV) (x3 : AV) (x4 : AV) (x5 : AV) (x6 : AV) (x7 : AV) (x8 : AV) (x9 : AV) (x10 : AV) (h : Heap) (x11 : AV) (x12 : AV) (x13 : AV) (x14 : AV) (x15 : AV) (x16 : AV) (x17 : AV) : R :=
 (eqop P true false 3 x1 (.int .i64 1)).bind fun v18 =>
 asB v18 fun b19 => cond b19
 (bindC (F.plain 109 [(.agg [x2, x3, x4, x5, x6, x7, x8, x9, x10])] h) (fun v20 h21 =>
 bindC (F.plain 156 [(.agg [x2, x3, x4, x5, x6, x7, x8, x9, x10])] h21) (fun v22 h23 =>
 (eqop P true false 41 v22 (.int .i64 0)).bind fun v24 =>
 unA17 v20 fun x25 x26 x27 x28 x29 x30 x31 x32 x33 x34 x35 x36 x37 x38 x39 x40 x41 =>
 some (.ret (.tup [(.agg [x25, x26, x27, x28, x29, x30, x31, x32, x33, x34, x35, x36, x37, x38, x39, x40, x41]), v24]), h23, none))
 (fun v42 h43 => some (.panic v42, h43, none)))
 (fun v44 h45 => none))
 ((eqop P true false 3 x1 (.int .i64 2)).bind fun v46 =>
 f236_2 n F v46 x11 x12 h x1 x13 x14 x15 x16 x17)
/-- countermand/record.bare -/
noncomputable def f236 (n : Nat) (F : Fns) (a0 : AV) (h : Heap) : R :=
 unA17 a0 fun x1 x2 x3 x4 x5 x6 x7 x8 x9 x10 x11 x12 x13 x14 x15 x16 x17 =>
 f236_3 n F x1 x2 x3 x4 x5 x6 x7 x8 x9 x10 h x11 x12 x13 x14 x15 x16 x17

noncomputable def f237_1 (n : Nat) (F : Fns) (x9 : AV) (x10 : AV) (h : Heap) (x1 : AV) (x2 : AV) (x3 : AV) (x4 : AV) (x11 : AV) (x5 : AV) (x6 : AV) (x7 : AV) (x8 : AV) : R :=
 bindC (F.plain 213 [(.agg [x9, x10])] h) (fun v18 h19 =>
 asB v18 fun b20 => cond b20
 (bindC (F.plain 154 [(.agg [x1, x2, x3, x4]), x9] h19) (fun v21 h22 =>
 (eqop P false false 48 v21 (.agg [x9, x10])).bind fun v23 =>
 asB v23 fun b24 => cond b24
 (bindC (F.plain 62 [x11, (.int .i64 1), (.int .i64 1073741824)] h22) (fun v25 h26 =>
 asB v25 fun b27 => cond b27
 (asI x9 fun i28 =>
 inArr i28 4 fun j29 =>
 (take? [x5, x6, x7, x8] (0 + j29 * 1) 1).bind fun l30 =>
 un1 l30 fun x31 =>
 (binop .gtr x11 x31).bind fun v32 =>
 some (.ret v32, h26, none))
 (some (.ret (.bool false), h26, none)))
 (fun v33 h34 => some (.panic v33, h34, none)))
 (some (.ret (.bool false), h22, none)))
 (fun v35 h36 => none))
 (some (.ret (.bool false), h19, none)))
 (fun v37 h38 => some (.panic v37, h38, none))
/-- countermand/tent.Fits -/
noncomputable def f237 (n : Nat) (F : Fns) (a0 a1 a2 : AV) (h : Heap) : R :=
 unA4 a0 fun x1 x2 x3 x4 =>
 unA4 a1 fun x5 x6 x7 x8 =>
 unA9 a2 fun x9 x10 x11 x12 x13 x14 x15 x16 x17 =>
 f237_1 n F x9 x10 h x1 x2 x3 x4 x11 x5 x6 x7 x8

noncomputable def f238_1 (n : Nat) (F : Fns) (a0 : AV) (h : Heap) (x1 : AV) (x2 : AV) (x3 : AV) (x4 : AV) (x5 : AV) (x6 : AV) (x7 : AV) (x8 : AV) (x9 : AV) : R :=
 notNil a0 fun v12 =>
 asPtr v12 fun p13 o14 =>
 (h.rd p13 (o14 + 0) 1).bind fun l15 =>
 un1 l15 fun x16 =>
 bindC (F.plain 110 [x16, (.agg [x1, x2])] h) (fun v17 h18 =>
 (binop .geq v17 (.int .i64 0)).bind fun v19 =>
 asB v19 fun b20 => cond b20
 (some (.ret (.bool false), h18, none))
 (notNil a0 fun v21 =>
 asPtr v21 fun p22 o23 =>
 (h18.rd p22 (o23 + 0) 1).bind fun l24 =>
 un1 l24 fun x25 =>
 bindC (F.plain 272 [x25, (.agg [x1, x2, x3, x4, x5, x6, x7, x8, x9])] h18) (fun v26 h27 =>
 notNil a0 fun v28 =>
 asPtr v28 fun p29 o30 =>
 scal v26 fun v31 =>
 (h27.wr p29 (o30 + 0) [v31]).bind fun h32 =>
 some (.ret (.bool true), h32, none))
 (fun v33 h34 => some (.panic v33, h34, none))))
 (fun v35 h36 => some (.panic v35, h36, none))
/-- (*countermand/tent.Tent).Put -/
noncomputable def f238 (n : Nat) (F : Fns) (a0 a1 : AV) (h : Heap) : R :=
 unA9 a1 fun x1 x2 x3 x4 x5 x6 x7 x8 x9 =>
 (eqop P true false 112 a0 (.ptr none)).bind fun v10 =>
 asB v10 fun b11 => cond b11
 (some (.ret (.bool false), h, none))
 (f238_1 n F a0 h x1 x2 x3 x4 x5 x6 x7 x8 x9)

noncomputable def f239_1 (n : Nat) (F : Fns) (h4 : Heap) (p8 : Nat) (o9 : Nat) (x1 : AV) (x2 : AV) (a0 : AV) : R :=
 (h4.rd p8 (o9 + 0) 1).bind fun l10 =>
 un1 l10 fun x11 =>
 bindC (F.plain 110 [x11, (.agg [x1, x2])] h4) (fun v12 h13 =>
 notNil a0 fun v14 =>
 asPtr v14 fun p15 o16 =>
 (h13.rd p15 (o16 + 0) 1).bind fun l17 =>
 un1 l17 fun x18 =>
 asI v12 fun i19 =>
 elemP x18 i19 9 fun p20 o21 =>
 (h13.rd p20 o21 9).bind fun l22 =>
 un9 l22 fun x23 x24 x25 x26 x27 x28 x29 x30 x31 =>
 notNil a0 fun v32 =>
 asPtr v32 fun p33 o34 =>
 (h13.rd p33 (o34 + 0) 1).bind fun l35 =>
 un1 l35 fun x36 =>
 bindC (F.plain 274 [x36, v12] h13) (fun v37 h38 =>
 notNil a0 fun v39 =>
 asPtr v39 fun p40 o41 =>
 scal v37 fun v42 =>
 (h38.wr p40 (o41 + 0) [v42]).bind fun h43 =>
 some (.ret (.tup [(.agg [x23, x24, x25, x26, x27, x28, x29, x30, x31]), (.bool true)]), h43, none))
 (fun v44 h45 => some (.panic v44, h45, none)))
 (fun v46 h47 => some (.panic v46, h47, none))
/-- (*countermand/tent.Tent).Take -/
noncomputable def f239 (n : Nat) (F : Fns) (a0 a1 : AV) (h : Heap) : R :=
 unA2 a1 fun x1 x2 =>
 bindC (F.plain 273 [a0, (.agg [x1, x2])] h) (fun v3 h4 =>
 (unop .not v3).bind fun v5 =>
 asB v5 fun b6 => cond b6
 (some (.ret (.tup [(.agg [(.int .i64 0), (.int .i64 0), (.int .i64 0), (.int .i64 0), (.int .i64 0), (.int .i64 0), (.int .i64 0), (.int .i64 0), (.int .i64 0)]), (.bool false)]), h4, none))
 (notNil a0 fun v7 =>
 asPtr v7 fun p8 o9 =>
 f239_1 n F h4 p8 o9 x1 x2 a0))
 (fun v48 h49 => some (.panic v48, h49, none))

noncomputable def f240_1 (n : Nat) (F : Fns) (h41 : Heap) (x73 : AV) (x1 : AV) (x2 : AV) (x3 : AV) (x4 : AV) (x5 : AV) (x6 : AV) (x7 : AV) (x8 : AV) (x9 : AV) (a0 : AV) (x43 : AV) (x44 : AV) (x45 : AV) (x46 : AV) (x47 : AV) (x48 : AV) (x49 : AV) (x50 : AV) (x51 : AV) (x52 : AV) (x53 : AV) (x54 : AV) (x55 : AV) (x56 : AV) (x57 : AV) (x58 : AV) (x59 : AV) (x60 : AV) (x61 : AV) (x62 : AV) (x63 : AV) (x64 : AV) (x65 : AV) (x66 : AV) (x67 : AV) (x68 : AV) : R :=
 (appendA P h41 50 x73 1 [x1, x2, x3, x4, x5, x6, x7, x8, x9]).bind fun r74 =>
 notNil a0 fun v75 =>
 asPtr v75 fun p76 o77 =>
 (r74.2.rd p76 (o77 + 1) 1).bind fun l78 =>
 same (h41.rd p76 (o77 + 1) 1) l78
 (un1 l78 fun x79 =>
 (opAppend P r74.2 105 105 x79 x43).bind fun r80 =>
 notNil a0 fun v81 =>
 asPtr v81 fun p82 o83 =>
 scal r74.1 fun v84 =>
 (r80.2.wr p82 (o83 + 0) [v84]).bind fun h85 =>
 notNil a0 fun v86 =>
 asPtr v86 fun p87 o88 =>
 scal r80.1 fun v89 =>
 (h85.wr p87 (o88 + 1) [v89]).bind fun h90 =>
 notNil a0 fun v91 =>
 asPtr v91 fun p92 o93 =>
 (h90.wr p92 (o93 + 2) [x44, x45, x46, x47, x48, x49, x50, x51, x52, x53, x54, x55, x56, x57, x58, x59, x60, x61, x62, x63, x64, x65, x66, x67, x68]).bind fun h94 =>
 some (.ret (.tup []), h94, none))
noncomputable def f240_2 (n : Nat) (F : Fns) (h : Heap) (p11 : Nat) (o12 : Nat) (x1 : AV) (x2 : AV) (x3 : AV) (x4 : AV) (x5 : AV) (x6 : AV) (x7 : AV) (x8 : AV) (x9 : AV) (a0 : AV) : R :=
 (h.rd p11 (o12 + 2) 25).bind fun l13 =>
 un25 l13 fun x14 x15 x16 x17 x18 x19 x20 x21 x22 x23 x24 x25 x26 x27 x28 x29 x30 x31 x32 x33 x34 x35 x36 x37 x38 =>
 (opBuildSlice P h 67 1 [(0, .agg [x1, x2, x3, x4, x5, x6, x7, x8, x9])]).bind fun r39 =>
 same (r39.2.rd p11 (o12 + 2) 25) l13
 (bindC (F.plain 112 [(.agg [x14, x15, x16, x17, x18, x19, x20, x21, x22, x23, x24, x25, x26, x27, x28, x29, x30, x31, x32, x33, x34, x35, x36, x37, x38]), r39.1] r39.2) (fun v40 h41 =>
 unT2 v40 fun x42 x43 =>
 unA25 x42 fun x44 x45 x46 x47 x48 x49 x50 x51 x52 x53 x54 x55 x56 x57 x58 x59 x60 x61 x62 x63 x64 x65 x66 x67 x68 =>
 notNil a0 fun v69 =>
 asPtr v69 fun p70 o71 =>
 (h41.rd p70 (o71 + 0) 1).bind fun l72 =>
 un1 l72 fun x73 =>
 f240_1 n F h41 x73 x1 x2 x3 x4 x5 x6 x7 x8 x9 a0 x43 x44 x45 x46 x47 x48 x49 x50 x51 x52 x53 x54 x55 x56 x57 x58 x59 x60 x61 x62 x63 x64 x65 x66 x67 x68)
 (fun v95 h96 => none))
/-- (*countermand/logs.past).more -/
noncomputable def f240 (n : Nat) (F : Fns) (a0 a1 : AV) (h : Heap) : R :=
 unA9 a1 fun x1 x2 x3 x4 x5 x6 x7 x8 x9 =>
 notNil a0 fun v10 =>
 asPtr v10 fun p11 o12 =>
 f240_2 n F h p11 o12 x1 x2 x3 x4 x5 x6 x7 x8 x9 a0

noncomputable def f241_1 (n : Nat) (F : Fns) (h : Heap) (p13 : Nat) (o14 : Nat) (x1 : AV) (x2 : AV) (a0 : AV) : R :=
 (h.rd p13 (o14 + 1) 1).bind fun l15 =>
 un1 l15 fun x16 =>
 (eqop P false true 3 x1 x16).bind fun v17 =>
 asB v17 fun b18 => cond b18
 (some (.ret (.ptr none), h, none))
 ((binop .lss x2 (.int .i64 1)).bind fun v19 =>
 asB v19 fun b20 => cond b20
 (some (.ret (.ptr none), h, none))
 (notNil a0 fun v21 =>
 asPtr v21 fun p22 o23 =>
 (h.rd p22 (o23 + 2) 1).bind fun l24 =>
 un1 l24 fun x25 =>
 (lenA P 172 x25).bind fun v26 =>
 (binop .gtr x2 v26).bind fun v27 =>
 asB v27 fun b28 => cond b28
 (some (.ret (.ptr none), h, none))
 (notNil a0 fun v29 =>
 asPtr v29 fun p30 o31 =>
 (h.rd p30 (o31 + 2) 1).bind fun l32 =>
 un1 l32 fun x33 =>
 (binop .sub x2 (.int .i64 1)).bind fun v34 =>
 asI v34 fun i35 =>
 elemP x33 i35 5 fun p36 o37 =>
 some (.ret (.ptr (some (p36, o37))), h, none))))
/-- (*countermand/ledger.Ledger).at -/
noncomputable def f241 (n : Nat) (F : Fns) (a0 a1 : AV) (h : Heap) : R :=
 unA2 a1 fun x1 x2 =>
 (eqop P true false 101 a0 (.ptr none)).bind fun v3 =>
 asB v3 fun b4 => cond b4
 (some (.ret (.ptr none), h, none))
 (notNil a0 fun v5 =>
 asPtr v5 fun p6 o7 =>
 (h.rd p6 (o7 + 0) 1).bind fun l8 =>
 un1 l8 fun x9 =>
 (unop .not x9).bind fun v10 =>
 asB v10 fun b11 => cond b11
 (some (.ret (.ptr none), h, none))
 (notNil a0 fun v12 =>
 asPtr v12 fun p13 o14 =>
 f241_1 n F h p13 o14 x1 x2 a0))
end Go.Proofs.YtahbihcbidkbaaaGreat.Ev

/-
  Printed by mk.py: the equations with the evaluator.
-/
set_option maxRecDepth 100000
set_option maxHeartbeats 4000000
namespace Go.Proofs.YtahbihcbidkbaaaGreat.Ev
open Go
theorem f209_eq (n : Nat) (F : Fns) (a0 a1 : AV) (h : Heap) : callStep cx n F 209 [a0, a1] h none = f209 n F a0 a1 h := by kernel_rfl
theorem f210_eq (n : Nat) (F : Fns) (a0 a1 : AV) (h : Heap) : callStep cx n F 210 [a0, a1] h none = f210 n F a0 a1 h := by kernel_rfl
theorem f211_eq (n : Nat) (F : Fns) (a0 : AV) (h : Heap) : callStep cx n F 211 [a0] h none = f211 n F a0 h := by kernel_rfl
theorem f212_eq (n : Nat) (F : Fns) (a0 : AV) (h : Heap) : callStep cx n F 212 [a0] h none = f212 n F a0 h := by kernel_rfl
theorem f213_eq (n : Nat) (F : Fns) (a0 : AV) (h : Heap) : callStep cx n F 213 [a0] h none = f213 n F a0 h := by kernel_rfl
theorem f214_eq (n : Nat) (F : Fns) (a0 : AV) (h : Heap) : callStep cx n F 214 [a0] h none = f214 n F a0 h := by kernel_rfl
theorem f215_eq (n : Nat) (F : Fns) (a0 a1 : AV) (h : Heap) : callStep cx n F 215 [a0, a1] h none = f215 n F a0 a1 h := by kernel_rfl
theorem f216_eq (n : Nat) (F : Fns) (a0 a1 a2 : AV) (h : Heap) : callStep cx n F 216 [a0, a1, a2] h none = f216 n F a0 a1 a2 h := by kernel_rfl
theorem f217_eq (n : Nat) (F : Fns) (a0 : AV) (h : Heap) : callStep cx n F 217 [a0] h none = f217 n F a0 h := by kernel_rfl
theorem f218_eq (n : Nat) (F : Fns) (a0 a1 a2 : AV) (h : Heap) : callStep cx n F 218 [a0, a1, a2] h none = f218 n F a0 a1 a2 h := by kernel_rfl
theorem f219_eq (n : Nat) (F : Fns) (a0 a1 : AV) (h : Heap) : callStep cx n F 219 [a0, a1] h none = f219 n F a0 a1 h := by kernel_rfl
theorem f220_eq (n : Nat) (F : Fns) (a0 a1 : AV) (h : Heap) : callStep cx n F 220 [a0, a1] h none = f220 n F a0 a1 h := by kernel_rfl
theorem f221_eq (n : Nat) (F : Fns) (a0 : AV) (h : Heap) : callStep cx n F 221 [a0] h none = f221 n F a0 h := by kernel_rfl
theorem f222_eq (n : Nat) (F : Fns) (a0 : AV) (h : Heap) : callStep cx n F 222 [a0] h none = f222 n F a0 h := by kernel_rfl
theorem f223_eq (n : Nat) (F : Fns) (a0 a1 : AV) (h : Heap) : callStep cx n F 223 [a0, a1] h none = f223 n F a0 a1 h := by kernel_rfl
theorem f224_eq (n : Nat) (F : Fns) (a0 : AV) (h : Heap) : callStep cx n F 224 [a0] h none = f224 n F a0 h := by kernel_rfl
theorem f225_eq (n : Nat) (F : Fns) (a0 : AV) (h : Heap) : callStep cx n F 225 [a0] h none = f225 n F a0 h := by kernel_rfl
theorem f226_eq (n : Nat) (F : Fns) (a0 a1 : AV) (h : Heap) : callStep cx n F 226 [a0, a1] h none = f226 n F a0 a1 h := by kernel_rfl
theorem f227_eq (n : Nat) (F : Fns) (a0 a1 a2 a3 : AV) (h : Heap) : callStep cx n F 227 [a0, a1, a2, a3] h none = f227 n F a0 a1 a2 a3 h := by kernel_rfl
theorem f228_eq (n : Nat) (F : Fns) (a0 a1 : AV) (h : Heap) : callStep cx n F 228 [a0, a1] h none = f228 n F a0 a1 h := by kernel_rfl
theorem f229_eq (n : Nat) (F : Fns) (a0 a1 : AV) (h : Heap) : callStep cx n F 229 [a0, a1] h none = f229 n F a0 a1 h := by kernel_rfl
theorem f230_eq (n : Nat) (F : Fns) (a0 a1 : AV) (h : Heap) : callStep cx n F 230 [a0, a1] h none = f230 n F a0 a1 h := by kernel_rfl
theorem f231_eq (n : Nat) (F : Fns) (a0 : AV) (h : Heap) : callStep cx n F 231 [a0] h none = f231 n F a0 h := by kernel_rfl
theorem f232_eq (n : Nat) (F : Fns) (a0 : AV) (h : Heap) : callStep cx n F 232 [a0] h none = f232 n F a0 h := by kernel_rfl
theorem f233_eq (n : Nat) (F : Fns) (a0 a1 : AV) (h : Heap) : callStep cx n F 233 [a0, a1] h none = f233 n F a0 a1 h := by kernel_rfl
theorem f234_eq (n : Nat) (F : Fns) (a0 : AV) (h : Heap) : callStep cx n F 234 [a0] h none = f234 n F a0 h := by kernel_rfl
theorem f235_eq (n : Nat) (F : Fns) (a0 a1 : AV) (h : Heap) : callStep cx n F 235 [a0, a1] h none = f235 n F a0 a1 h := by kernel_rfl
theorem f236_eq (n : Nat) (F : Fns) (a0 : AV) (h : Heap) : callStep cx n F 236 [a0] h none = f236 n F a0 h := by kernel_rfl
theorem f237_eq (n : Nat) (F : Fns) (a0 a1 a2 : AV) (h : Heap) : callStep cx n F 237 [a0, a1, a2] h none = f237 n F a0 a1 a2 h := by kernel_rfl
theorem f238_eq (n : Nat) (F : Fns) (a0 a1 : AV) (h : Heap) : callStep cx n F 238 [a0, a1] h none = f238 n F a0 a1 h := by kernel_rfl
theorem f239_eq (n : Nat) (F : Fns) (a0 a1 : AV) (h : Heap) : callStep cx n F 239 [a0, a1] h none = f239 n F a0 a1 h := by kernel_rfl
theorem f240_eq (n : Nat) (F : Fns) (a0 a1 : AV) (h : Heap) : callStep cx n F 240 [a0, a1] h none = f240 n F a0 a1 h := by kernel_rfl
theorem f241_eq (n : Nat) (F : Fns) (a0 a1 : AV) (h : Heap) : callStep cx n F 241 [a0, a1] h none = f241 n F a0 a1 h := by kernel_rfl
end Go.Proofs.YtahbihcbidkbaaaGreat.Ev
