/-
  Printed by mk.py: the functions as the evaluator has them.
-/
import Derived.Test.YtahbihcbidkbaaaGreatJt
import Derived.KernelRfl
set_option linter.unusedVariables false
set_option maxRecDepth 100000
namespace Go.Proofs.YtahbihcbidkbaaaGreat.Ev
open Go
noncomputable def f158_1 (n : Nat) (F : Fns) (v16 : AV) (h13 : Heap) (x7 : AV) (a0 : AV) (a1 : AV) : R :=
 asPtr v16 fun p17 o18 =>
 (h13.rd p17 (o18 + 5) 1).bind fun l19 =>
 un1 l19 fun x20 =>
 (opAppend P h13 155 155 x20 x7).bind fun r21 =>
 notNil a0 fun v22 =>
 asPtr v22 fun p23 o24 =>
 scal r21.1 fun v25 =>
 (r21.2.wr p23 (o24 + 5) [v25]).bind fun h26 =>
 notNil a0 fun v27 =>
 asPtr v27 fun p28 o29 =>
 (h26.rd p28 (o29 + 2) 1).bind fun l30 =>
 un1 l30 fun x31 =>
 (opAppend P (h26.push (.cells [] 1)) 155 155 (.slice h26.next 0 0 0 (.ex 0)) a1).bind fun r32 =>
 same (r32.2.rd p28 (o29 + 2) 1) l30
 (scal r32.1 fun v33 =>
 (appendA P r32.2 155 x31 1 [v33]).bind fun r34 =>
 notNil a0 fun v35 =>
 asPtr v35 fun p36 o37 =>
 scal r34.1 fun v38 =>
 (r34.2.wr p36 (o37 + 2) [v38]).bind fun h39 =>
 some (.ret (.int .i64 0), h39, none))
/-- (*countermand/wal.Log).Append -/
noncomputable def f158 (n : Nat) (F : Fns) (a0 a1 : AV) (h : Heap) : R :=
 bindC (F.plain 113 [a0] h) (fun v1 h2 =>
 (unop .not v1).bind fun v3 =>
 asB v3 fun b4 => cond b4
 (some (.ret (.int .i64 9), h2, none))
 (bindC (F.plain 172 [a1] h2) (fun v5 h6 =>
 unT2 v5 fun x7 x8 =>
 (eqop P true true 41 x8 (.int .i64 0)).bind fun v9 =>
 asB v9 fun b10 => cond b10
 (some (.ret x8, h6, none))
 ((lenA P 155 x7).bind fun v11 =>
 bindC (F.plain 217 [a0] h6) (fun v12 h13 =>
 (binop .gtr v11 v12).bind fun v14 =>
 asB v14 fun b15 => cond b15
 (some (.ret (.int .i64 10), h13, none))
 (notNil a0 fun v16 =>
 f158_1 n F v16 h13 x7 a0 a1))
 (fun v40 h41 => some (.panic v40, h41, none))))
 (fun v42 h43 => some (.panic v42, h43, none))))
 (fun v44 h45 => some (.panic v44, h45, none))

/-- slices.IndexFunc[[]countermand/api.Change,countermand/api.Change] -/
noncomputable def f159 (n : Nat) (F : Fns) (a0 a1 : AV) (h : Heap) : R :=
 (lenA P 67 a0).bind fun v1 =>
 loopV (fun vs3 h4 self2 => un4 vs3 fun x5 x6 x7 x8 =>
 (binop .lss x8 x7).bind fun v9 =>
 asB v9 fun b10 => cond b10
 (asI x8 fun i11 =>
 elemP x5 i11 9 fun p12 o13 =>
 (h4.rd p12 o13 9).bind fun l14 =>
 un9 l14 fun x15 x16 x17 x18 x19 x20 x21 x22 x23 =>
 bindC (F.callV x6 [(.agg [x15, x16, x17, x18, x19, x20, x21, x22, x23])] h4) (fun v24 h25 =>
 asB v24 fun b26 => cond b26
 (some (.ret x8, h25, none))
 ((binop .add x8 (.int .i64 1)).bind fun v27 =>
 self2 [x5, x6, x7, v27] h25))
 (fun v28 h29 => some (.panic v28, h29, none)))
 (some (.ret (.int .i64 (-1)), h4, none))) n [a0, a1, v1, (.int .i64 0)] h

/-- countermand/stamp.Find$1 -/
noncomputable def f160 (n : Nat) (F : Fns) (a0 a1 : AV) (h : Heap) : R :=
 unA9 a0 fun x1 x2 x3 x4 x5 x6 x7 x8 x9 =>
 asPtr a1 fun p10 o11 =>
 (h.rd p10 o11 2).bind fun l12 =>
 un2 l12 fun x13 x14 =>
 (eqop P false false 48 (.agg [x1, x2]) (.agg [x13, x14])).bind fun v15 =>
 some (.ret v15, h, none)

/-- slices.Clone[[]countermand/api.Effect,countermand/api.Effect] -/
noncomputable def f161 (n : Nat) (F : Fns) (a0 : AV) (h : Heap) : R :=
 (eqop P true false 129 a0 .nilSlice).bind fun v1 =>
 asB v1 fun b2 => cond b2
 (some (.ret .nilSlice, h, none))
 ((opAppend P (h.push (.cells [] 5)) 129 129 (.slice h.next 0 0 0 (.ex 0)) a0).bind fun r3 =>
 some (.ret r3.1, r3.2, none))

/-- slices.Clone[[]countermand/api.Order,countermand/api.Order] -/
noncomputable def f162 (n : Nat) (F : Fns) (a0 : AV) (h : Heap) : R :=
 (eqop P true false 107 a0 .nilSlice).bind fun v1 =>
 asB v1 fun b2 => cond b2
 (some (.ret .nilSlice, h, none))
 ((opAppend P (h.push (.cells [] 7)) 107 107 (.slice h.next 0 0 0 (.ex 0)) a0).bind fun r3 =>
 some (.ret r3.1, r3.2, none))

/-- countermand/fold.steps -/
noncomputable def f163 (n : Nat) (F : Fns) (a0 a1 : AV) (h : Heap) : R :=
 unA25 a0 fun x1 x2 x3 x4 x5 x6 x7 x8 x9 x10 x11 x12 x13 x14 x15 x16 x17 x18 x19 x20 x21 x22 x23 x24 x25 =>
 let h26 := h.push (.cells [x1, x2, x3, x4, x5, x6, x7, x8, x9, x10, x11, x12, x13, x14, x15, x16, x17, x18, x19, x20, x21, x22, x23, x24, x25] 1)
 scal a1 fun v27 =>
 let h28 := h26.push (.cells [v27] 1)
 some (.ret (.fn 218 [] [(.ptr (some (h26.next, 0))), (.ptr (some (h.next, 0)))]), h28, none)

noncomputable def f164_1 (n : Nat) (F : Fns) (h35 : Heap) (p37 : Nat) (o38 : Nat) (a1 : AV) (a2 : AV) (x27 : AV) (a0 : AV) : R :=
 (h35.rd p37 (o38 + 4) 1).bind fun l39 =>
 un1 l39 fun x40 =>
 asI a1 fun i41 =>
 elemP x40 i41 32 fun p42 o43 =>
 (sliceA P h35 234 (.ptr (some (p42, o43))) none none none).bind fun v44 =>
 (sliceA P h35 155 a2 none (some x27) none).bind fun v45 =>
 (opCopy P h35 155 v44 v45).bind fun r46 =>
 notNil a0 fun v47 =>
 asPtr v47 fun p48 o49 =>
 (r46.2.rd p48 (o49 + 3) 1).bind fun l50 =>
 un1 l50 fun x51 =>
 (binop .add x51 x27).bind fun v52 =>
 notNil a0 fun v53 =>
 asPtr v53 fun p54 o55 =>
 scal v52 fun v56 =>
 (r46.2.wr p54 (o55 + 3) [v56]).bind fun h57 =>
 notNil a0 fun v58 =>
 asPtr v58 fun p59 o60 =>
 (h57.rd p59 (o60 + 1) 1).bind fun l61 =>
 un1 l61 fun x62 =>
 (unop .not x62).bind fun v63 =>
 some (.ret v63, h57, none)
noncomputable def f164_2 (n : Nat) (F : Fns) (h81 : Heap) (p83 : Nat) (o84 : Nat) (a1 : AV) (a2 : AV) (v8 : AV) (a0 : AV) : R :=
 (h81.rd p83 (o84 + 4) 1).bind fun l85 =>
 un1 l85 fun x86 =>
 asI a1 fun i87 =>
 elemP x86 i87 32 fun p88 o89 =>
 (sliceA P h81 234 (.ptr (some (p88, o89))) none none none).bind fun v90 =>
 (sliceA P h81 155 a2 none (some v8) none).bind fun v91 =>
 (opCopy P h81 155 v90 v91).bind fun r92 =>
 notNil a0 fun v93 =>
 asPtr v93 fun p94 o95 =>
 (r92.2.rd p94 (o95 + 3) 1).bind fun l96 =>
 un1 l96 fun x97 =>
 (binop .add x97 v8).bind fun v98 =>
 notNil a0 fun v99 =>
 asPtr v99 fun p100 o101 =>
 scal v98 fun v102 =>
 (r92.2.wr p100 (o101 + 3) [v102]).bind fun h103 =>
 notNil a0 fun v104 =>
 asPtr v104 fun p105 o106 =>
 (h103.rd p105 (o106 + 1) 1).bind fun l107 =>
 un1 l107 fun x108 =>
 (unop .not x108).bind fun v109 =>
 some (.ret v109, h103, none)
noncomputable def f164_3 (n : Nat) (F : Fns) (h2 : Heap) (p111 : Nat) (o112 : Nat) (a1 : AV) (a2 : AV) (v8 : AV) (a0 : AV) : R :=
 (h2.rd p111 (o112 + 4) 1).bind fun l113 =>
 un1 l113 fun x114 =>
 asI a1 fun i115 =>
 elemP x114 i115 32 fun p116 o117 =>
 (sliceA P h2 234 (.ptr (some (p116, o117))) none none none).bind fun v118 =>
 (sliceA P h2 155 a2 none (some v8) none).bind fun v119 =>
 (opCopy P h2 155 v118 v119).bind fun r120 =>
 notNil a0 fun v121 =>
 asPtr v121 fun p122 o123 =>
 (r120.2.rd p122 (o123 + 3) 1).bind fun l124 =>
 un1 l124 fun x125 =>
 (binop .add x125 v8).bind fun v126 =>
 notNil a0 fun v127 =>
 asPtr v127 fun p128 o129 =>
 scal v126 fun v130 =>
 (r120.2.wr p128 (o129 + 3) [v130]).bind fun h131 =>
 notNil a0 fun v132 =>
 asPtr v132 fun p133 o134 =>
 (h131.rd p133 (o134 + 1) 1).bind fun l135 =>
 un1 l135 fun x136 =>
 (unop .not x136).bind fun v137 =>
 some (.ret v137, h131, none)
noncomputable def f164_4 (n : Nat) (F : Fns) (v21 : AV) (a0 : AV) (h2 : Heap) (a1 : AV) (a2 : AV) (v8 : AV) : R :=
 asB v21 fun b22 => cond b22
 (notNil a0 fun v23 =>
 asPtr v23 fun p24 o25 =>
 (h2.rd p24 (o25 + 2) 1).bind fun l26 =>
 un1 l26 fun x27 =>
 notNil a0 fun v28 =>
 asPtr v28 fun p29 o30 =>
 (h2.wr p29 (o30 + 1) [(.bool true)]).bind fun h31 =>
 notNil a0 fun v32 =>
 asPtr v32 fun p33 o34 =>
 (h31.wr p33 (o34 + 2) [(.int .i64 (-1))]).bind fun h35 =>
 notNil a0 fun v36 =>
 asPtr v36 fun p37 o38 =>
 f164_1 n F h35 p37 o38 a1 a2 x27 a0)
 (notNil a0 fun v64 =>
 asPtr v64 fun p65 o66 =>
 (h2.rd p65 (o66 + 2) 1).bind fun l67 =>
 un1 l67 fun x68 =>
 (eqop P true true 3 x68 (.int .i64 (-1))).bind fun v69 =>
 asB v69 fun b70 => cond b70
 (notNil a0 fun v71 =>
 asPtr v71 fun p72 o73 =>
 (h2.rd p72 (o73 + 2) 1).bind fun l74 =>
 un1 l74 fun x75 =>
 (binop .sub x75 v8).bind fun v76 =>
 notNil a0 fun v77 =>
 asPtr v77 fun p78 o79 =>
 scal v76 fun v80 =>
 (h2.wr p78 (o79 + 2) [v80]).bind fun h81 =>
 notNil a0 fun v82 =>
 asPtr v82 fun p83 o84 =>
 f164_2 n F h81 p83 o84 a1 a2 v8 a0)
 (notNil a0 fun v110 =>
 asPtr v110 fun p111 o112 =>
 f164_3 n F h2 p111 o112 a1 a2 v8 a0))
noncomputable def f164_5 (n : Nat) (F : Fns) (h155 : Heap) (p157 : Nat) (o158 : Nat) (a1 : AV) (a2 : AV) (v8 : AV) (a0 : AV) : R :=
 (h155.rd p157 (o158 + 4) 1).bind fun l159 =>
 un1 l159 fun x160 =>
 asI a1 fun i161 =>
 elemP x160 i161 32 fun p162 o163 =>
 (sliceA P h155 234 (.ptr (some (p162, o163))) none none none).bind fun v164 =>
 (sliceA P h155 155 a2 none (some v8) none).bind fun v165 =>
 (opCopy P h155 155 v164 v165).bind fun r166 =>
 notNil a0 fun v167 =>
 asPtr v167 fun p168 o169 =>
 (r166.2.rd p168 (o169 + 3) 1).bind fun l170 =>
 un1 l170 fun x171 =>
 (binop .add x171 v8).bind fun v172 =>
 notNil a0 fun v173 =>
 asPtr v173 fun p174 o175 =>
 scal v172 fun v176 =>
 (r166.2.wr p174 (o175 + 3) [v176]).bind fun h177 =>
 notNil a0 fun v178 =>
 asPtr v178 fun p179 o180 =>
 (h177.rd p179 (o180 + 1) 1).bind fun l181 =>
 un1 l181 fun x182 =>
 (unop .not x182).bind fun v183 =>
 some (.ret v183, h177, none)
noncomputable def f164_6 (n : Nat) (F : Fns) (h2 : Heap) (p185 : Nat) (o186 : Nat) (a1 : AV) (a2 : AV) (v8 : AV) (a0 : AV) : R :=
 (h2.rd p185 (o186 + 4) 1).bind fun l187 =>
 un1 l187 fun x188 =>
 asI a1 fun i189 =>
 elemP x188 i189 32 fun p190 o191 =>
 (sliceA P h2 234 (.ptr (some (p190, o191))) none none none).bind fun v192 =>
 (sliceA P h2 155 a2 none (some v8) none).bind fun v193 =>
 (opCopy P h2 155 v192 v193).bind fun r194 =>
 notNil a0 fun v195 =>
 asPtr v195 fun p196 o197 =>
 (r194.2.rd p196 (o197 + 3) 1).bind fun l198 =>
 un1 l198 fun x199 =>
 (binop .add x199 v8).bind fun v200 =>
 notNil a0 fun v201 =>
 asPtr v201 fun p202 o203 =>
 scal v200 fun v204 =>
 (r194.2.wr p202 (o203 + 3) [v204]).bind fun h205 =>
 notNil a0 fun v206 =>
 asPtr v206 fun p207 o208 =>
 (h205.rd p207 (o208 + 1) 1).bind fun l209 =>
 un1 l209 fun x210 =>
 (unop .not x210).bind fun v211 =>
 some (.ret v211, h205, none)
noncomputable def f164_7 (n : Nat) (F : Fns) (v14 : AV) (a0 : AV) (h2 : Heap) (v8 : AV) (a1 : AV) (a2 : AV) : R :=
 asB v14 fun b15 => cond b15
 (notNil a0 fun v16 =>
 asPtr v16 fun p17 o18 =>
 (h2.rd p17 (o18 + 2) 1).bind fun l19 =>
 un1 l19 fun x20 =>
 (binop .lss x20 v8).bind fun v21 =>
 f164_4 n F v21 a0 h2 a1 a2 v8)
 (notNil a0 fun v138 =>
 asPtr v138 fun p139 o140 =>
 (h2.rd p139 (o140 + 2) 1).bind fun l141 =>
 un1 l141 fun x142 =>
 (eqop P true true 3 x142 (.int .i64 (-1))).bind fun v143 =>
 asB v143 fun b144 => cond b144
 (notNil a0 fun v145 =>
 asPtr v145 fun p146 o147 =>
 (h2.rd p146 (o147 + 2) 1).bind fun l148 =>
 un1 l148 fun x149 =>
 (binop .sub x149 v8).bind fun v150 =>
 notNil a0 fun v151 =>
 asPtr v151 fun p152 o153 =>
 scal v150 fun v154 =>
 (h2.wr p152 (o153 + 2) [v154]).bind fun h155 =>
 notNil a0 fun v156 =>
 asPtr v156 fun p157 o158 =>
 f164_5 n F h155 p157 o158 a1 a2 v8 a0)
 (notNil a0 fun v184 =>
 asPtr v184 fun p185 o186 =>
 f164_6 n F h2 p185 o186 a1 a2 v8 a0))
/-- (*countermand/disk.Disk).Write -/
noncomputable def f164 (n : Nat) (F : Fns) (a0 a1 a2 : AV) (h : Heap) : R :=
 bindC (F.plain 220 [a0, a1] h) (fun v1 h2 =>
 (unop .not v1).bind fun v3 =>
 asB v3 fun b4 => cond b4
 (some (.ret (.bool false), h2, none))
 ((lenA P 155 a2).bind fun v5 =>
 (eqop P true true 3 v5 (.int .i64 32)).bind fun v6 =>
 asB v6 fun b7 => cond b7
 (some (.ret (.bool false), h2, none))
 ((lenA P 155 a2).bind fun v8 =>
 notNil a0 fun v9 =>
 asPtr v9 fun p10 o11 =>
 (h2.rd p10 (o11 + 2) 1).bind fun l12 =>
 un1 l12 fun x13 =>
 (eqop P true true 3 x13 (.int .i64 (-1))).bind fun v14 =>
 f164_7 n F v14 a0 h2 v8 a1 a2)))
 (fun v212 h213 => some (.panic v212, h213, none))

/-- (*countermand/disk.Disk).Read -/
noncomputable def f165 (n : Nat) (F : Fns) (a0 a1 : AV) (h : Heap) : R :=
 bindC (F.plain 220 [a0, a1] h) (fun v1 h2 =>
 (unop .not v1).bind fun v3 =>
 asB v3 fun b4 => cond b4
 (some (.ret (.tup [.nilSlice, (.bool false)]), h2, none))
 (notNil a0 fun v5 =>
 asPtr v5 fun p6 o7 =>
 (h2.rd p6 (o7 + 4) 1).bind fun l8 =>
 un1 l8 fun x9 =>
 asI a1 fun i10 =>
 elemP x9 i10 32 fun p11 o12 =>
 (sliceA P h2 234 (.ptr (some (p11, o12))) none none none).bind fun v13 =>
 bindC (F.plain 139 [v13] h2) (fun v14 h15 =>
 some (.ret (.tup [v14, (.bool true)]), h15, none))
 (fun v16 h17 => some (.panic v16, h17, none))))
 (fun v18 h19 => some (.panic v18, h19, none))

noncomputable def f166_1 (n : Nat) (F : Fns) (x1 : AV) (x2 : AV) (x3 : AV) (x4 : AV) (x5 : AV) (x6 : AV) (x7 : AV) (x8 : AV) (x9 : AV) (x10 : AV) (x11 : AV) (x12 : AV) (x13 : AV) (x14 : AV) (x15 : AV) (x16 : AV) (x17 : AV) (x18 : AV) (x19 : AV) (h25 : Heap) : R :=
 bindC (F.plain 222 [(.agg [x1, x2, x3, x4, x5, x6, x7, x8, x9, x10, x11, x12, x13, x14, x15, x16, x17, x18, x19])] h25) (fun v39 h40 =>
 (unop .not v39).bind fun v41 =>
 asB v41 fun b42 => cond b42
 (some (.ret (.int .i64 4), h40, none))
 (bindC (F.plain 224 [(.agg [x1, x2, x3, x4, x5, x6, x7, x8, x9, x10, x11, x12, x13, x14, x15, x16, x17, x18, x19])] h40) (fun v43 h44 =>
 bindC (F.plain 223 [v43, (.agg [x1, x2, x3, x4, x5, x6, x7, x8, x9, x10, x11, x12, x13, x14, x15, x16, x17, x18, x19])] h44) (fun v45 h46 =>
 (unop .not v45).bind fun v47 =>
 asB v47 fun b48 => cond b48
 (some (.ret (.int .i64 16), h46, none))
 (some (.ret (.int .i64 0), h46, none)))
 (fun v49 h50 => some (.panic v49, h50, none)))
 (fun v51 h52 => none)))
 (fun v53 h54 => some (.panic v53, h54, none))
noncomputable def f166_2 (n : Nat) (F : Fns) (v24 : AV) (h25 : Heap) (x1 : AV) (x2 : AV) (x3 : AV) (x4 : AV) (x5 : AV) (x6 : AV) (x7 : AV) (x8 : AV) (x9 : AV) (x10 : AV) (x11 : AV) (x12 : AV) (x13 : AV) (x14 : AV) (x15 : AV) (x16 : AV) (x17 : AV) (x18 : AV) (x19 : AV) : R :=
 (unop .not v24).bind fun v26 =>
 asB v26 fun b27 => cond b27
 (asB v26 fun b28 => cond b28
 (some (.ret (.int .i64 4), h25, none))
 (bindC (F.plain 224 [(.agg [x1, x2, x3, x4, x5, x6, x7, x8, x9, x10, x11, x12, x13, x14, x15, x16, x17, x18, x19])] h25) (fun v29 h30 =>
 bindC (F.plain 223 [v29, (.agg [x1, x2, x3, x4, x5, x6, x7, x8, x9, x10, x11, x12, x13, x14, x15, x16, x17, x18, x19])] h30) (fun v31 h32 =>
 (unop .not v31).bind fun v33 =>
 asB v33 fun b34 => cond b34
 (some (.ret (.int .i64 16), h32, none))
 (some (.ret (.int .i64 0), h32, none)))
 (fun v35 h36 => some (.panic v35, h36, none)))
 (fun v37 h38 => none)))
 (f166_1 n F x1 x2 x3 x4 x5 x6 x7 x8 x9 x10 x11 x12 x13 x14 x15 x16 x17 x18 x19 h25)
/-- countermand/msg.Check -/
noncomputable def f166 (n : Nat) (F : Fns) (a0 : AV) (h : Heap) : R :=
 unA19 a0 fun x1 x2 x3 x4 x5 x6 x7 x8 x9 x10 x11 x12 x13 x14 x15 x16 x17 x18 x19 =>
 bindC (F.plain 62 [x1, (.int .i64 1), (.int .i64 4)] h) (fun v20 h21 =>
 (unop .not v20).bind fun v22 =>
 asB v22 fun b23 => cond b23
 (some (.ret (.int .i64 12), h21, none))
 (bindC (F.plain 221 [(.agg [x1, x2, x3, x4, x5, x6, x7, x8, x9, x10, x11, x12, x13, x14, x15, x16, x17, x18, x19])] h21) (fun v24 h25 =>
 f166_2 n F v24 h25 x1 x2 x3 x4 x5 x6 x7 x8 x9 x10 x11 x12 x13 x14 x15 x16 x17 x18 x19)
 (fun v55 h56 => some (.panic v55, h56, none))))
 (fun v57 h58 => some (.panic v57, h58, none))

noncomputable def f167_1 (n : Nat) (F : Fns) (a0 : AV) (a1 : AV) (a2 : AV) (v1 : AV) (h : Heap) : R :=
 loopV (fun vs3 h4 self2 => un5 vs3 fun x5 x6 x7 x8 x9 =>
 (binop .lss x9 x8).bind fun v10 =>
 asB v10 fun b11 => cond b11
 (asI x9 fun i12 =>
 elemP x7 i12 1 fun p13 o14 =>
 (h4.rd p13 o14 1).bind fun l15 =>
 un1 l15 fun x16 =>
 notNil x5 fun v17 =>
 asPtr v17 fun p18 o19 =>
 (h4.rd p18 (o19 + 0) 1).bind fun l20 =>
 un1 l20 fun x21 =>
 (convertA P 3 277 x16).bind fun v22 =>
 bindC (F.plain 216 [x21, v22, x6] h4) (fun v23 h24 =>
 notNil x5 fun v25 =>
 asPtr v25 fun p26 o27 =>
 scal v23 fun v28 =>
 (h24.wr p26 (o27 + 0) [v28]).bind fun h29 =>
 (binop .add x9 (.int .i64 1)).bind fun v30 =>
 self2 [x5, x6, x7, x8, v30] h29)
 (fun v31 h32 => some (.panic v31, h32, none)))
 (some (.ret (.tup []), h4, none))) n [a0, a1, a2, v1, (.int .i64 0)] h
/-- (*countermand/msg.writer).put -/
noncomputable def f167 (n : Nat) (F : Fns) (a0 a1 a2 : AV) (h : Heap) : R :=
 (lenA P 269 a2).bind fun v1 =>
 f167_1 n F a0 a1 a2 v1 h

/-- (*countermand/msg.writer).id -/
noncomputable def f168 (n : Nat) (F : Fns) (a0 a1 : AV) (h : Heap) : R :=
 unA2 a1 fun x1 x2 =>
 (opBuildSlice P h 269 1 [(0, x1)]).bind fun r3 =>
 bindC (F.plain 167 [a0, (.int .i64 1), r3.1] r3.2) (fun v4 h5 =>
 unT0 v4 fun _u =>
 (opBuildSlice P h5 269 1 [(0, x2)]).bind fun r6 =>
 bindC (F.plain 167 [a0, (.int .i64 2), r6.1] r6.2) (fun v7 h8 =>
 unT0 v7 fun _u =>
 some (.ret (.tup []), h8, none))
 (fun v9 h10 => some (.panic v9, h10, none)))
 (fun v11 h12 => some (.panic v11, h12, none))

noncomputable def f169_1 (n : Nat) (F : Fns) (r6 : AV × Heap) (a0 : AV) (v7 : AV) : R :=
 loopV (fun vs9 h10 self8 => un4 vs9 fun x11 x12 x13 x14 =>
 (binop .lss x14 x13).bind fun v15 =>
 asB v15 fun b16 => cond b16
 (asI x14 fun i17 =>
 elemP x12 i17 9 fun p18 o19 =>
 (h10.rd p18 o19 9).bind fun l20 =>
 un9 l20 fun x21 x22 x23 x24 x25 x26 x27 x28 x29 =>
 bindC (F.plain 214 [(.agg [x21, x22, x23, x24, x25, x26, x27, x28, x29])] h10) (fun v30 h31 =>
 unT2 v30 fun x32 x33 =>
 (eqop P true true 41 x33 (.int .i64 0)).bind fun v34 =>
 asB v34 fun b35 => cond b35
 (some (.ret (.tup [.nilSlice, x33]), h31, none))
 ((opAppend P h31 155 155 x11 x32).bind fun r36 =>
 (binop .add x14 (.int .i64 1)).bind fun v37 =>
 self8 [r36.1, x12, x13, v37] r36.2))
 (fun v38 h39 => some (.panic v38, h39, none)))
 (some (.ret (.tup [x11, (.int .i64 0)]), h10, none))) n [r6.1, a0, v7, (.int .i64 0)] r6.2
/-- countermand/change.All -/
noncomputable def f169 (n : Nat) (F : Fns) (a0 : AV) (h : Heap) : R :=
 (lenA P 67 a0).bind fun v1 =>
 (binop .gtr v1 (.int .i64 48)).bind fun v2 =>
 asB v2 fun b3 => cond b3
 (some (.ret (.tup [.nilSlice, (.int .i64 3)]), h, none))
 ((lenA P 67 a0).bind fun v4 =>
 (convertA P 3 5 v4).bind fun v5 =>
 (opBuildSlice P h 155 1 [(0, v5)]).bind fun r6 =>
 (lenA P 67 a0).bind fun v7 =>
 f169_1 n F r6 a0 v7)

/-- (*countermand/msg.writer).key -/
noncomputable def f170 (n : Nat) (F : Fns) (a0 a1 : AV) (h : Heap) : R :=
 unA4 a1 fun x1 x2 x3 x4 =>
 bindC (F.plain 168 [a0, (.agg [x1, x2])] h) (fun v5 h6 =>
 unT0 v5 fun _u =>
 asB x4 fun b7 => cond b7
 ((opBuildSlice P h6 269 2 [(0, x3), (1, .int .i64 1)]).bind fun r8 =>
 bindC (F.plain 167 [a0, (.int .i64 1), r8.1] r8.2) (fun v9 h10 =>
 unT0 v9 fun _u =>
 some (.ret (.tup []), h10, none))
 (fun v11 h12 => some (.panic v11, h12, none)))
 ((opBuildSlice P h6 269 2 [(0, x3), (1, .int .i64 0)]).bind fun r13 =>
 bindC (F.plain 167 [a0, (.int .i64 1), r13.1] r13.2) (fun v14 h15 =>
 unT0 v14 fun _u =>
 some (.ret (.tup []), h15, none))
 (fun v16 h17 => some (.panic v16, h17, none))))
 (fun v18 h19 => some (.panic v18, h19, none))

noncomputable def f171_1 (n : Nat) (F : Fns) (v6 : AV) (h7 : Heap) (x1 : AV) (x2 : AV) (x3 : AV) (x4 : AV) (x5 : AV) : R :=
 (eqop P true true 41 v6 (.int .i64 0)).bind fun v8 =>
 asB v8 fun b9 => cond b9
 (some (.ret (.tup [.nilSlice, v6]), h7, none))
 ((convertA P 3 5 x1).bind fun v10 =>
 (convertA P 3 5 x2).bind fun v11 =>
 (opBuildSlice P h7 155 2 [(0, v10), (1, v11)]).bind fun r12 =>
 (convertA P 2 277 x3).bind fun v13 =>
 bindC (F.plain 216 [r12.1, v13, (.int .i64 8)] r12.2) (fun v14 h15 =>
 (convertA P 3 5 x4).bind fun v16 =>
 scal v16 fun v17 =>
 (appendA P h15 5 v14 1 [v17]).bind fun r18 =>
 (convertA P 3 277 x5).bind fun v19 =>
 bindC (F.plain 216 [r18.1, v19, (.int .i64 2)] r18.2) (fun v20 h21 =>
 some (.ret (.tup [v20, (.int .i64 0)]), h21, none))
 (fun v22 h23 => some (.panic v22, h23, none)))
 (fun v24 h25 => some (.panic v24, h25, none)))
/-- countermand/effect.Put -/
noncomputable def f171 (n : Nat) (F : Fns) (a0 : AV) (h : Heap) : R :=
 unA5 a0 fun x1 x2 x3 x4 x5 =>
 bindC (F.plain 225 [(.agg [x1, x2, x3, x4, x5])] h) (fun v6 h7 =>
 f171_1 n F v6 h7 x1 x2 x3 x4 x5)
 (fun v26 h27 => some (.panic v26, h27, none))

noncomputable def f172_1 (n : Nat) (F : Fns) (v7 : AV) (h6 : Heap) (a0 : AV) : R :=
 asB v7 fun b8 => cond b8
 (some (.ret (.tup [.nilSlice, (.int .i64 5)]), h6, none))
 ((lenA P 155 a0).bind fun v9 =>
 (convertA P 3 277 v9).bind fun v10 =>
 bindC (F.plain 216 [.nilSlice, v10, (.int .i64 2)] h6) (fun v11 h12 =>
 (opAppend P h12 155 155 v11 a0).bind fun r13 =>
 (opBuildSlice P r13.2 199 1 [(0, a0)]).bind fun r14 =>
 bindC (F.plain 180 [r14.1] r14.2) (fun v15 h16 =>
 (convertA P 280 277 v15).bind fun v17 =>
 bindC (F.plain 216 [r13.1, v17, (.int .i64 4)] h16) (fun v18 h19 =>
 (appendA P h19 5 v18 1 [(.int .u8 90)]).bind fun r20 =>
 some (.ret (.tup [r20.1, (.int .i64 0)]), r20.2, none))
 (fun v21 h22 => some (.panic v21, h22, none)))
 (fun v23 h24 => some (.panic v23, h24, none)))
 (fun v25 h26 => some (.panic v25, h26, none)))
/-- countermand/frame.Put -/
noncomputable def f172 (n : Nat) (F : Fns) (a0 : AV) (h : Heap) : R :=
 (lenA P 155 a0).bind fun v1 =>
 (eqop P true false 3 v1 (.int .i64 0)).bind fun v2 =>
 asB v2 fun b3 => cond b3
 (some (.ret (.tup [.nilSlice, (.int .i64 4)]), h, none))
 ((lenA P 155 a0).bind fun v4 =>
 bindC (F.plain 178 [v4] h) (fun v5 h6 =>
 (eqop P true false 3 v5 (.int .i64 0)).bind fun v7 =>
 f172_1 n F v7 h6 a0)
 (fun v27 h28 => some (.panic v27, h28, none)))

noncomputable def f173_1 (n : Nat) (F : Fns) (h4 : Heap) (p19 : Nat) (o20 : Nat) (x12 : AV) (x13 : AV) (x14 : AV) (x15 : AV) (x7 : AV) (self2 : List AV → Heap → R) (x5 : AV) (x6 : AV) (x8 : AV) (x9 : AV) (x10 : AV) (x11 : AV) : R :=
 (h4.rd p19 o20 9).bind fun l21 =>
 un9 l21 fun x22 x23 x24 x25 x26 x27 x28 x29 x30 =>
 bindC (F.plain 212 [x22] h4) (fun v31 h32 =>
 asB v31 fun b33 => cond b33
 (asI x22 fun i34 =>
 inArr i34 4 fun j35 =>
 (take? [x12, x13, x14, x15] (0 + j35 * 1) 1).bind fun l36 =>
 un1 l36 fun x37 =>
 (fold2 max2 x37 [x23]).bind fun v38 =>
 asI x22 fun i39 =>
 inArr i39 4 fun j40 =>
 scal v38 fun v41 =>
 (lay? [x12, x13, x14, x15] (0 + j40 * 1) [v41]).bind fun l42 =>
 un4 l42 fun x43 x44 x45 x46 =>
 (binop .add x7 (.int .i64 1)).bind fun v47 =>
 self2 [x5, x6, v47, x8, x9, x10, x11, x43, x44, x45, x46] h32)
 ((binop .add x7 (.int .i64 1)).bind fun v48 =>
 self2 [x5, x6, v48, x8, x9, x10, x11, x12, x13, x14, x15] h32))
 (fun v49 h50 => some (.panic v49, h50, none))
/-- countermand/vector.Of -/
noncomputable def f173 (n : Nat) (F : Fns) (a0 : AV) (h : Heap) : R :=
 (lenA P 67 a0).bind fun v1 =>
 loopV (fun vs3 h4 self2 => un11 vs3 fun x5 x6 x7 x8 x9 x10 x11 x12 x13 x14 x15 =>
 (binop .lss x7 x6).bind fun v16 =>
 asB v16 fun b17 => cond b17
 (asI x7 fun i18 =>
 elemP x5 i18 9 fun p19 o20 =>
 f173_1 n F h4 p19 o20 x12 x13 x14 x15 x7 self2 x5 x6 x8 x9 x10 x11)
 (some (.ret (.agg [x12, x13, x14, x15]), h4, none))) n [a0, v1, (.int .i64 0), (.int .i64 0), (.int .i64 0), (.int .i64 0), (.int .i64 0), (.int .i64 0), (.int .i64 0), (.int .i64 0), (.int .i64 0)] h

noncomputable def f174_1 (n : Nat) (F : Fns) (v10 : AV) (x9 : AV) (x7 : AV) (h4 : Heap) (x6 : AV) (self2 : List AV → Heap → R) (x5 : AV) (x8 : AV) : R :=
 asB v10 fun b11 => cond b11
 (asI x9 fun i12 =>
 elemP x7 i12 1 fun p13 o14 =>
 (h4.rd p13 o14 1).bind fun l15 =>
 un1 l15 fun x16 =>
 (lenA P 67 x16).bind fun v17 =>
 (binop .add x6 v17).bind fun v18 =>
 (binop .lss v18 (.int .i64 0)).bind fun v19 =>
 asB v19 fun b20 => cond b20
 (some (.panic (.iface 9 (.str ⟨#[108, 101, 110, 32, 111, 117, 116, 32, 111, 102, 32, 114, 97, 110, 103, 101]⟩)), h4, none))
 ((binop .add x9 (.int .i64 1)).bind fun v21 =>
 self2 [x5, v18, x7, x8, v21] h4))
 (bindC (F.plain 226 [.nilSlice, x6] h4) (fun v22 h23 =>
 (lenA P 325 x5).bind fun v24 =>
 loopV (fun vs26 h27 self25 => un4 vs26 fun x28 x29 x30 x31 =>
 (binop .lss x31 x30).bind fun v32 =>
 asB v32 fun b33 => cond b33
 (asI x31 fun i34 =>
 elemP x29 i34 1 fun p35 o36 =>
 (h27.rd p35 o36 1).bind fun l37 =>
 un1 l37 fun x38 =>
 (opAppend P h27 67 67 x28 x38).bind fun r39 =>
 (binop .add x31 (.int .i64 1)).bind fun v40 =>
 self25 [r39.1, x29, x30, v40] r39.2)
 (some (.ret x28, h27, none))) n [v22, x5, v24, (.int .i64 0)] h23)
 (fun v41 h42 => some (.panic v41, h42, none)))
/-- slices.Concat[[]countermand/api.Change,countermand/api.Change] -/
noncomputable def f174 (n : Nat) (F : Fns) (a0 : AV) (h : Heap) : R :=
 (lenA P 325 a0).bind fun v1 =>
 loopV (fun vs3 h4 self2 => un5 vs3 fun x5 x6 x7 x8 x9 =>
 (binop .lss x9 x8).bind fun v10 =>
 f174_1 n F v10 x9 x7 h4 x6 self2 x5 x8) n [a0, (.int .i64 0), a0, v1, (.int .i64 0)] h

/-- (*countermand/tent.Tent).Len -/
noncomputable def f175 (n : Nat) (F : Fns) (a0 : AV) (h : Heap) : R :=
 (eqop P true false 112 a0 (.ptr none)).bind fun v1 =>
 asB v1 fun b2 => cond b2
 (some (.ret (.int .i64 0), h, none))
 (notNil a0 fun v3 =>
 asPtr v3 fun p4 o5 =>
 (h.rd p4 (o5 + 0) 1).bind fun l6 =>
 un1 l6 fun x7 =>
 (lenA P 67 x7).bind fun v8 =>
 some (.ret v8, h, none))

noncomputable def f176_1 (n : Nat) (F : Fns) (h11 : Heap) (p25 : Nat) (o26 : Nat) (x17 : AV) (x18 : AV) (x19 : AV) (x20 : AV) (x21 : AV) (x12 : AV) (x13 : AV) (x16 : AV) (self9 : List AV → Heap → R) (x14 : AV) (x15 : AV) : R :=
 (h11.rd p25 o26 5).bind fun l27 =>
 un5 l27 fun x28 x29 x30 x31 x32 =>
 bindC (F.plain 227 [(.agg [x28, x29, x30, x31]), x32, (.agg [x17, x18, x19, x20, x21]), x12] h11) (fun v33 h34 =>
 asB v33 fun b35 => cond b35
 (bindC (F.plain 228 [(.agg [x28, x29, x30, x31]), x32] h34) (fun v36 h37 =>
 unT2 v36 fun x38 x39 =>
 unA9 x38 fun x40 x41 x42 x43 x44 x45 x46 x47 x48 =>
 (appendA P h37 98 x13 1 [x40, x41, x42, x43, x44, x45, x46, x47, x48]).bind fun r49 =>
 (binop .add x16 (.int .i64 1)).bind fun v50 =>
 self9 [x12, r49.1, x14, x15, v50, x17, x18, x19, x20, x21] r49.2)
 (fun v51 h52 => some (.panic v51, h52, none)))
 ((binop .add x16 (.int .i64 1)).bind fun v53 =>
 self9 [x12, x13, x14, x15, v53, x17, x18, x19, x20, x21] h34))
 (fun v54 h55 => some (.panic v54, h55, none))
/-- (*countermand/ledger.Ledger).Ready -/
noncomputable def f176 (n : Nat) (F : Fns) (a0 a1 a2 : AV) (h : Heap) : R :=
 unA5 a1 fun x1 x2 x3 x4 x5 =>
 bindC (F.plain 99 [a0] h) (fun v6 h7 =>
 (lenA P 172 v6).bind fun v8 =>
 loopV (fun vs10 h11 self9 => un10 vs10 fun x12 x13 x14 x15 x16 x17 x18 x19 x20 x21 =>
 (binop .lss x16 x15).bind fun v22 =>
 asB v22 fun b23 => cond b23
 (asI x16 fun i24 =>
 elemP x14 i24 5 fun p25 o26 =>
 f176_1 n F h11 p25 o26 x17 x18 x19 x20 x21 x12 x13 x16 self9 x14 x15)
 (some (.ret x13, h11, none))) n [a2, .nilSlice, v6, v8, (.int .i64 0), x1, x2, x3, x4, x5] h7)
 (fun v56 h57 => some (.panic v56, h57, none))

noncomputable def f177_1 (n : Nat) (F : Fns) (a0 : AV) (h : Heap) : R :=
 bindC (F.plain 229 [a0, (.int .i64 (-1))] h) (fun v31 h32 =>
 unT2 v31 fun x33 x34 =>
 (lenA P 155 x33).bind fun v35 =>
 loopV (fun vs37 h38 self36 => un5 vs37 fun x39 x40 x41 x42 x43 =>
 (binop .lss x43 x42).bind fun v44 =>
 asB v44 fun b45 => cond b45
 (asI x43 fun i46 =>
 elemP x41 i46 1 fun p47 o48 =>
 (h38.rd p47 o48 1).bind fun l49 =>
 un1 l49 fun x50 =>
 (binop .shl x40 (.int .u64 8)).bind fun v51 =>
 (convertA P 5 277 x50).bind fun v52 =>
 (binop .or v51 v52).bind fun v53 =>
 (binop .add x43 (.int .i64 1)).bind fun v54 =>
 self36 [x39, v53, x41, x42, v54] h38)
 (some (.ret (.tup [x40, x39]), h38, none))) n [x34, (.int .u64 0), x33, v35, (.int .i64 0)] h32)
 (fun v55 h56 => some (.panic v55, h56, none))
noncomputable def f177_2 (n : Nat) (F : Fns) (v29 : AV) (a0 : AV) (h : Heap) (a1 : AV) : R :=
 asB v29 fun b30 => cond b30
 (f177_1 n F a0 h)
 (bindC (F.plain 229 [a0, a1] h) (fun v57 h58 =>
 unT2 v57 fun x59 x60 =>
 (lenA P 155 x59).bind fun v61 =>
 loopV (fun vs63 h64 self62 => un5 vs63 fun x65 x66 x67 x68 x69 =>
 (binop .lss x69 x68).bind fun v70 =>
 asB v70 fun b71 => cond b71
 (asI x69 fun i72 =>
 elemP x67 i72 1 fun p73 o74 =>
 (h64.rd p73 o74 1).bind fun l75 =>
 un1 l75 fun x76 =>
 (binop .shl x66 (.int .u64 8)).bind fun v77 =>
 (convertA P 5 277 x76).bind fun v78 =>
 (binop .or v77 v78).bind fun v79 =>
 (binop .add x69 (.int .i64 1)).bind fun v80 =>
 self62 [x65, v79, x67, x68, v80] h64)
 (some (.ret (.tup [x66, x65]), h64, none))) n [x60, (.int .u64 0), x59, v61, (.int .i64 0)] h58)
 (fun v81 h82 => some (.panic v81, h82, none)))
noncomputable def f177_3 (n : Nat) (F : Fns) (v1 : AV) (a0 : AV) (h : Heap) (a1 : AV) : R :=
 asB v1 fun b2 => cond b2
 (bindC (F.plain 229 [a0, (.int .i64 (-1))] h) (fun v3 h4 =>
 unT2 v3 fun x5 x6 =>
 (lenA P 155 x5).bind fun v7 =>
 loopV (fun vs9 h10 self8 => un5 vs9 fun x11 x12 x13 x14 x15 =>
 (binop .lss x15 x14).bind fun v16 =>
 asB v16 fun b17 => cond b17
 (asI x15 fun i18 =>
 elemP x13 i18 1 fun p19 o20 =>
 (h10.rd p19 o20 1).bind fun l21 =>
 un1 l21 fun x22 =>
 (binop .shl x12 (.int .u64 8)).bind fun v23 =>
 (convertA P 5 277 x22).bind fun v24 =>
 (binop .or v23 v24).bind fun v25 =>
 (binop .add x15 (.int .i64 1)).bind fun v26 =>
 self8 [x11, v25, x13, x14, v26] h10)
 (some (.ret (.tup [x12, x11]), h10, none))) n [x6, (.int .u64 0), x5, v7, (.int .i64 0)] h4)
 (fun v27 h28 => some (.panic v27, h28, none)))
 ((binop .gtr a1 (.int .i64 8)).bind fun v29 =>
 f177_2 n F v29 a0 h a1)
/-- (*countermand/octet.Reader).Take -/
noncomputable def f177 (n : Nat) (F : Fns) (a0 a1 : AV) (h : Heap) : R :=
 (binop .lss a1 (.int .i64 1)).bind fun v1 =>
 f177_3 n F v1 a0 h a1

/-- countermand/frame.Size -/
noncomputable def f178 (n : Nat) (F : Fns) (a0 : AV) (h : Heap) : R :=
 (binop .lss a0 (.int .i64 1)).bind fun v1 =>
 asB v1 fun b2 => cond b2
 (some (.ret (.int .i64 0), h, none))
 ((binop .gtr a0 (.int .i64 4096)).bind fun v3 =>
 asB v3 fun b4 => cond b4
 (some (.ret (.int .i64 0), h, none))
 ((binop .add (.int .i64 2) a0).bind fun v5 =>
 (binop .add v5 (.int .i64 4)).bind fun v6 =>
 (binop .add v6 (.int .i64 1)).bind fun v7 =>
 some (.ret v7, h, none)))

/-- (*countermand/octet.Reader).Bytes -/
noncomputable def f179 (n : Nat) (F : Fns) (a0 a1 : AV) (h : Heap) : R :=
 bindC (F.plain 229 [a0, a1] h) (fun v1 h2 =>
 unT2 v1 fun x3 x4 =>
 (opAppend P h2 155 155 .nilSlice x3).bind fun r5 =>
 some (.ret (.tup [r5.1, x4]), r5.2, none))
 (fun v6 h7 => some (.panic v6, h7, none))

/-- countermand/crc.Sum -/
noncomputable def f180 (n : Nat) (F : Fns) (a0 : AV) (h : Heap) : R :=
 (lenA P 199 a0).bind fun v1 =>
 loopV (fun vs3 h4 self2 => un4 vs3 fun x5 x6 x7 x8 =>
 (binop .lss x8 x7).bind fun v9 =>
 asB v9 fun b10 => cond b10
 (asI x8 fun i11 =>
 elemP x6 i11 1 fun p12 o13 =>
 (h4.rd p12 o13 1).bind fun l14 =>
 un1 l14 fun x15 =>
 bindC (F.plain 230 [x5, x15] h4) (fun v16 h17 =>
 (binop .add x8 (.int .i64 1)).bind fun v18 =>
 self2 [v16, x6, x7, v18] h17)
 (fun v19 h20 => some (.panic v19, h20, none)))
 (some (.ret x5, h4, none))) n [(.int .u32 0), a0, v1, (.int .i64 0)] h

/-- (countermand/msg.reader).id -/
noncomputable def f181 (n : Nat) (F : Fns) (a0 : AV) (h : Heap) : R :=
 unA1 a0 fun x1 =>
 bindC (F.plain 128 [(.agg [x1]), (.int .i64 1)] h) (fun v2 h3 =>
 bindC (F.plain 128 [(.agg [x1]), (.int .i64 2)] h3) (fun v4 h5 =>
 scal v2 fun v6 =>
 scal v4 fun v7 =>
 some (.ret (.agg [v6, v7]), h5, none))
 (fun v8 h9 => some (.panic v8, h9, none)))
 (fun v10 h11 => none)

/-- (*countermand/octet.Reader).Left -/
noncomputable def f182 (n : Nat) (F : Fns) (a0 : AV) (h : Heap) : R :=
 bindC (F.plain 231 [a0] h) (fun v1 h2 =>
 (unop .not v1).bind fun v3 =>
 asB v3 fun b4 => cond b4
 (some (.ret (.int .i64 0), h2, none))
 (notNil a0 fun v5 =>
 asPtr v5 fun p6 o7 =>
 (h2.rd p6 (o7 + 2) 1).bind fun l8 =>
 un1 l8 fun x9 =>
 (lenA P 155 x9).bind fun v10 =>
 some (.ret v10, h2, none)))
 (fun v11 h12 => some (.panic v11, h12, none))

noncomputable def f183_1 (n : Nat) (F : Fns) (v25 : AV) (x21 : AV) (h20 : Heap) (x22 : AV) (x24 : AV) (self18 : List AV → Heap → R) (x23 : AV) : R :=
 asB v25 fun b26 => cond b26
 (bindC (F.plain 179 [x21, (.int .i64 22)] h20) (fun v27 h28 =>
 unT2 v27 fun x29 x30 =>
 bindC (F.plain 211 [x29] h28) (fun v31 h32 =>
 unT2 v31 fun x33 x34 =>
 unA9 x33 fun x35 x36 x37 x38 x39 x40 x41 x42 x43 =>
 (eqop P true true 41 x34 (.int .i64 0)).bind fun v44 =>
 asB v44 fun b45 => cond b45
 (some (.ret (.tup [.nilSlice, (.int .i64 16)]), h32, none))
 ((appendA P h32 50 x22 1 [x35, x36, x37, x38, x39, x40, x41, x42, x43]).bind fun r46 =>
 (binop .add x24 (.int .u64 1)).bind fun v47 =>
 self18 [x21, r46.1, x23, v47] r46.2))
 (fun v48 h49 => some (.panic v48, h49, none)))
 (fun v50 h51 => some (.panic v50, h51, none)))
 (some (.ret (.tup [x22, (.int .i64 0)]), h20, none))
noncomputable def f183_2 (n : Nat) (F : Fns) (v7 : AV) (h8 : Heap) (x5 : AV) (v1 : AV) : R :=
 asB v7 fun b9 => cond b9
 (some (.ret (.tup [.nilSlice, (.int .i64 16)]), h8, none))
 ((binop .gtr x5 (.int .u64 48)).bind fun v10 =>
 asB v10 fun b11 => cond b11
 (some (.ret (.tup [.nilSlice, (.int .i64 16)]), h8, none))
 (bindC (F.plain 182 [v1] h8) (fun v12 h13 =>
 (convertA P 277 3 x5).bind fun v14 =>
 (binop .mul (.int .i64 22) v14).bind fun v15 =>
 (eqop P false true 3 v12 v15).bind fun v16 =>
 asB v16 fun b17 => cond b17
 (some (.ret (.tup [.nilSlice, (.int .i64 16)]), h13, none))
 (loopV (fun vs19 h20 self18 => un4 vs19 fun x21 x22 x23 x24 =>
 (binop .lss x24 x23).bind fun v25 =>
 f183_1 n F v25 x21 h20 x22 x24 self18 x23) n [v1, .nilSlice, x5, (.int .u64 0)] h13))
 (fun v52 h53 => some (.panic v52, h53, none))))
/-- countermand/change.List -/
noncomputable def f183 (n : Nat) (F : Fns) (a0 : AV) (h : Heap) : R :=
 bindC (F.plain 127 [a0] h) (fun v1 h2 =>
 bindC (F.plain 177 [v1, (.int .i64 1)] h2) (fun v3 h4 =>
 unT2 v3 fun x5 x6 =>
 bindC (F.plain 232 [v1] h4) (fun v7 h8 =>
 f183_2 n F v7 h8 x5 v1)
 (fun v54 h55 => some (.panic v54, h55, none)))
 (fun v56 h57 => some (.panic v56, h57, none)))
 (fun v58 h59 => some (.panic v58, h59, none))

/-- (countermand/msg.reader).key -/
noncomputable def f184 (n : Nat) (F : Fns) (a0 : AV) (h : Heap) : R :=
 unA1 a0 fun x1 =>
 bindC (F.plain 181 [(.agg [x1])] h) (fun v2 h3 =>
 bindC (F.plain 128 [(.agg [x1]), (.int .i64 1)] h3) (fun v4 h5 =>
 bindC (F.plain 128 [(.agg [x1]), (.int .i64 1)] h5) (fun v6 h7 =>
 (eqop P true false 3 v6 (.int .i64 1)).bind fun v8 =>
 unA2 v2 fun x9 x10 =>
 scal v4 fun v11 =>
 scal v8 fun v12 =>
 some (.ret (.agg [x9, x10, v11, v12]), h7, none))
 (fun v13 h14 => some (.panic v13, h14, none)))
 (fun v15 h16 => none))
 (fun v17 h18 => none)

noncomputable def f185_1 (n : Nat) (F : Fns) (x27 : AV) (h22 : Heap) (v15 : AV) (v16 : AV) (v17 : AV) (v24 : AV) (v25 : AV) : R :=
 bindC (F.plain 234 [x27] h22) (fun v28 h29 =>
 (unop .not v28).bind fun v30 =>
 asB v30 fun b31 => cond b31
 (some (.ret (.tup [(.agg [(.int .i64 0), (.int .i64 0), (.int .i64 0), (.int .i64 0), (.int .i64 0)]), (.int .i64 16)]), h29, none))
 (bindC (F.plain 225 [(.agg [v15, v16, v17, v24, v25])] h29) (fun v32 h33 =>
 (eqop P true true 41 v32 (.int .i64 0)).bind fun v34 =>
 asB v34 fun b35 => cond b35
 (some (.ret (.tup [(.agg [(.int .i64 0), (.int .i64 0), (.int .i64 0), (.int .i64 0), (.int .i64 0)]), (.int .i64 16)]), h33, none))
 (some (.ret (.tup [(.agg [v15, v16, v17, v24, v25]), (.int .i64 0)]), h33, none)))
 (fun v36 h37 => some (.panic v36, h37, none))))
 (fun v38 h39 => some (.panic v38, h39, none))
noncomputable def f185_2 (n : Nat) (F : Fns) (h2 : Heap) (h10 : Heap) (v8 : AV) (v11 : AV) : R :=
 bindC (F.plain 233 [(.int .i64 8), (.ptr (some (h2.next, 0)))] h10) (fun v12 h13 =>
 (convertA P 277 2 v12).bind fun v14 =>
 scal v8 fun v15 =>
 scal v11 fun v16 =>
 scal v14 fun v17 =>
 bindC (F.plain 233 [(.int .i64 1), (.ptr (some (h2.next, 0)))] h13) (fun v18 h19 =>
 (convertA P 277 3 v18).bind fun v20 =>
 bindC (F.plain 233 [(.int .i64 2), (.ptr (some (h2.next, 0)))] h19) (fun v21 h22 =>
 (convertA P 277 3 v21).bind fun v23 =>
 scal v20 fun v24 =>
 scal v23 fun v25 =>
 (h22.rd h2.next 0 1).bind fun l26 =>
 un1 l26 fun x27 =>
 f185_1 n F x27 h22 v15 v16 v17 v24 v25)
 (fun v40 h41 => some (.panic v40, h41, none)))
 (fun v42 h43 => some (.panic v42, h43, none)))
 (fun v44 h45 => some (.panic v44, h45, none))
/-- countermand/effect.Get -/
noncomputable def f185 (n : Nat) (F : Fns) (a0 : AV) (h : Heap) : R :=
 bindC (F.plain 127 [a0] h) (fun v1 h2 =>
 let h3 := h2.push (.cells [(.ptr none)] 1)
 scal v1 fun v4 =>
 (h3.wr h2.next 0 [v4]).bind fun h5 =>
 bindC (F.plain 233 [(.int .i64 1), (.ptr (some (h2.next, 0)))] h5) (fun v6 h7 =>
 (convertA P 277 3 v6).bind fun v8 =>
 bindC (F.plain 233 [(.int .i64 1), (.ptr (some (h2.next, 0)))] h7) (fun v9 h10 =>
 (convertA P 277 3 v9).bind fun v11 =>
 f185_2 n F h2 h10 v8 v11)
 (fun v46 h47 => some (.panic v46, h47, none)))
 (fun v48 h49 => some (.panic v48, h49, none)))
 (fun v50 h51 => some (.panic v50, h51, none))

/-- (*countermand/gate.Gate).Has -/
noncomputable def f186 (n : Nat) (F : Fns) (a0 a1 : AV) (h : Heap) : R :=
 unA4 a1 fun x1 x2 x3 x4 =>
 (eqop P true true 25 a0 (.ptr none)).bind fun v5 =>
 asB v5 fun b6 => cond b6
 (notNil a0 fun v7 =>
 asPtr v7 fun p8 o9 =>
 (h.rd p8 (o9 + 0) 1).bind fun l10 =>
 un1 l10 fun x11 =>
 asMap x11 fun m12 =>
 (opLookup P h 94 4 false m12 (.agg [x1, x2, x3, x4])).bind fun v13 =>
 some (.ret v13, h, none))
 (some (.ret (.bool false), h, none))

/-- countermand/peer.first[countermand/api.Id] -/
noncomputable def f187 (n : Nat) (F : Fns) (a0 a1 : AV) (h : Heap) : R :=
 (lenA P 139 a0).bind fun v1 =>
 (fold2 min2 v1 [a1]).bind fun v2 =>
 (lenA P 139 a0).bind fun v3 =>
 (fold2 min2 v3 [a1]).bind fun v4 =>
 (sliceA P h 139 a0 none (some v2) (some v4)).bind fun v5 =>
 some (.ret v5, h, none)

/-- countermand/peer.first[countermand/api.Change] -/
noncomputable def f188 (n : Nat) (F : Fns) (a0 a1 : AV) (h : Heap) : R :=
 (lenA P 67 a0).bind fun v1 =>
 (fold2 min2 v1 [a1]).bind fun v2 =>
 (lenA P 67 a0).bind fun v3 =>
 (fold2 min2 v3 [a1]).bind fun v4 =>
 (sliceA P h 67 a0 none (some v2) (some v4)).bind fun v5 =>
 some (.ret v5, h, none)

noncomputable def f189_1 (n : Nat) (F : Fns) (a1 : AV) (v5 : AV) (x1 : AV) (x2 : AV) (x3 : AV) (x4 : AV) (h : Heap) : R :=
 loopV (fun vs7 h8 self6 => un8 vs7 fun x9 x10 x11 x12 x13 x14 x15 x16 =>
 (binop .lss x12 x11).bind fun v17 =>
 asB v17 fun b18 => cond b18
 (asI x12 fun i19 =>
 elemP x10 i19 9 fun p20 o21 =>
 (h8.rd p20 o21 9).bind fun l22 =>
 un9 l22 fun x23 x24 x25 x26 x27 x28 x29 x30 x31 =>
 bindC (F.plain 235 [(.agg [x13, x14, x15, x16]), (.agg [x23, x24])] h8) (fun v32 h33 =>
 (unop .not v32).bind fun v34 =>
 asB v34 fun b35 => cond b35
 ((appendA P h33 50 x9 1 [x23, x24, x25, x26, x27, x28, x29, x30, x31]).bind fun r36 =>
 (binop .add x12 (.int .i64 1)).bind fun v37 =>
 self6 [r36.1, x10, x11, v37, x13, x14, x15, x16] r36.2)
 ((binop .add x12 (.int .i64 1)).bind fun v38 =>
 self6 [x9, x10, x11, v38, x13, x14, x15, x16] h33))
 (fun v39 h40 => some (.panic v39, h40, none)))
 (some (.ret x9, h8, none))) n [.nilSlice, a1, v5, (.int .i64 0), x1, x2, x3, x4] h
/-- countermand/vector.Lacking -/
noncomputable def f189 (n : Nat) (F : Fns) (a0 a1 : AV) (h : Heap) : R :=
 unA4 a0 fun x1 x2 x3 x4 =>
 (lenA P 67 a1).bind fun v5 =>
 f189_1 n F a1 v5 x1 x2 x3 x4 h

/-- countermand/peer.try -/
noncomputable def f190 (n : Nat) (F : Fns) (a0 a1 a2 : AV) (h : Heap) : R :=
 unA17 a2 fun x1 x2 x3 x4 x5 x6 x7 x8 x9 x10 x11 x12 x13 x14 x15 x16 x17 =>
 bindC (F.plain 134 [a0, (.agg [x1, x2, x3, x4, x5, x6, x7, x8, x9, x10, x11, x12, x13, x14, x15, x16, x17])] h) (fun v18 h19 =>
 (eqop P true true 41 v18 (.int .i64 0)).bind fun v20 =>
 asB v20 fun b21 => cond b21
 (some (.ret (.tup [a1, (.bool false)]), h19, none))
 ((appendA P h19 148 a1 1 [x1, x2, x3, x4, x5, x6, x7, x8, x9, x10, x11, x12, x13, x14, x15, x16, x17]).bind fun r22 =>
 some (.ret (.tup [r22.1, (.bool true)]), r22.2, none)))
 (fun v23 h24 => some (.panic v23, h24, none))

noncomputable def f191_1 (n : Nat) (F : Fns) (x1 : AV) (x2 : AV) (x3 : AV) (x4 : AV) (x5 : AV) (x6 : AV) (x7 : AV) (x8 : AV) (x9 : AV) (x10 : AV) (x11 : AV) (x12 : AV) (x13 : AV) (x14 : AV) (x15 : AV) (x16 : AV) (x17 : AV) (h19 : Heap) : R :=
 bindC (F.plain 236 [(.agg [x1, x2, x3, x4, x5, x6, x7, x8, x9, x10, x11, x12, x13, x14, x15, x16, x17])] h19) (fun v22 h23 =>
 unT2 v22 fun x24 x25 =>
 unA17 x24 fun x26 x27 x28 x29 x30 x31 x32 x33 x34 x35 x36 x37 x38 x39 x40 x41 x42 =>
 (unop .not x25).bind fun v43 =>
 asB v43 fun b44 => cond b44
 (some (.ret (.int .i64 4), h23, none))
 ((eqop P false true 148 (.agg [x26, x27, x28, x29, x30, x31, x32, x33, x34, x35, x36, x37, x38, x39, x40, x41, x42]) (.agg [x1, x2, x3, x4, x5, x6, x7, x8, x9, x10, x11, x12, x13, x14, x15, x16, x17])).bind fun v45 =>
 asB v45 fun b46 => cond b46
 (some (.ret (.int .i64 16), h23, none))
 (some (.ret (.int .i64 0), h23, none))))
 (fun v47 h48 => some (.panic v47, h48, none))
/-- countermand/record.Check -/
noncomputable def f191 (n : Nat) (F : Fns) (a0 : AV) (h : Heap) : R :=
 unA17 a0 fun x1 x2 x3 x4 x5 x6 x7 x8 x9 x10 x11 x12 x13 x14 x15 x16 x17 =>
 bindC (F.plain 62 [x1, (.int .i64 1), (.int .i64 4)] h) (fun v18 h19 =>
 (unop .not v18).bind fun v20 =>
 asB v20 fun b21 => cond b21
 (some (.ret (.int .i64 12), h19, none))
 (f191_1 n F x1 x2 x3 x4 x5 x6 x7 x8 x9 x10 x11 x12 x13 x14 x15 x16 x17 h19))
 (fun v49 h50 => some (.panic v49, h50, none))

noncomputable def f192_1 (n : Nat) (F : Fns) (v50 : AV) (h51 : Heap) (a0 : AV) (x1 : AV) (x2 : AV) (x3 : AV) (x4 : AV) (x5 : AV) (x6 : AV) (x7 : AV) (x8 : AV) (x9 : AV) : R :=
 (eqop P true true 41 v50 (.int .i64 0)).bind fun v52 =>
 asB v52 fun b53 => cond b53
 (some (.ret (.int .i64 4), h51, none))
 (notNil a0 fun v54 =>
 asPtr v54 fun p55 o56 =>
 (h51.rd p55 (o56 + 28) 1).bind fun l57 =>
 un1 l57 fun x58 =>
 bindC (F.plain 238 [x58, (.agg [x1, x2, x3, x4, x5, x6, x7, x8, x9])] h51) (fun v59 h60 =>
 notNil a0 fun v61 =>
 asPtr v61 fun p62 o63 =>
 asI x1 fun i64 =>
 inArr i64 4 fun j65 =>
 scal x2 fun v66 =>
 (h60.wr p62 ((o63 + 29) + j65 * 1) [v66]).bind fun h67 =>
 notNil a0 fun v68 =>
 asPtr v68 fun p69 o70 =>
 asI x1 fun i71 =>
 inArr i71 4 fun j72 =>
 scal x3 fun v73 =>
 (h67.wr p69 ((o70 + 33) + j72 * 1) [v73]).bind fun h74 =>
 some (.ret (.int .i64 0), h74, none))
 (fun v75 h76 => some (.panic v75, h76, none)))
noncomputable def f192_2 (n : Nat) (F : Fns) (a0 : AV) (h26 : Heap) (x1 : AV) (x2 : AV) (x3 : AV) (x4 : AV) (x5 : AV) (x6 : AV) (x7 : AV) (x8 : AV) (x9 : AV) : R :=
 notNil a0 fun v30 =>
 asPtr v30 fun p31 o32 =>
 (h26.rd p31 (o32 + 29) 4).bind fun l33 =>
 un4 l33 fun x34 x35 x36 x37 =>
 notNil a0 fun v38 =>
 asPtr v38 fun p39 o40 =>
 (h26.rd p39 (o40 + 33) 4).bind fun l41 =>
 un4 l41 fun x42 x43 x44 x45 =>
 bindC (F.plain 237 [(.agg [x34, x35, x36, x37]), (.agg [x42, x43, x44, x45]), (.agg [x1, x2, x3, x4, x5, x6, x7, x8, x9])] h26) (fun v46 h47 =>
 (unop .not v46).bind fun v48 =>
 asB v48 fun b49 => cond b49
 (some (.ret (.int .i64 9), h47, none))
 (bindC (F.plain 156 [(.agg [x1, x2, x3, x4, x5, x6, x7, x8, x9])] h47) (fun v50 h51 =>
 f192_1 n F v50 h51 a0 x1 x2 x3 x4 x5 x6 x7 x8 x9)
 (fun v77 h78 => some (.panic v77, h78, none))))
 (fun v79 h80 => some (.panic v79, h80, none))
noncomputable def f192_3 (n : Nat) (F : Fns) (a0 : AV) (h : Heap) (x1 : AV) (x2 : AV) (x3 : AV) (x4 : AV) (x5 : AV) (x6 : AV) (x7 : AV) (x8 : AV) (x9 : AV) : R :=
 bindC (F.plain 56 [a0] h) (fun v10 h11 =>
 (unop .not v10).bind fun v12 =>
 asB v12 fun b13 => cond b13
 (some (.ret (.int .i64 9), h11, none))
 (notNil a0 fun v14 =>
 asPtr v14 fun p15 o16 =>
 (h11.rd p15 ((o16 + 0) + 0) 1).bind fun l17 =>
 un1 l17 fun x18 =>
 (lenA P 67 x18).bind fun v19 =>
 notNil a0 fun v20 =>
 asPtr v20 fun p21 o22 =>
 (h11.rd p21 (o22 + 28) 1).bind fun l23 =>
 un1 l23 fun x24 =>
 bindC (F.plain 175 [x24] h11) (fun v25 h26 =>
 same (h26.rd p15 ((o16 + 0) + 0) 1) l17
 ((binop .add v19 v25).bind fun v27 =>
 (binop .geq v27 (.int .i64 48)).bind fun v28 =>
 asB v28 fun b29 => cond b29
 (some (.ret (.int .i64 3), h26, none))
 (f192_2 n F a0 h26 x1 x2 x3 x4 x5 x6 x7 x8 x9)))
 (fun v81 h82 => some (.panic v81, h82, none))))
 (fun v83 h84 => some (.panic v83, h84, none))
/-- (*countermand/logs.Logs).Add -/
noncomputable def f192 (n : Nat) (F : Fns) (a0 a1 : AV) (h : Heap) : R :=
 unA9 a1 fun x1 x2 x3 x4 x5 x6 x7 x8 x9 =>
 f192_3 n F a0 h x1 x2 x3 x4 x5 x6 x7 x8 x9

noncomputable def f193_1 (n : Nat) (F : Fns) (v16 : AV) (h15 : Heap) (a0 : AV) (x1 : AV) (x2 : AV) : R :=
 asB v16 fun b17 => cond b17
 (some (.ret (.int .i64 14), h15, none))
 (notNil a0 fun v18 =>
 asPtr v18 fun p19 o20 =>
 (h15.rd p19 (o20 + 28) 1).bind fun l21 =>
 un1 l21 fun x22 =>
 bindC (F.plain 239 [x22, (.agg [x1, x2])] h15) (fun v23 h24 =>
 unT2 v23 fun x25 x26 =>
 unA9 x25 fun x27 x28 x29 x30 x31 x32 x33 x34 x35 =>
 (unop .not x26).bind fun v36 =>
 asB v36 fun b37 => cond b37
 (some (.ret (.int .i64 9), h24, none))
 (notNil a0 fun v38 =>
 asPtr v38 fun p39 o40 =>
 bindC (F.plain 240 [(.ptr (some (p39, (o40 + 0)))), (.agg [x27, x28, x29, x30, x31, x32, x33, x34, x35])] h24) (fun v41 h42 =>
 unT0 v41 fun _u =>
 some (.ret (.int .i64 0), h42, none))
 (fun v43 h44 => some (.panic v43, h44, none))))
 (fun v45 h46 => none))
/-- (*countermand/logs.Logs).Commit -/
noncomputable def f193 (n : Nat) (F : Fns) (a0 a1 : AV) (h : Heap) : R :=
 unA2 a1 fun x1 x2 =>
 bindC (F.plain 56 [a0] h) (fun v3 h4 =>
 (unop .not v3).bind fun v5 =>
 asB v5 fun b6 => cond b6
 (some (.ret (.int .i64 9), h4, none))
 (notNil a0 fun v7 =>
 asPtr v7 fun p8 o9 =>
 (h4.rd p8 (o9 + 28) 1).bind fun l10 =>
 un1 l10 fun x11 =>
 bindC (F.plain 97 [x11] h4) (fun v12 h13 =>
 bindC (F.plain 110 [v12, (.agg [x1, x2])] h13) (fun v14 h15 =>
 (binop .lss v14 (.int .i64 0)).bind fun v16 =>
 f193_1 n F v16 h15 a0 x1 x2)
 (fun v47 h48 => some (.panic v47, h48, none)))
 (fun v49 h50 => none)))
 (fun v51 h52 => some (.panic v51, h52, none))

/-- countermand/state.none -/
noncomputable def f194 (n : Nat) (F : Fns) (a0 : AV) (h : Heap) : R :=
 asB a0 fun b1 => cond b1
 (some (.ret (.int .i64 0), h, none))
 (some (.ret (.int .i64 14), h, none))

noncomputable def f195_1 (n : Nat) (F : Fns) (v35 : AV) (h23 : Heap) (x26 : AV) (x27 : AV) (x28 : AV) (x29 : AV) (x1 : AV) (x2 : AV) (x3 : AV) (x4 : AV) (v5 : AV) (a2 : AV) : R :=
 asB v35 fun b36 => cond b36
 (some (.ret (.bool false), h23, none))
 ((eqop P false true 94 (.agg [x26, x27, x28, x29]) (.agg [x1, x2, x3, x4])).bind fun v37 =>
 asB v37 fun b38 => cond b38
 (some (.ret (.bool false), h23, none))
 (notNil v5 fun v39 =>
 asPtr v39 fun p40 o41 =>
 (h23.rd p40 (o41 + 0) 4).bind fun l42 =>
 un4 l42 fun x43 x44 x45 x46 =>
 notNil v5 fun v47 =>
 asPtr v47 fun p48 o49 =>
 (h23.rd p48 (o49 + 4) 1).bind fun l50 =>
 un1 l50 fun x51 =>
 bindC (F.plain 242 [(.agg [x43, x44, x45, x46]), x51, a2] h23) (fun v52 h53 =>
 unT2 v52 fun x54 x55 =>
 notNil v5 fun v56 =>
 asPtr v56 fun p57 o58 =>
 unA4 x54 fun x59 x60 x61 x62 =>
 (h53.wr p57 (o58 + 0) [x59, x60, x61, x62]).bind fun h63 =>
 some (.ret x55, h63, none))
 (fun v64 h65 => some (.panic v64, h65, none))))
noncomputable def f195_2 (n : Nat) (F : Fns) (a0 : AV) (x1 : AV) (x2 : AV) (h : Heap) (x3 : AV) (x4 : AV) (a2 : AV) : R :=
 bindC (F.plain 241 [a0, (.agg [x1, x2])] h) (fun v5 h6 =>
 (eqop P true false 338 v5 (.ptr none)).bind fun v7 =>
 asB v7 fun b8 => cond b8
 (some (.ret (.bool false), h6, none))
 (notNil v5 fun v9 =>
 asPtr v9 fun p10 o11 =>
 (h6.rd p10 (o11 + 0) 4).bind fun l12 =>
 un4 l12 fun x13 x14 x15 x16 =>
 notNil v5 fun v17 =>
 asPtr v17 fun p18 o19 =>
 (h6.rd p18 (o19 + 4) 1).bind fun l20 =>
 un1 l20 fun x21 =>
 bindC (F.plain 228 [(.agg [x13, x14, x15, x16]), x21] h6) (fun v22 h23 =>
 unT2 v22 fun x24 x25 =>
 unA9 x24 fun x26 x27 x28 x29 x30 x31 x32 x33 x34 =>
 (unop .not x25).bind fun v35 =>
 f195_1 n F v35 h23 x26 x27 x28 x29 x1 x2 x3 x4 v5 a2)
 (fun v66 h67 => none)))
 (fun v68 h69 => some (.panic v68, h69, none))
/-- (*countermand/ledger.Ledger).Try -/
noncomputable def f195 (n : Nat) (F : Fns) (a0 a1 a2 : AV) (h : Heap) : R :=
 unA4 a1 fun x1 x2 x3 x4 =>
 f195_2 n F a0 x1 x2 h x3 x4 a2

/-- (*countermand/ledger.Ledger).Ack -/
noncomputable def f196 (n : Nat) (F : Fns) (a0 a1 : AV) (h : Heap) : R :=
 unA4 a1 fun x1 x2 x3 x4 =>
 bindC (F.plain 241 [a0, (.agg [x1, x2])] h) (fun v5 h6 =>
 (eqop P true false 338 v5 (.ptr none)).bind fun v7 =>
 asB v7 fun b8 => cond b8
 (some (.ret (.bool false), h6, none))
 (notNil v5 fun v9 =>
 asPtr v9 fun p10 o11 =>
 (h6.rd p10 (o11 + 0) 4).bind fun l12 =>
 un4 l12 fun x13 x14 x15 x16 =>
 bindC (F.plain 243 [(.agg [x13, x14, x15, x16]), (.agg [x1, x2, x3, x4])] h6) (fun v17 h18 =>
 unT2 v17 fun x19 x20 =>
 unA4 x19 fun x21 x22 x23 x24 =>
 notNil v5 fun v25 =>
 asPtr v25 fun p26 o27 =>
 (h18.wr p26 (o27 + 0) [x21, x22, x23, x24]).bind fun h28 =>
 some (.ret x20, h28, none))
 (fun v29 h30 => none)))
 (fun v31 h32 => some (.panic v31, h32, none))

noncomputable def f197_1 (n : Nat) (F : Fns) (h3 : Heap) (p12 : Nat) (o13 : Nat) (x5 : AV) (x10 : AV) (x4 : AV) (self1 : List AV → Heap → R) : R :=
 (h3.rd p12 (o13 + 2) 1).bind fun l14 =>
 un1 l14 fun x15 =>
 scal x15 fun v16 =>
 scal x5 fun v17 =>
 bindC (F.plain 67 [x10, (.agg [v16, v17])] h3) (fun v18 h19 =>
 unT3 v18 fun x20 x21 x22 =>
 unA2 x20 fun x23 x24 =>
 (unop .not x22).bind fun v25 =>
 asB v25 fun b26 => cond b26
 (some (.ret (.tup []), h19, none))
 (notNil x4 fun v27 =>
 asPtr v27 fun p28 o29 =>
 (h19.rd p28 (o29 + 0) 1).bind fun l30 =>
 un1 l30 fun x31 =>
 bindC (F.plain 245 [(.agg [x23, x24]), x21] h19) (fun v32 h33 =>
 same (h33.rd p28 (o29 + 0) 1) l30
 (bindC (F.plain 244 [x31, x5, v32] h33) (fun v34 h35 =>
 (binop .add x5 (.int .i64 1)).bind fun v36 =>
 self1 [x4, v36] h35)
 (fun v37 h38 => some (.panic v37, h38, none))))
 (fun v39 h40 => some (.panic v39, h40, none))))
 (fun v41 h42 => none)
/-- (*countermand/state.State).again -/
noncomputable def f197 (n : Nat) (F : Fns) (a0 : AV) (h : Heap) : R :=
 loopV (fun vs2 h3 self1 => un2 vs2 fun x4 x5 =>
 notNil x4 fun v6 =>
 asPtr v6 fun p7 o8 =>
 (h3.rd p7 (o8 + 1) 1).bind fun l9 =>
 un1 l9 fun x10 =>
 notNil x4 fun v11 =>
 asPtr v11 fun p12 o13 =>
 f197_1 n F h3 p12 o13 x5 x10 x4 self1) n [a0, (.int .i64 1)] h

/-- (countermand/wal.plate).turn -/
noncomputable def f198 (n : Nat) (F : Fns) (a0 a1 : AV) (h : Heap) : R :=
 unA2 a0 fun x1 x2 =>
 bindC (F.plain 165 [x1, (.int .i64 0)] h) (fun v3 h4 =>
 unT2 v3 fun x5 x6 =>
 (unop .not x6).bind fun v7 =>
 asB v7 fun b8 => cond b8
 (some (.ret (.bool false), h4, none))
 (elemP x5 0 1 fun p9 o10 =>
 (h4.rd p9 o10 1).bind fun l11 =>
 un1 l11 fun x12 =>
 (binop .andNot x12 (.int .u8 1)).bind fun v13 =>
 (convertA P 3 5 a1).bind fun v14 =>
 (binop .or v13 v14).bind fun v15 =>
 elemP x5 0 1 fun p16 o17 =>
 scal v15 fun v18 =>
 (h4.wr p16 o17 [v18]).bind fun h19 =>
 bindC (F.plain 164 [x1, (.int .i64 0), x5] h19) (fun v20 h21 =>
 some (.ret v20, h21, none))
 (fun v22 h23 => some (.panic v22, h23, none))))
 (fun v24 h25 => some (.panic v24, h25, none))

/-- countermand/image.list -/
noncomputable def f199 (n : Nat) (F : Fns) (a0 a1 : AV) (h : Heap) : R :=
 bindC (F.plain 169 [a1] h) (fun v1 h2 =>
 unT2 v1 fun x3 x4 =>
 (opAppend P h2 155 155 a0 x3).bind fun r5 =>
 some (.ret r5.1, r5.2, none))
 (fun v6 h7 => some (.panic v6, h7, none))

/-- (*countermand/state.State).Chains -/
noncomputable def f200 (n : Nat) (F : Fns) (a0 : AV) (h : Heap) : R :=
 bindC (F.plain 60 [a0] h) (fun v1 h2 =>
 bindC (F.plain 246 [v1] h2) (fun v3 h4 =>
 some (.ret v3, h4, none))
 (fun v5 h6 => some (.panic v5, h6, none)))
 (fun v7 h8 => some (.panic v7, h8, none))

noncomputable def f201_1 (n : Nat) (F : Fns) (x8 : AV) (r26 : AV × Heap) (x11 : AV) (x12 : AV) (x1 : AV) (x2 : AV) (x3 : AV) (x4 : AV) (x5 : AV) (x6 : AV) (x7 : AV) (x9 : AV) (x10 : AV) : R :=
 (convertA P 3 277 x8).bind fun v27 =>
 bindC (F.plain 216 [r26.1, v27, (.int .i64 4)] r26.2) (fun v28 h29 =>
 (convertA P 3 5 x11).bind fun v30 =>
 scal v30 fun v31 =>
 (appendA P h29 5 v28 1 [v31]).bind fun r32 =>
 (convertA P 3 277 x12).bind fun v33 =>
 bindC (F.plain 216 [r32.1, v33, (.int .i64 4)] r32.2) (fun v34 h35 =>
 bindC (F.plain 248 [(.agg [x1, x2, x3, x4, x5, x6, x7, x8, x9, x10, x11, x12])] h35) (fun v36 h37 =>
 (convertA P 3 5 v36).bind fun v38 =>
 scal v38 fun v39 =>
 (appendA P h37 5 v34 3 [v39, (.int .u8 69), (.int .u8 69)]).bind fun r40 =>
 some (.ret r40.1, r40.2, none))
 (fun v41 h42 => some (.panic v41, h42, none)))
 (fun v43 h44 => some (.panic v43, h44, none)))
 (fun v45 h46 => some (.panic v45, h46, none))
noncomputable def f201_2 (n : Nat) (F : Fns) (x1 : AV) (x2 : AV) (x3 : AV) (x4 : AV) (x5 : AV) (x6 : AV) (x7 : AV) (x8 : AV) (x9 : AV) (x10 : AV) (x11 : AV) (x12 : AV) (h : Heap) : R :=
 bindC (F.plain 247 [(.agg [x1, x2, x3, x4, x5, x6, x7, x8, x9, x10, x11, x12])] h) (fun v13 h14 =>
 (unop .not v13).bind fun v15 =>
 asB v15 fun b16 => cond b16
 (some (.ret .nilSlice, h14, none))
 (bindC (F.plain 171 [(.agg [x2, x3, x4, x5, x6])] h14) (fun v17 h18 =>
 unT2 v17 fun x19 x20 =>
 (convertA P 3 5 x1).bind fun v21 =>
 scal v21 fun v22 =>
 (opAppend P (h18.push (.cells [v22] 1)) 155 155 (.slice h18.next 0 0 1 (.ex 1)) x19).bind fun r23 =>
 (convertA P 3 5 x7).bind fun v24 =>
 scal v24 fun v25 =>
 (appendA P r23.2 5 r23.1 1 [v25]).bind fun r26 =>
 f201_1 n F x8 r26 x11 x12 x1 x2 x3 x4 x5 x6 x7 x9 x10)
 (fun v47 h48 => some (.panic v47, h48, none))))
 (fun v49 h50 => some (.panic v49, h50, none))
/-- countermand/entry.Put -/
noncomputable def f201 (n : Nat) (F : Fns) (a0 : AV) (h : Heap) : R :=
 unA12 a0 fun x1 x2 x3 x4 x5 x6 x7 x8 x9 x10 x11 x12 =>
 f201_2 n F x1 x2 x3 x4 x5 x6 x7 x8 x9 x10 x11 x12 h

/-- countermand/ledger.New -/
noncomputable def f202 (n : Nat) (F : Fns) (a0 : AV) (h : Heap) : R :=
 scal a0 fun v1 =>
 let h2 := h.push (.cells [(.bool true), v1, .nilSlice] 1)
 some (.ret (.ptr (some (h.next, 0))), h2, none)

/-- countermand/chain.Clone -/
noncomputable def f203 (n : Nat) (F : Fns) (a0 : AV) (h : Heap) : R :=
 unA4 a0 fun x1 x2 x3 x4 =>
 bindC (F.plain 249 [x4] h) (fun v5 h6 =>
 scal v5 fun v7 =>
 some (.ret (.agg [x1, x2, x3, v7]), h6, none))
 (fun v8 h9 => some (.panic v8, h9, none))

/-- slices.IndexFunc[[]countermand/entry.Entry,countermand/entry.Entry] -/
noncomputable def f204 (n : Nat) (F : Fns) (a0 a1 : AV) (h : Heap) : R :=
 (lenA P 173 a0).bind fun v1 =>
 loopV (fun vs3 h4 self2 => un4 vs3 fun x5 x6 x7 x8 =>
 (binop .lss x8 x7).bind fun v9 =>
 asB v9 fun b10 => cond b10
 (asI x8 fun i11 =>
 elemP x5 i11 12 fun p12 o13 =>
 (h4.rd p12 o13 12).bind fun l14 =>
 un12 l14 fun x15 x16 x17 x18 x19 x20 x21 x22 x23 x24 x25 x26 =>
 bindC (F.callV x6 [(.agg [x15, x16, x17, x18, x19, x20, x21, x22, x23, x24, x25, x26])] h4) (fun v27 h28 =>
 asB v27 fun b29 => cond b29
 (some (.ret x8, h28, none))
 ((binop .add x8 (.int .i64 1)).bind fun v30 =>
 self2 [x5, x6, x7, v30] h28))
 (fun v31 h32 => some (.panic v31, h32, none)))
 (some (.ret (.int .i64 (-1)), h4, none))) n [a0, a1, v1, (.int .i64 0)] h

/-- countermand/entry.tries -/
noncomputable def f205 (n : Nat) (F : Fns) (a0 : AV) (h : Heap) : R :=
 unA12 a0 fun x1 x2 x3 x4 x5 x6 x7 x8 x9 x10 x11 x12 =>
 bindC (F.plain 103 [(.agg [x1, x2, x3, x4, x5, x6, x7, x8, x9, x10, x11, x12])] h) (fun v13 h14 =>
 asB v13 fun b15 => cond b15
 (some (.ret (.tup [x11, x12]), h14, none))
 (some (.ret (.tup [x7, x8]), h14, none)))
 (fun v16 h17 => some (.panic v16, h17, none))

/-- countermand/delay.Due -/
noncomputable def f206 (n : Nat) (F : Fns) (a0 a1 a2 a3 : AV) (h : Heap) : R :=
 bindC (F.plain 17 [a3, (.int .i64 0), (.int .i64 1073741824)] h) (fun v1 h2 =>
 bindC (F.plain 250 [a0, a1, a2] h2) (fun v3 h4 =>
 (binop .add v1 v3).bind fun v5 =>
 some (.ret v5, h4, none))
 (fun v6 h7 => some (.panic v6, h7, none)))
 (fun v8 h9 => some (.panic v8, h9, none))

/-- countermand/logs.New -/
noncomputable def f207 (n : Nat) (F : Fns) (h : Heap) : R :=
 let h1 := h.push (.cells [.nilSlice] 1)
 let h2 := h1.push (.cells [.nilSlice, .nilSlice, (.int .i64 0), (.int .i64 0), (.int .i64 0), (.int .i64 0), (.int .i64 0), (.int .i64 0), (.int .i64 0), (.int .i64 0), (.int .i64 0), (.int .i64 0), (.int .i64 0), (.int .i64 0), (.int .i64 0), (.int .i64 0), (.int .i64 0), (.int .i64 0), (.int .i64 0), (.int .i64 0), (.int .i64 0), (.int .i64 0), (.int .i64 0), (.int .i64 0), (.int .i64 0), (.int .i64 0), .nilSlice, (.bool true), (.ptr (some (h.next, 0))), (.int .i64 0), (.int .i64 0), (.int .i64 0), (.int .i64 0), (.int .i64 0), (.int .i64 0), (.int .i64 0), (.int .i64 0)] 1)
 some (.ret (.ptr (some (h1.next, 0))), h2, none)

/-- countermand/image.Get$1 -/
noncomputable def f208 (n : Nat) (F : Fns) (a0 a1 : AV) (h : Heap) (rc : Option (Option AV)) : R :=
 match rc.isSome with
 | false => none
 | true =>
 (recK rc (fun v1 =>
 (eqop P true true 20 v1 .nilIface).bind fun v2 =>
 asB v2 fun b3 => cond b3
 ((typeAssertA P v1 310 true).bind fun v4 =>
 unT2 v4 fun x5 x6 =>
 unA0 x5 fun _u =>
 (unop .not x6).bind fun v7 =>
 asB v7 fun b8 => cond b8
 (thrown v1 fun v9 =>
 some (.panic v9, h, (some none)))
 (asPtr a0 fun p10 o11 =>
 (h.wr p10 o11 [(.ptr none)]).bind fun h12 =>
 asPtr a1 fun p13 o14 =>
 (h12.wr p13 o14 [(.int .i64 16)]).bind fun h15 =>
 some (.ret (.tup []), h15, (some none))))
 (some (.ret (.tup []), h, (some none))))
 ((eqop P true true 20 .nilIface .nilIface).bind fun v16 =>
 asB v16 fun b17 => cond b17
 ((typeAssertA P .nilIface 310 true).bind fun v18 =>
 unT2 v18 fun x19 x20 =>
 unA0 x19 fun _u =>
 (unop .not x20).bind fun v21 =>
 asB v21 fun b22 => cond b22
 (none)
 (asPtr a0 fun p23 o24 =>
 (h.wr p23 o24 [(.ptr none)]).bind fun h25 =>
 asPtr a1 fun p26 o27 =>
 (h25.wr p26 o27 [(.int .i64 16)]).bind fun h28 =>
 some (.ret (.tup []), h28, (some none))))
 (some (.ret (.tup []), h, (some none)))))
end Go.Proofs.YtahbihcbidkbaaaGreat.Ev

/-
  Printed by mk.py: the equations with the evaluator.
-/
set_option maxRecDepth 100000
set_option maxHeartbeats 4000000
namespace Go.Proofs.YtahbihcbidkbaaaGreat.Ev
open Go
theorem f158_eq (n : Nat) (F : Fns) (a0 a1 : AV) (h : Heap) : callStep cx n F 158 [a0, a1] h none = f158 n F a0 a1 h := by kernel_rfl
theorem f159_eq (n : Nat) (F : Fns) (a0 a1 : AV) (h : Heap) : callStep cx n F 159 [a0, a1] h none = f159 n F a0 a1 h := by kernel_rfl
theorem f160_eq (n : Nat) (F : Fns) (a0 a1 : AV) (h : Heap) : callStep cx n F 160 [a0, a1] h none = f160 n F a0 a1 h := by kernel_rfl
theorem f161_eq (n : Nat) (F : Fns) (a0 : AV) (h : Heap) : callStep cx n F 161 [a0] h none = f161 n F a0 h := by kernel_rfl
theorem f162_eq (n : Nat) (F : Fns) (a0 : AV) (h : Heap) : callStep cx n F 162 [a0] h none = f162 n F a0 h := by kernel_rfl
theorem f163_eq (n : Nat) (F : Fns) (a0 a1 : AV) (h : Heap) : callStep cx n F 163 [a0, a1] h none = f163 n F a0 a1 h := by kernel_rfl
theorem f164_eq (n : Nat) (F : Fns) (a0 a1 a2 : AV) (h : Heap) : callStep cx n F 164 [a0, a1, a2] h none = f164 n F a0 a1 a2 h := by kernel_rfl
theorem f165_eq (n : Nat) (F : Fns) (a0 a1 : AV) (h : Heap) : callStep cx n F 165 [a0, a1] h none = f165 n F a0 a1 h := by kernel_rfl
theorem f166_eq (n : Nat) (F : Fns) (a0 : AV) (h : Heap) : callStep cx n F 166 [a0] h none = f166 n F a0 h := by kernel_rfl
theorem f167_eq (n : Nat) (F : Fns) (a0 a1 a2 : AV) (h : Heap) : callStep cx n F 167 [a0, a1, a2] h none = f167 n F a0 a1 a2 h := by kernel_rfl
theorem f168_eq (n : Nat) (F : Fns) (a0 a1 : AV) (h : Heap) : callStep cx n F 168 [a0, a1] h none = f168 n F a0 a1 h := by kernel_rfl
theorem f169_eq (n : Nat) (F : Fns) (a0 : AV) (h : Heap) : callStep cx n F 169 [a0] h none = f169 n F a0 h := by kernel_rfl
theorem f170_eq (n : Nat) (F : Fns) (a0 a1 : AV) (h : Heap) : callStep cx n F 170 [a0, a1] h none = f170 n F a0 a1 h := by kernel_rfl
theorem f171_eq (n : Nat) (F : Fns) (a0 : AV) (h : Heap) : callStep cx n F 171 [a0] h none = f171 n F a0 h := by kernel_rfl
theorem f172_eq (n : Nat) (F : Fns) (a0 : AV) (h : Heap) : callStep cx n F 172 [a0] h none = f172 n F a0 h := by kernel_rfl
theorem f173_eq (n : Nat) (F : Fns) (a0 : AV) (h : Heap) : callStep cx n F 173 [a0] h none = f173 n F a0 h := by kernel_rfl
theorem f174_eq (n : Nat) (F : Fns) (a0 : AV) (h : Heap) : callStep cx n F 174 [a0] h none = f174 n F a0 h := by kernel_rfl
theorem f175_eq (n : Nat) (F : Fns) (a0 : AV) (h : Heap) : callStep cx n F 175 [a0] h none = f175 n F a0 h := by kernel_rfl
theorem f176_eq (n : Nat) (F : Fns) (a0 a1 a2 : AV) (h : Heap) : callStep cx n F 176 [a0, a1, a2] h none = f176 n F a0 a1 a2 h := by kernel_rfl
theorem f177_eq (n : Nat) (F : Fns) (a0 a1 : AV) (h : Heap) : callStep cx n F 177 [a0, a1] h none = f177 n F a0 a1 h := by kernel_rfl
theorem f178_eq (n : Nat) (F : Fns) (a0 : AV) (h : Heap) : callStep cx n F 178 [a0] h none = f178 n F a0 h := by kernel_rfl
theorem f179_eq (n : Nat) (F : Fns) (a0 a1 : AV) (h : Heap) : callStep cx n F 179 [a0, a1] h none = f179 n F a0 a1 h := by kernel_rfl
theorem f180_eq (n : Nat) (F : Fns) (a0 : AV) (h : Heap) : callStep cx n F 180 [a0] h none = f180 n F a0 h := by kernel_rfl
theorem f181_eq (n : Nat) (F : Fns) (a0 : AV) (h : Heap) : callStep cx n F 181 [a0] h none = f181 n F a0 h := by kernel_rfl
theorem f182_eq (n : Nat) (F : Fns) (a0 : AV) (h : Heap) : callStep cx n F 182 [a0] h none = f182 n F a0 h := by kernel_rfl
theorem f183_eq (n : Nat) (F : Fns) (a0 : AV) (h : Heap) : callStep cx n F 183 [a0] h none = f183 n F a0 h := by kernel_rfl
theorem f184_eq (n : Nat) (F : Fns) (a0 : AV) (h : Heap) : callStep cx n F 184 [a0] h none = f184 n F a0 h := by kernel_rfl
theorem f185_eq (n : Nat) (F : Fns) (a0 : AV) (h : Heap) : callStep cx n F 185 [a0] h none = f185 n F a0 h := by kernel_rfl
theorem f186_eq (n : Nat) (F : Fns) (a0 a1 : AV) (h : Heap) : callStep cx n F 186 [a0, a1] h none = f186 n F a0 a1 h := by kernel_rfl
theorem f187_eq (n : Nat) (F : Fns) (a0 a1 : AV) (h : Heap) : callStep cx n F 187 [a0, a1] h none = f187 n F a0 a1 h := by kernel_rfl
theorem f188_eq (n : Nat) (F : Fns) (a0 a1 : AV) (h : Heap) : callStep cx n F 188 [a0, a1] h none = f188 n F a0 a1 h := by kernel_rfl
theorem f189_eq (n : Nat) (F : Fns) (a0 a1 : AV) (h : Heap) : callStep cx n F 189 [a0, a1] h none = f189 n F a0 a1 h := by kernel_rfl
theorem f190_eq (n : Nat) (F : Fns) (a0 a1 a2 : AV) (h : Heap) : callStep cx n F 190 [a0, a1, a2] h none = f190 n F a0 a1 a2 h := by kernel_rfl
theorem f191_eq (n : Nat) (F : Fns) (a0 : AV) (h : Heap) : callStep cx n F 191 [a0] h none = f191 n F a0 h := by kernel_rfl
theorem f192_eq (n : Nat) (F : Fns) (a0 a1 : AV) (h : Heap) : callStep cx n F 192 [a0, a1] h none = f192 n F a0 a1 h := by kernel_rfl
theorem f193_eq (n : Nat) (F : Fns) (a0 a1 : AV) (h : Heap) : callStep cx n F 193 [a0, a1] h none = f193 n F a0 a1 h := by kernel_rfl
theorem f194_eq (n : Nat) (F : Fns) (a0 : AV) (h : Heap) : callStep cx n F 194 [a0] h none = f194 n F a0 h := by kernel_rfl
theorem f195_eq (n : Nat) (F : Fns) (a0 a1 a2 : AV) (h : Heap) : callStep cx n F 195 [a0, a1, a2] h none = f195 n F a0 a1 a2 h := by kernel_rfl
theorem f196_eq (n : Nat) (F : Fns) (a0 a1 : AV) (h : Heap) : callStep cx n F 196 [a0, a1] h none = f196 n F a0 a1 h := by kernel_rfl
theorem f197_eq (n : Nat) (F : Fns) (a0 : AV) (h : Heap) : callStep cx n F 197 [a0] h none = f197 n F a0 h := by kernel_rfl
theorem f198_eq (n : Nat) (F : Fns) (a0 a1 : AV) (h : Heap) : callStep cx n F 198 [a0, a1] h none = f198 n F a0 a1 h := by kernel_rfl
theorem f199_eq (n : Nat) (F : Fns) (a0 a1 : AV) (h : Heap) : callStep cx n F 199 [a0, a1] h none = f199 n F a0 a1 h := by kernel_rfl
theorem f200_eq (n : Nat) (F : Fns) (a0 : AV) (h : Heap) : callStep cx n F 200 [a0] h none = f200 n F a0 h := by kernel_rfl
theorem f201_eq (n : Nat) (F : Fns) (a0 : AV) (h : Heap) : callStep cx n F 201 [a0] h none = f201 n F a0 h := by kernel_rfl
theorem f202_eq (n : Nat) (F : Fns) (a0 : AV) (h : Heap) : callStep cx n F 202 [a0] h none = f202 n F a0 h := by kernel_rfl
theorem f203_eq (n : Nat) (F : Fns) (a0 : AV) (h : Heap) : callStep cx n F 203 [a0] h none = f203 n F a0 h := by kernel_rfl
theorem f204_eq (n : Nat) (F : Fns) (a0 a1 : AV) (h : Heap) : callStep cx n F 204 [a0, a1] h none = f204 n F a0 a1 h := by kernel_rfl
theorem f205_eq (n : Nat) (F : Fns) (a0 : AV) (h : Heap) : callStep cx n F 205 [a0] h none = f205 n F a0 h := by kernel_rfl
theorem f206_eq (n : Nat) (F : Fns) (a0 a1 a2 a3 : AV) (h : Heap) : callStep cx n F 206 [a0, a1, a2, a3] h none = f206 n F a0 a1 a2 a3 h := by kernel_rfl
theorem f207_eq (n : Nat) (F : Fns) (h : Heap) : callStep cx n F 207 [] h none = f207 n F h := by kernel_rfl
theorem f208_eq (n : Nat) (F : Fns) (a0 a1 : AV) (h : Heap) (rc : Option (Option AV)) : callStep cx n F 208 [a0, a1] h rc = f208 n F a0 a1 h rc := by kernel_rfl
end Go.Proofs.YtahbihcbidkbaaaGreat.Ev
