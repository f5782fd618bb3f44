/-
  Printed by mk.py: the table of all functions, and that it is the evaluator.
-/
import Derived.Test.YtahbihcbidkbaaaGreatJr0
import Derived.Test.YtahbihcbidkbaaaGreatJr1
import Derived.Test.YtahbihcbidkbaaaGreatJr2
import Derived.Test.YtahbihcbidkbaaaGreatJr3
import Derived.Test.YtahbihcbidkbaaaGreatJr4
import Derived.Test.YtahbihcbidkbaaaGreatJr5
import Derived.Test.YtahbihcbidkbaaaGreatJr6
import Derived.Test.YtahbihcbidkbaaaGreatJr7
import Derived.Test.YtahbihcbidkbaaaGreatJr8
set_option maxRecDepth 100000
set_option linter.unusedVariables false
namespace Go.Proofs.YtahbihcbidkbaaaGreat.Ev
open Go
abbrev G := (n : Nat) → (F : Fns) → List AV → Heap → Option (Option AV) → R
inductive Tab where
  | leaf (k : Nat) (g : G)
  | node (m : Nat) (l r : Tab)
noncomputable def Tab.run : Tab → FuncId → G
  | .leaf k g, f => cond (Nat.beq f k) g fun n F args h rc => callStep cx n F f args h rc
  | .node m l r, f => cond (Nat.blt f m) (l.run f) (r.run f)
def GOK (k : Nat) (g : G) : Prop := ∀ n F args h rc, g n F args h rc = callStep cx n F k args h rc
def Tab.OK : Tab → Prop
  | .leaf k g => GOK k g
  | .node _ l r => l.OK ∧ r.OK
theorem Tab.run_eq : ∀ {t : Tab}, t.OK → ∀ f n F args h rc, t.run f n F args h rc = callStep cx n F f args h rc
  | .leaf k g, hk, f, n, F, args, h, rc => by
    simp only [Tab.run]
    cases hb : Nat.beq f k with
    | true => rw [Nat.eq_of_beq_eq_true hb]; exact hk n F args h rc
    | false => rfl
  | .node m l r, hk, f, n, F, args, h, rc => by
    simp only [Tab.run]
    cases Nat.blt f m with
    | true => exact Tab.run_eq hk.1 f n F args h rc
    | false => exact Tab.run_eq hk.2 f n F args h rc
noncomputable def A0 (f : Nat → Fns → Heap → R) (k : Nat) : G := fun n F args h rc => match args, rc with
  | [], none => f n F h
  | args, rc => callStep cx n F k args h rc
theorem A0_ok {f : Nat → Fns → Heap → R} {k : Nat} (hf : ∀ n F h, callStep cx n F k [] h none = f n F h) : GOK k (A0 f k) := by
  intro n F args h rc
  unfold A0
  split
  · exact (hf ..).symm
  · rfl
noncomputable def A1 (f : Nat → Fns → AV → Heap → R) (k : Nat) : G := fun n F args h rc => match args, rc with
  | [x0], none => f n F x0 h
  | args, rc => callStep cx n F k args h rc
theorem A1_ok {f : Nat → Fns → AV → Heap → R} {k : Nat} (hf : ∀ n F x0 h, callStep cx n F k [x0] h none = f n F x0 h) : GOK k (A1 f k) := by
  intro n F args h rc
  unfold A1
  split
  · exact (hf ..).symm
  · rfl
noncomputable def A2 (f : Nat → Fns → AV → AV → Heap → R) (k : Nat) : G := fun n F args h rc => match args, rc with
  | [x0, x1], none => f n F x0 x1 h
  | args, rc => callStep cx n F k args h rc
theorem A2_ok {f : Nat → Fns → AV → AV → Heap → R} {k : Nat} (hf : ∀ n F x0 x1 h, callStep cx n F k [x0, x1] h none = f n F x0 x1 h) : GOK k (A2 f k) := by
  intro n F args h rc
  unfold A2
  split
  · exact (hf ..).symm
  · rfl
noncomputable def D2 (f : Nat → Fns → AV → AV → Heap → Option (Option AV) → R) (k : Nat) : G := fun n F args h rc => match args with
  | [x0, x1] => f n F x0 x1 h rc
  | args => callStep cx n F k args h rc
theorem D2_ok {f : Nat → Fns → AV → AV → Heap → Option (Option AV) → R} {k : Nat} (hf : ∀ n F x0 x1 h rc, callStep cx n F k [x0, x1] h rc = f n F x0 x1 h rc) : GOK k (D2 f k) := by
  intro n F args h rc
  unfold D2
  split
  · exact (hf ..).symm
  · rfl
noncomputable def A3 (f : Nat → Fns → AV → AV → AV → Heap → R) (k : Nat) : G := fun n F args h rc => match args, rc with
  | [x0, x1, x2], none => f n F x0 x1 x2 h
  | args, rc => callStep cx n F k args h rc
theorem A3_ok {f : Nat → Fns → AV → AV → AV → Heap → R} {k : Nat} (hf : ∀ n F x0 x1 x2 h, callStep cx n F k [x0, x1, x2] h none = f n F x0 x1 x2 h) : GOK k (A3 f k) := by
  intro n F args h rc
  unfold A3
  split
  · exact (hf ..).symm
  · rfl
noncomputable def D3 (f : Nat → Fns → AV → AV → AV → Heap → Option (Option AV) → R) (k : Nat) : G := fun n F args h rc => match args with
  | [x0, x1, x2] => f n F x0 x1 x2 h rc
  | args => callStep cx n F k args h rc
theorem D3_ok {f : Nat → Fns → AV → AV → AV → Heap → Option (Option AV) → R} {k : Nat} (hf : ∀ n F x0 x1 x2 h rc, callStep cx n F k [x0, x1, x2] h rc = f n F x0 x1 x2 h rc) : GOK k (D3 f k) := by
  intro n F args h rc
  unfold D3
  split
  · exact (hf ..).symm
  · rfl
noncomputable def A4 (f : Nat → Fns → AV → AV → AV → AV → Heap → R) (k : Nat) : G := fun n F args h rc => match args, rc with
  | [x0, x1, x2, x3], none => f n F x0 x1 x2 x3 h
  | args, rc => callStep cx n F k args h rc
theorem A4_ok {f : Nat → Fns → AV → AV → AV → AV → Heap → R} {k : Nat} (hf : ∀ n F x0 x1 x2 x3 h, callStep cx n F k [x0, x1, x2, x3] h none = f n F x0 x1 x2 x3 h) : GOK k (A4 f k) := by
  intro n F args h rc
  unfold A4
  split
  · exact (hf ..).symm
  · rfl
noncomputable def A5 (f : Nat → Fns → AV → AV → AV → AV → AV → Heap → R) (k : Nat) : G := fun n F args h rc => match args, rc with
  | [x0, x1, x2, x3, x4], none => f n F x0 x1 x2 x3 x4 h
  | args, rc => callStep cx n F k args h rc
theorem A5_ok {f : Nat → Fns → AV → AV → AV → AV → AV → Heap → R} {k : Nat} (hf : ∀ n F x0 x1 x2 x3 x4 h, callStep cx n F k [x0, x1, x2, x3, x4] h none = f n F x0 x1 x2 x3 x4 h) : GOK k (A5 f k) := by
  intro n F args h rc
  unfold A5
  split
  · exact (hf ..).symm
  · rfl
noncomputable def tab : Tab := .node 168 (.node 84 (.node 43 (.node 22 (.node 12 (.node 7 (.node 4 (.node 3 (.leaf 2 (A0 f2 2)) (.leaf 3 (A1 f3 3))) (.node 5 (.leaf 4 (A0 f4 4)) (.node 6 (.leaf 5 (A2 f5 5)) (.leaf 6 (A1 f6 6))))) (.node 9 (.node 8 (.leaf 7 (A1 f7 7)) (.leaf 8 (A1 f8 8))) (.node 10 (.leaf 9 (A1 f9 9)) (.node 11 (.leaf 10 (A1 f10 10)) (.leaf 11 (A2 f11 11)))))) (.node 17 (.node 14 (.node 13 (.leaf 12 (A1 f12 12)) (.leaf 13 (A1 f13 13))) (.node 15 (.leaf 14 (A2 f14 14)) (.node 16 (.leaf 15 (A3 f15 15)) (.leaf 16 (A1 f16 16))))) (.node 19 (.node 18 (.leaf 17 (A3 f17 17)) (.leaf 18 (A1 f18 18))) (.node 20 (.leaf 19 (A1 f19 19)) (.node 21 (.leaf 20 (A1 f20 20)) (.leaf 21 (A1 f21 21))))))) (.node 32 (.node 27 (.node 24 (.node 23 (.leaf 22 (A1 f22 22)) (.leaf 23 (A1 f23 23))) (.node 25 (.leaf 24 (A2 f24 24)) (.node 26 (.leaf 25 (A1 f25 25)) (.leaf 26 (A1 f26 26))))) (.node 29 (.node 28 (.leaf 27 (A2 f27 27)) (.leaf 28 (A1 f28 28))) (.node 30 (.leaf 29 (A2 f29 29)) (.node 31 (.leaf 30 (A3 f30 30)) (.leaf 31 (A1 f31 31)))))) (.node 37 (.node 34 (.node 33 (.leaf 32 (A1 f32 32)) (.leaf 33 (A2 f33 33))) (.node 35 (.leaf 34 (A1 f34 34)) (.node 36 (.leaf 35 (A1 f35 35)) (.leaf 36 (A1 f36 36))))) (.node 40 (.node 38 (.leaf 37 (A2 f37 37)) (.node 39 (.leaf 38 (A3 f38 38)) (.leaf 39 (A1 f39 39)))) (.node 41 (.leaf 40 (A3 f40 40)) (.node 42 (.leaf 41 (A2 f41 41)) (.leaf 42 (A3 f42 42)))))))) (.node 63 (.node 53 (.node 48 (.node 45 (.node 44 (.leaf 43 (A2 f43 43)) (.leaf 44 (A2 f44 44))) (.node 46 (.leaf 45 (A2 f45 45)) (.node 47 (.leaf 46 (A3 f46 46)) (.leaf 47 (A1 f47 47))))) (.node 50 (.node 49 (.leaf 48 (A1 f48 48)) (.leaf 49 (A2 f49 49))) (.node 51 (.leaf 50 (A1 f50 50)) (.node 52 (.leaf 51 (A1 f51 51)) (.leaf 52 (A1 f52 52)))))) (.node 58 (.node 55 (.node 54 (.leaf 53 (A1 f53 53)) (.leaf 54 (A1 f54 54))) (.node 56 (.leaf 55 (A1 f55 55)) (.node 57 (.leaf 56 (A1 f56 56)) (.leaf 57 (A1 f57 57))))) (.node 60 (.node 59 (.leaf 58 (A1 f58 58)) (.leaf 59 (A1 f59 59))) (.node 61 (.leaf 60 (A1 f60 60)) (.node 62 (.leaf 61 (A3 f61 61)) (.leaf 62 (A3 f62 62))))))) (.node 73 (.node 68 (.node 65 (.node 64 (.leaf 63 (A1 f63 63)) (.leaf 64 (A2 f64 64))) (.node 66 (.leaf 65 (A1 f65 65)) (.node 67 (.leaf 66 (A2 f66 66)) (.leaf 67 (A2 f67 67))))) (.node 70 (.node 69 (.leaf 68 (A2 f68 68)) (.leaf 69 (A1 f69 69))) (.node 71 (.leaf 70 (A2 f70 70)) (.node 72 (.leaf 71 (A2 f71 71)) (.leaf 72 (A1 f72 72)))))) (.node 78 (.node 75 (.node 74 (.leaf 73 (A2 f73 73)) (.leaf 74 (A1 f74 74))) (.node 76 (.leaf 75 (A2 f75 75)) (.node 77 (.leaf 76 (A2 f76 76)) (.leaf 77 (A2 f77 77))))) (.node 81 (.node 79 (.leaf 78 (A1 f78 78)) (.node 80 (.leaf 79 (A2 f79 79)) (.leaf 80 (A3 f80 80)))) (.node 82 (.leaf 81 (A2 f81 81)) (.node 83 (.leaf 82 (A2 f82 82)) (.leaf 83 (A3 f83 83))))))))) (.node 126 (.node 104 (.node 94 (.node 89 (.node 86 (.node 85 (.leaf 84 (A2 f84 84)) (.leaf 85 (A1 f85 85))) (.node 87 (.leaf 86 (A1 f86 86)) (.node 88 (.leaf 87 (A1 f87 87)) (.leaf 88 (A2 f88 88))))) (.node 91 (.node 90 (.leaf 89 (A1 f89 89)) (.leaf 90 (A2 f90 90))) (.node 92 (.leaf 91 (A1 f91 91)) (.node 93 (.leaf 92 (A1 f92 92)) (.leaf 93 (A1 f93 93)))))) (.node 99 (.node 96 (.node 95 (.leaf 94 (A1 f94 94)) (.leaf 95 (A2 f95 95))) (.node 97 (.leaf 96 (A1 f96 96)) (.node 98 (.leaf 97 (A1 f97 97)) (.leaf 98 (A2 f98 98))))) (.node 101 (.node 100 (.leaf 99 (A1 f99 99)) (.leaf 100 (A1 f100 100))) (.node 102 (.leaf 101 (A2 f101 101)) (.node 103 (.leaf 102 (A3 f102 102)) (.leaf 103 (A1 f103 103))))))) (.node 115 (.node 109 (.node 106 (.node 105 (.leaf 104 (A1 f104 104)) (.leaf 105 (A2 f105 105))) (.node 107 (.leaf 106 (A1 f106 106)) (.node 108 (.leaf 107 (A2 f107 107)) (.leaf 108 (A2 f108 108))))) (.node 111 (.node 110 (.leaf 109 (A1 f109 109)) (.leaf 110 (A2 f110 110))) (.node 113 (.leaf 111 (A1 f111 111)) (.node 114 (.leaf 113 (A1 f113 113)) (.leaf 114 (A1 f114 114)))))) (.node 120 (.node 117 (.node 116 (.leaf 115 (A4 f115 115)) (.leaf 116 (A1 f116 116))) (.node 118 (.leaf 117 (A1 f117 117)) (.node 119 (.leaf 118 (A3 f118 118)) (.leaf 119 (A1 f119 119))))) (.node 123 (.node 121 (.leaf 120 (A1 f120 120)) (.node 122 (.leaf 121 (A1 f121 121)) (.leaf 122 (A3 f122 122)))) (.node 124 (.leaf 123 (A2 f123 123)) (.node 125 (.leaf 124 (A2 f124 124)) (.leaf 125 (A3 f125 125)))))))) (.node 147 (.node 136 (.node 131 (.node 128 (.node 127 (.leaf 126 (A1 f126 126)) (.leaf 127 (A1 f127 127))) (.node 129 (.leaf 128 (A2 f128 128)) (.node 130 (.leaf 129 (A2 f129 129)) (.leaf 130 (A2 f130 130))))) (.node 133 (.node 132 (.leaf 131 (A2 f131 131)) (.leaf 132 (A2 f132 132))) (.node 134 (.leaf 133 (A1 f133 133)) (.node 135 (.leaf 134 (A2 f134 134)) (.leaf 135 (A2 f135 135)))))) (.node 142 (.node 139 (.node 137 (.leaf 136 (A1 f136 136)) (.leaf 137 (A2 f137 137))) (.node 140 (.leaf 139 (A1 f139 139)) (.node 141 (.leaf 140 (A1 f140 140)) (.leaf 141 (A1 f141 141))))) (.node 144 (.node 143 (.leaf 142 (A2 f142 142)) (.leaf 143 (A2 f143 143))) (.node 145 (.leaf 144 (A1 f144 144)) (.node 146 (.leaf 145 (A1 f145 145)) (.leaf 146 (A3 f146 146))))))) (.node 157 (.node 152 (.node 149 (.node 148 (.leaf 147 (A1 f147 147)) (.leaf 148 (A2 f148 148))) (.node 150 (.leaf 149 (A1 f149 149)) (.node 151 (.leaf 150 (A1 f150 150)) (.leaf 151 (A1 f151 151))))) (.node 154 (.node 153 (.leaf 152 (A2 f152 152)) (.leaf 153 (A1 f153 153))) (.node 155 (.leaf 154 (A2 f154 154)) (.node 156 (.leaf 155 (A1 f155 155)) (.leaf 156 (A1 f156 156)))))) (.node 162 (.node 159 (.node 158 (.leaf 157 (A1 f157 157)) (.leaf 158 (A2 f158 158))) (.node 160 (.leaf 159 (A2 f159 159)) (.node 161 (.leaf 160 (A2 f160 160)) (.leaf 161 (A1 f161 161))))) (.node 165 (.node 163 (.leaf 162 (A1 f162 162)) (.node 164 (.leaf 163 (A2 f163 163)) (.leaf 164 (A3 f164 164)))) (.node 166 (.leaf 165 (A2 f165 165)) (.node 167 (.leaf 166 (A1 f166 166)) (.leaf 167 (A3 f167 167)))))))))) (.node 250 (.node 209 (.node 188 (.node 178 (.node 173 (.node 170 (.node 169 (.leaf 168 (A2 f168 168)) (.leaf 169 (A1 f169 169))) (.node 171 (.leaf 170 (A2 f170 170)) (.node 172 (.leaf 171 (A1 f171 171)) (.leaf 172 (A1 f172 172))))) (.node 175 (.node 174 (.leaf 173 (A1 f173 173)) (.leaf 174 (A1 f174 174))) (.node 176 (.leaf 175 (A1 f175 175)) (.node 177 (.leaf 176 (A3 f176 176)) (.leaf 177 (A2 f177 177)))))) (.node 183 (.node 180 (.node 179 (.leaf 178 (A1 f178 178)) (.leaf 179 (A2 f179 179))) (.node 181 (.leaf 180 (A1 f180 180)) (.node 182 (.leaf 181 (A1 f181 181)) (.leaf 182 (A1 f182 182))))) (.node 185 (.node 184 (.leaf 183 (A1 f183 183)) (.leaf 184 (A1 f184 184))) (.node 186 (.leaf 185 (A1 f185 185)) (.node 187 (.leaf 186 (A2 f186 186)) (.leaf 187 (A2 f187 187))))))) (.node 198 (.node 193 (.node 190 (.node 189 (.leaf 188 (A2 f188 188)) (.leaf 189 (A2 f189 189))) (.node 191 (.leaf 190 (A3 f190 190)) (.node 192 (.leaf 191 (A1 f191 191)) (.leaf 192 (A2 f192 192))))) (.node 195 (.node 194 (.leaf 193 (A2 f193 193)) (.leaf 194 (A1 f194 194))) (.node 196 (.leaf 195 (A3 f195 195)) (.node 197 (.leaf 196 (A2 f196 196)) (.leaf 197 (A1 f197 197)))))) (.node 203 (.node 200 (.node 199 (.leaf 198 (A2 f198 198)) (.leaf 199 (A2 f199 199))) (.node 201 (.leaf 200 (A1 f200 200)) (.node 202 (.leaf 201 (A1 f201 201)) (.leaf 202 (A1 f202 202))))) (.node 206 (.node 204 (.leaf 203 (A1 f203 203)) (.node 205 (.leaf 204 (A2 f204 204)) (.leaf 205 (A1 f205 205)))) (.node 207 (.leaf 206 (A4 f206 206)) (.node 208 (.leaf 207 (A0 f207 207)) (.leaf 208 (D2 f208 208)))))))) (.node 229 (.node 219 (.node 214 (.node 211 (.node 210 (.leaf 209 (A2 f209 209)) (.leaf 210 (A2 f210 210))) (.node 212 (.leaf 211 (A1 f211 211)) (.node 213 (.leaf 212 (A1 f212 212)) (.leaf 213 (A1 f213 213))))) (.node 216 (.node 215 (.leaf 214 (A1 f214 214)) (.leaf 215 (A2 f215 215))) (.node 217 (.leaf 216 (A3 f216 216)) (.node 218 (.leaf 217 (A1 f217 217)) (.leaf 218 (A3 f218 218)))))) (.node 224 (.node 221 (.node 220 (.leaf 219 (A2 f219 219)) (.leaf 220 (A2 f220 220))) (.node 222 (.leaf 221 (A1 f221 221)) (.node 223 (.leaf 222 (A1 f222 222)) (.leaf 223 (A2 f223 223))))) (.node 226 (.node 225 (.leaf 224 (A1 f224 224)) (.leaf 225 (A1 f225 225))) (.node 227 (.leaf 226 (A2 f226 226)) (.node 228 (.leaf 227 (A4 f227 227)) (.leaf 228 (A2 f228 228))))))) (.node 239 (.node 234 (.node 231 (.node 230 (.leaf 229 (A2 f229 229)) (.leaf 230 (A2 f230 230))) (.node 232 (.leaf 231 (A1 f231 231)) (.node 233 (.leaf 232 (A1 f232 232)) (.leaf 233 (A2 f233 233))))) (.node 236 (.node 235 (.leaf 234 (A1 f234 234)) (.leaf 235 (A2 f235 235))) (.node 237 (.leaf 236 (A1 f236 236)) (.node 238 (.leaf 237 (A3 f237 237)) (.leaf 238 (A2 f238 238)))))) (.node 244 (.node 241 (.node 240 (.leaf 239 (A2 f239 239)) (.leaf 240 (A2 f240 240))) (.node 242 (.leaf 241 (A2 f241 241)) (.node 243 (.leaf 242 (A3 f242 242)) (.leaf 243 (A2 f243 243))))) (.node 247 (.node 245 (.leaf 244 (A3 f244 244)) (.node 246 (.leaf 245 (A2 f245 245)) (.leaf 246 (A1 f246 246)))) (.node 248 (.leaf 247 (A1 f247 247)) (.node 249 (.leaf 248 (A1 f248 248)) (.leaf 249 (A1 f249 249))))))))) (.node 293 (.node 270 (.node 260 (.node 255 (.node 252 (.node 251 (.leaf 250 (A3 f250 250)) (.leaf 251 (A1 f251 251))) (.node 253 (.leaf 252 (A1 f252 252)) (.node 254 (.leaf 253 (A2 f253 253)) (.leaf 254 (A2 f254 254))))) (.node 257 (.node 256 (.leaf 255 (A2 f255 255)) (.leaf 256 (A3 f256 256))) (.node 258 (.leaf 257 (A1 f257 257)) (.node 259 (.leaf 258 (D3 f258 258)) (.leaf 259 (A2 f259 259)))))) (.node 265 (.node 262 (.node 261 (.leaf 260 (A1 f260 260)) (.leaf 261 (A2 f261 261))) (.node 263 (.leaf 262 (A1 f262 262)) (.node 264 (.leaf 263 (A2 f263 263)) (.leaf 264 (A1 f264 264))))) (.node 267 (.node 266 (.leaf 265 (A2 f265 265)) (.leaf 266 (A1 f266 266))) (.node 268 (.leaf 267 (A1 f267 267)) (.node 269 (.leaf 268 (A2 f268 268)) (.leaf 269 (A3 f269 269))))))) (.node 281 (.node 276 (.node 273 (.node 271 (.leaf 270 (A2 f270 270)) (.leaf 271 (A2 f271 271))) (.node 274 (.leaf 273 (A2 f273 273)) (.node 275 (.leaf 274 (A2 f274 274)) (.leaf 275 (A2 f275 275))))) (.node 278 (.node 277 (.leaf 276 (A2 f276 276)) (.leaf 277 (A2 f277 277))) (.node 279 (.leaf 278 (A1 f278 278)) (.node 280 (.leaf 279 (A1 f279 279)) (.leaf 280 (A2 f280 280)))))) (.node 286 (.node 283 (.node 282 (.leaf 281 (A2 f281 281)) (.leaf 282 (A1 f282 282))) (.node 284 (.leaf 283 (A2 f283 283)) (.node 285 (.leaf 284 (A3 f284 284)) (.leaf 285 (A3 f285 285))))) (.node 290 (.node 287 (.leaf 286 (A3 f286 286)) (.node 289 (.leaf 287 (A4 f287 287)) (.leaf 289 (A2 f289 289)))) (.node 291 (.leaf 290 (A2 f290 290)) (.node 292 (.leaf 291 (A2 f291 291)) (.leaf 292 (A2 f292 292)))))))) (.node 314 (.node 303 (.node 298 (.node 295 (.node 294 (.leaf 293 (A2 f293 293)) (.leaf 294 (A3 f294 294))) (.node 296 (.leaf 295 (A2 f295 295)) (.node 297 (.leaf 296 (A2 f296 296)) (.leaf 297 (A5 f297 297))))) (.node 300 (.node 299 (.leaf 298 (A1 f298 298)) (.leaf 299 (A2 f299 299))) (.node 301 (.leaf 300 (A2 f300 300)) (.node 302 (.leaf 301 (A1 f301 301)) (.leaf 302 (A2 f302 302)))))) (.node 308 (.node 305 (.node 304 (.leaf 303 (A2 f303 303)) (.leaf 304 (A2 f304 304))) (.node 306 (.leaf 305 (A2 f305 305)) (.node 307 (.leaf 306 (A1 f306 306)) (.leaf 307 (A1 f307 307))))) (.node 311 (.node 309 (.leaf 308 (A3 f308 308)) (.node 310 (.leaf 309 (A2 f309 309)) (.leaf 310 (A3 f310 310)))) (.node 312 (.leaf 311 (A3 f311 311)) (.node 313 (.leaf 312 (A3 f312 312)) (.leaf 313 (A3 f313 313))))))) (.node 324 (.node 319 (.node 316 (.node 315 (.leaf 314 (A3 f314 314)) (.leaf 315 (A2 f315 315))) (.node 317 (.leaf 316 (A2 f316 316)) (.node 318 (.leaf 317 (A2 f317 317)) (.leaf 318 (A2 f318 318))))) (.node 321 (.node 320 (.leaf 319 (A3 f319 319)) (.leaf 320 (A2 f320 320))) (.node 322 (.leaf 321 (A1 f321 321)) (.node 323 (.leaf 322 (A2 f322 322)) (.leaf 323 (A2 f323 323)))))) (.node 329 (.node 326 (.node 325 (.leaf 324 (A2 f324 324)) (.leaf 325 (A2 f325 325))) (.node 327 (.leaf 326 (A1 f326 326)) (.node 328 (.leaf 327 (A2 f327 327)) (.leaf 328 (A2 f328 328))))) (.node 332 (.node 330 (.leaf 329 (A2 f329 329)) (.node 331 (.leaf 330 (A1 f330 330)) (.leaf 331 (A1 f331 331)))) (.node 333 (.leaf 332 (A2 f332 332)) (.node 334 (.leaf 333 (A2 f333 333)) (.leaf 334 (A2 f334 334))))))))))
theorem tab_ok : tab.OK := ⟨⟨⟨⟨⟨⟨⟨⟨A0_ok f2_eq, A1_ok f3_eq⟩, ⟨A0_ok f4_eq, ⟨A2_ok f5_eq, A1_ok f6_eq⟩⟩⟩, ⟨⟨A1_ok f7_eq, A1_ok f8_eq⟩, ⟨A1_ok f9_eq, ⟨A1_ok f10_eq, A2_ok f11_eq⟩⟩⟩⟩, ⟨⟨⟨A1_ok f12_eq, A1_ok f13_eq⟩, ⟨A2_ok f14_eq, ⟨A3_ok f15_eq, A1_ok f16_eq⟩⟩⟩, ⟨⟨A3_ok f17_eq, A1_ok f18_eq⟩, ⟨A1_ok f19_eq, ⟨A1_ok f20_eq, A1_ok f21_eq⟩⟩⟩⟩⟩, ⟨⟨⟨⟨A1_ok f22_eq, A1_ok f23_eq⟩, ⟨A2_ok f24_eq, ⟨A1_ok f25_eq, A1_ok f26_eq⟩⟩⟩, ⟨⟨A2_ok f27_eq, A1_ok f28_eq⟩, ⟨A2_ok f29_eq, ⟨A3_ok f30_eq, A1_ok f31_eq⟩⟩⟩⟩, ⟨⟨⟨A1_ok f32_eq, A2_ok f33_eq⟩, ⟨A1_ok f34_eq, ⟨A1_ok f35_eq, A1_ok f36_eq⟩⟩⟩, ⟨⟨A2_ok f37_eq, ⟨A3_ok f38_eq, A1_ok f39_eq⟩⟩, ⟨A3_ok f40_eq, ⟨A2_ok f41_eq, A3_ok f42_eq⟩⟩⟩⟩⟩⟩, ⟨⟨⟨⟨⟨A2_ok f43_eq, A2_ok f44_eq⟩, ⟨A2_ok f45_eq, ⟨A3_ok f46_eq, A1_ok f47_eq⟩⟩⟩, ⟨⟨A1_ok f48_eq, A2_ok f49_eq⟩, ⟨A1_ok f50_eq, ⟨A1_ok f51_eq, A1_ok f52_eq⟩⟩⟩⟩, ⟨⟨⟨A1_ok f53_eq, A1_ok f54_eq⟩, ⟨A1_ok f55_eq, ⟨A1_ok f56_eq, A1_ok f57_eq⟩⟩⟩, ⟨⟨A1_ok f58_eq, A1_ok f59_eq⟩, ⟨A1_ok f60_eq, ⟨A3_ok f61_eq, A3_ok f62_eq⟩⟩⟩⟩⟩, ⟨⟨⟨⟨A1_ok f63_eq, A2_ok f64_eq⟩, ⟨A1_ok f65_eq, ⟨A2_ok f66_eq, A2_ok f67_eq⟩⟩⟩, ⟨⟨A2_ok f68_eq, A1_ok f69_eq⟩, ⟨A2_ok f70_eq, ⟨A2_ok f71_eq, A1_ok f72_eq⟩⟩⟩⟩, ⟨⟨⟨A2_ok f73_eq, A1_ok f74_eq⟩, ⟨A2_ok f75_eq, ⟨A2_ok f76_eq, A2_ok f77_eq⟩⟩⟩, ⟨⟨A1_ok f78_eq, ⟨A2_ok f79_eq, A3_ok f80_eq⟩⟩, ⟨A2_ok f81_eq, ⟨A2_ok f82_eq, A3_ok f83_eq⟩⟩⟩⟩⟩⟩⟩, ⟨⟨⟨⟨⟨⟨A2_ok f84_eq, A1_ok f85_eq⟩, ⟨A1_ok f86_eq, ⟨A1_ok f87_eq, A2_ok f88_eq⟩⟩⟩, ⟨⟨A1_ok f89_eq, A2_ok f90_eq⟩, ⟨A1_ok f91_eq, ⟨A1_ok f92_eq, A1_ok f93_eq⟩⟩⟩⟩, ⟨⟨⟨A1_ok f94_eq, A2_ok f95_eq⟩, ⟨A1_ok f96_eq, ⟨A1_ok f97_eq, A2_ok f98_eq⟩⟩⟩, ⟨⟨A1_ok f99_eq, A1_ok f100_eq⟩, ⟨A2_ok f101_eq, ⟨A3_ok f102_eq, A1_ok f103_eq⟩⟩⟩⟩⟩, ⟨⟨⟨⟨A1_ok f104_eq, A2_ok f105_eq⟩, ⟨A1_ok f106_eq, ⟨A2_ok f107_eq, A2_ok f108_eq⟩⟩⟩, ⟨⟨A1_ok f109_eq, A2_ok f110_eq⟩, ⟨A1_ok f111_eq, ⟨A1_ok f113_eq, A1_ok f114_eq⟩⟩⟩⟩, ⟨⟨⟨A4_ok f115_eq, A1_ok f116_eq⟩, ⟨A1_ok f117_eq, ⟨A3_ok f118_eq, A1_ok f119_eq⟩⟩⟩, ⟨⟨A1_ok f120_eq, ⟨A1_ok f121_eq, A3_ok f122_eq⟩⟩, ⟨A2_ok f123_eq, ⟨A2_ok f124_eq, A3_ok f125_eq⟩⟩⟩⟩⟩⟩, ⟨⟨⟨⟨⟨A1_ok f126_eq, A1_ok f127_eq⟩, ⟨A2_ok f128_eq, ⟨A2_ok f129_eq, A2_ok f130_eq⟩⟩⟩, ⟨⟨A2_ok f131_eq, A2_ok f132_eq⟩, ⟨A1_ok f133_eq, ⟨A2_ok f134_eq, A2_ok f135_eq⟩⟩⟩⟩, ⟨⟨⟨A1_ok f136_eq, A2_ok f137_eq⟩, ⟨A1_ok f139_eq, ⟨A1_ok f140_eq, A1_ok f141_eq⟩⟩⟩, ⟨⟨A2_ok f142_eq, A2_ok f143_eq⟩, ⟨A1_ok f144_eq, ⟨A1_ok f145_eq, A3_ok f146_eq⟩⟩⟩⟩⟩, ⟨⟨⟨⟨A1_ok f147_eq, A2_ok f148_eq⟩, ⟨A1_ok f149_eq, ⟨A1_ok f150_eq, A1_ok f151_eq⟩⟩⟩, ⟨⟨A2_ok f152_eq, A1_ok f153_eq⟩, ⟨A2_ok f154_eq, ⟨A1_ok f155_eq, A1_ok f156_eq⟩⟩⟩⟩, ⟨⟨⟨A1_ok f157_eq, A2_ok f158_eq⟩, ⟨A2_ok f159_eq, ⟨A2_ok f160_eq, A1_ok f161_eq⟩⟩⟩, ⟨⟨A1_ok f162_eq, ⟨A2_ok f163_eq, A3_ok f164_eq⟩⟩, ⟨A2_ok f165_eq, ⟨A1_ok f166_eq, A3_ok f167_eq⟩⟩⟩⟩⟩⟩⟩⟩, ⟨⟨⟨⟨⟨⟨⟨A2_ok f168_eq, A1_ok f169_eq⟩, ⟨A2_ok f170_eq, ⟨A1_ok f171_eq, A1_ok f172_eq⟩⟩⟩, ⟨⟨A1_ok f173_eq, A1_ok f174_eq⟩, ⟨A1_ok f175_eq, ⟨A3_ok f176_eq, A2_ok f177_eq⟩⟩⟩⟩, ⟨⟨⟨A1_ok f178_eq, A2_ok f179_eq⟩, ⟨A1_ok f180_eq, ⟨A1_ok f181_eq, A1_ok f182_eq⟩⟩⟩, ⟨⟨A1_ok f183_eq, A1_ok f184_eq⟩, ⟨A1_ok f185_eq, ⟨A2_ok f186_eq, A2_ok f187_eq⟩⟩⟩⟩⟩, ⟨⟨⟨⟨A2_ok f188_eq, A2_ok f189_eq⟩, ⟨A3_ok f190_eq, ⟨A1_ok f191_eq, A2_ok f192_eq⟩⟩⟩, ⟨⟨A2_ok f193_eq, A1_ok f194_eq⟩, ⟨A3_ok f195_eq, ⟨A2_ok f196_eq, A1_ok f197_eq⟩⟩⟩⟩, ⟨⟨⟨A2_ok f198_eq, A2_ok f199_eq⟩, ⟨A1_ok f200_eq, ⟨A1_ok f201_eq, A1_ok f202_eq⟩⟩⟩, ⟨⟨A1_ok f203_eq, ⟨A2_ok f204_eq, A1_ok f205_eq⟩⟩, ⟨A4_ok f206_eq, ⟨A0_ok f207_eq, D2_ok f208_eq⟩⟩⟩⟩⟩⟩, ⟨⟨⟨⟨⟨A2_ok f209_eq, A2_ok f210_eq⟩, ⟨A1_ok f211_eq, ⟨A1_ok f212_eq, A1_ok f213_eq⟩⟩⟩, ⟨⟨A1_ok f214_eq, A2_ok f215_eq⟩, ⟨A3_ok f216_eq, ⟨A1_ok f217_eq, A3_ok f218_eq⟩⟩⟩⟩, ⟨⟨⟨A2_ok f219_eq, A2_ok f220_eq⟩, ⟨A1_ok f221_eq, ⟨A1_ok f222_eq, A2_ok f223_eq⟩⟩⟩, ⟨⟨A1_ok f224_eq, A1_ok f225_eq⟩, ⟨A2_ok f226_eq, ⟨A4_ok f227_eq, A2_ok f228_eq⟩⟩⟩⟩⟩, ⟨⟨⟨⟨A2_ok f229_eq, A2_ok f230_eq⟩, ⟨A1_ok f231_eq, ⟨A1_ok f232_eq, A2_ok f233_eq⟩⟩⟩, ⟨⟨A1_ok f234_eq, A2_ok f235_eq⟩, ⟨A1_ok f236_eq, ⟨A3_ok f237_eq, A2_ok f238_eq⟩⟩⟩⟩, ⟨⟨⟨A2_ok f239_eq, A2_ok f240_eq⟩, ⟨A2_ok f241_eq, ⟨A3_ok f242_eq, A2_ok f243_eq⟩⟩⟩, ⟨⟨A3_ok f244_eq, ⟨A2_ok f245_eq, A1_ok f246_eq⟩⟩, ⟨A1_ok f247_eq, ⟨A1_ok f248_eq, A1_ok f249_eq⟩⟩⟩⟩⟩⟩⟩, ⟨⟨⟨⟨⟨⟨A3_ok f250_eq, A1_ok f251_eq⟩, ⟨A1_ok f252_eq, ⟨A2_ok f253_eq, A2_ok f254_eq⟩⟩⟩, ⟨⟨A2_ok f255_eq, A3_ok f256_eq⟩, ⟨A1_ok f257_eq, ⟨D3_ok f258_eq, A2_ok f259_eq⟩⟩⟩⟩, ⟨⟨⟨A1_ok f260_eq, A2_ok f261_eq⟩, ⟨A1_ok f262_eq, ⟨A2_ok f263_eq, A1_ok f264_eq⟩⟩⟩, ⟨⟨A2_ok f265_eq, A1_ok f266_eq⟩, ⟨A1_ok f267_eq, ⟨A2_ok f268_eq, A3_ok f269_eq⟩⟩⟩⟩⟩, ⟨⟨⟨⟨A2_ok f270_eq, A2_ok f271_eq⟩, ⟨A2_ok f273_eq, ⟨A2_ok f274_eq, A2_ok f275_eq⟩⟩⟩, ⟨⟨A2_ok f276_eq, A2_ok f277_eq⟩, ⟨A1_ok f278_eq, ⟨A1_ok f279_eq, A2_ok f280_eq⟩⟩⟩⟩, ⟨⟨⟨A2_ok f281_eq, A1_ok f282_eq⟩, ⟨A2_ok f283_eq, ⟨A3_ok f284_eq, A3_ok f285_eq⟩⟩⟩, ⟨⟨A3_ok f286_eq, ⟨A4_ok f287_eq, A2_ok f289_eq⟩⟩, ⟨A2_ok f290_eq, ⟨A2_ok f291_eq, A2_ok f292_eq⟩⟩⟩⟩⟩⟩, ⟨⟨⟨⟨⟨A2_ok f293_eq, A3_ok f294_eq⟩, ⟨A2_ok f295_eq, ⟨A2_ok f296_eq, A5_ok f297_eq⟩⟩⟩, ⟨⟨A1_ok f298_eq, A2_ok f299_eq⟩, ⟨A2_ok f300_eq, ⟨A1_ok f301_eq, A2_ok f302_eq⟩⟩⟩⟩, ⟨⟨⟨A2_ok f303_eq, A2_ok f304_eq⟩, ⟨A2_ok f305_eq, ⟨A1_ok f306_eq, A1_ok f307_eq⟩⟩⟩, ⟨⟨A3_ok f308_eq, ⟨A2_ok f309_eq, A3_ok f310_eq⟩⟩, ⟨A3_ok f311_eq, ⟨A3_ok f312_eq, A3_ok f313_eq⟩⟩⟩⟩⟩, ⟨⟨⟨⟨A3_ok f314_eq, A2_ok f315_eq⟩, ⟨A2_ok f316_eq, ⟨A2_ok f317_eq, A2_ok f318_eq⟩⟩⟩, ⟨⟨A3_ok f319_eq, A2_ok f320_eq⟩, ⟨A1_ok f321_eq, ⟨A2_ok f322_eq, A2_ok f323_eq⟩⟩⟩⟩, ⟨⟨⟨A2_ok f324_eq, A2_ok f325_eq⟩, ⟨A1_ok f326_eq, ⟨A2_ok f327_eq, A2_ok f328_eq⟩⟩⟩, ⟨⟨A2_ok f329_eq, ⟨A1_ok f330_eq, A1_ok f331_eq⟩⟩, ⟨A2_ok f332_eq, ⟨A2_ok f333_eq, A2_ok f334_eq⟩⟩⟩⟩⟩⟩⟩⟩⟩
noncomputable def sh : Nat → Fns
  | 0 => fns cx 0
  | n + 1 => { call := fun f args h rc => tab.run f n (sh n) args h rc, defers := defersStep (sh n), yield := yieldStep cx n (sh n) }
theorem sh_eq (n : Nat) : sh n = fns cx n := by
  induction n with
  | zero => rfl
  | succ n ih =>
    simp only [sh, fns, ih]
    congr 1
    funext f args h rc
    exact Tab.run_eq tab_ok ..
end Go.Proofs.YtahbihcbidkbaaaGreat.Ev
