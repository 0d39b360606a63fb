/- Part of this claim. No condition. -/
import Derived.Shelf.Strings.OnBuilder
import Derived.Shelf.LaysM
import Derived.Shelf.Strconv.Itoa3
import Derived.Shelf.Strconv.Itoa4
import Derived.Shelf.LaysC
import Derived.Shelf.Strconv.AtoiAll
import Derived.Shelf.Strconv.ErrVarAll
import Derived.Shelf.Strconv.ParseIntPublic10
import Derived.Shelf.Strconv.ErrVarParseInt
import Derived.Shelf.Strings.Cut
import Derived.Shelf.Strings.Prefix
import Derived.Shelf.Strings.Split
import Derived.Test.YtkjccbdeaflekaaGreatDoorProg
set_option linter.unusedVariables false
set_option linter.unusedSimpArgs false
namespace Go.Proofs
section
open Go.Shelf
set_option maxRecDepth 9999
def Tryz.lays156_ren : Ren := ⟨fun | 156 => 148 | 165 => 187 | 166 => 188 | 169 => 189 | 240 => 209 | 241 => 210 | 276 => 232 | 277 => 233 | n => n, fun | 31 => 171 | 9 => 9 | 3 => 3 | 4 => 4 | 0 => 0 | 20 => 20 | 72 => 233 | 76 => 235 | 70 => 231 | 37 => 31 | 75 => 215 | 127 => 252 | 164 => 279 | 5 => 5 | 80 => 237 | n => n, fun | n => n⟩
theorem Tryz.lays156 : Lays.n156 Tryz.prog Tryz.lays156_ren := by repeat' first | kernel_rfl | exact fun w => rfl | decide | constructor
theorem Tryz.Builder_Extra_156 : Builder.Extra Tryz.prog Tryz.lays156_ren := by repeat' first | kernel_rfl | exact fun w => rfl | decide | constructor
def Tryz.laysM171_ren : Ren := ⟨fun | 171 => 147 | 243 => 186 | 246 => 202 | 283 => 227 | 284 => 228 | 285 => 229 | 286 => 230 | 129 => 245 | 317 => 244 | 318 => 246 | 319 => 247 | 320 => 248 | 337 => 253 | 338 => 254 | n => n, fun | 3 => 3 | 9 => 9 | 2 => 2 | 4 => 4 | 171 => 273 | 0 => 0 | 53 => 266 | 37 => 31 | 5 => 5 | 173 => 276 | 212 => 291 | 51 => 292 | 20 => 20 | 213 => 293 | 46 => 269 | 232 => 307 | 233 => 308 | n => n, fun | 17 => 3 | 18 => 6 | 19 => 7 | n => n⟩
theorem Tryz.laysM171 : LaysM.n171 Tryz.prog Tryz.laysM171_ren := by repeat' first | kernel_rfl | exact fun w => rfl | decide | constructor
def Tryz.laysM173_ren : Ren := ⟨fun | 173 => 167 | 246 => 202 | 283 => 227 | 284 => 228 | 285 => 229 | 286 => 230 | 129 => 245 | 317 => 244 | 318 => 246 | 319 => 247 | 320 => 248 | 337 => 253 | 338 => 254 | n => n, fun | 2 => 2 | 3 => 3 | 9 => 9 | 4 => 4 | 171 => 273 | 0 => 0 | 53 => 266 | 37 => 31 | 5 => 5 | 173 => 276 | 212 => 291 | 51 => 292 | 20 => 20 | 213 => 293 | 46 => 269 | 232 => 307 | 233 => 308 | n => n, fun | 17 => 3 | 18 => 6 | 19 => 7 | n => n⟩
theorem Tryz.laysM173 : LaysM.n173 Tryz.prog Tryz.laysM173_ren := by repeat' first | kernel_rfl | exact fun w => rfl | decide | constructor
def Tryz.laysC172_ren : Ren := ⟨fun | 172 => 192 | 244 => 212 | 245 => 201 | 247 => 200 | 279 => 223 | 280 => 224 | 281 => 225 | 282 => 226 | 287 => 222 | 316 => 242 | 171 => 147 | 205 => 243 | 321 => 240 | 322 => 241 | 243 => 186 | 246 => 202 | 283 => 227 | 284 => 228 | 285 => 229 | 286 => 230 | 129 => 245 | 317 => 244 | 318 => 246 | 319 => 247 | 320 => 248 | 337 => 253 | 338 => 254 | n => n, fun | 9 => 9 | 3 => 3 | 75 => 215 | 76 => 235 | 4 => 4 | 5 => 5 | 167 => 265 | 37 => 31 | 0 => 0 | 85 => 216 | 2 => 2 | 168 => 270 | 53 => 266 | 175 => 267 | 46 => 269 | 210 => 288 | 127 => 252 | 145 => 303 | 143 => 301 | 21 => 21 | 171 => 273 | 173 => 276 | 212 => 291 | 51 => 292 | 20 => 20 | 213 => 293 | 232 => 307 | 233 => 308 | 80 => 237 | n => n, fun | 15 => 1 | 16 => 2 | 17 => 3 | 18 => 6 | 19 => 7 | n => n⟩
theorem Tryz.laysC172 : LaysC.n172 Tryz.prog Tryz.laysC172_ren := by repeat' first | kernel_rfl | exact fun w => rfl | decide | constructor
def Tryz.laysC174_ren : Ren := ⟨fun | 174 => 166 | 247 => 200 | 245 => 201 | 287 => 222 | 279 => 223 | 280 => 224 | 281 => 225 | 282 => 226 | 321 => 240 | 322 => 241 | 316 => 242 | 171 => 147 | 205 => 243 | 243 => 186 | 246 => 202 | 283 => 227 | 284 => 228 | 285 => 229 | 286 => 230 | 129 => 245 | 317 => 244 | 318 => 246 | 319 => 247 | 320 => 248 | 337 => 253 | 338 => 254 | n => n, fun | 9 => 9 | 3 => 3 | 2 => 2 | 75 => 215 | 85 => 216 | 4 => 4 | 167 => 265 | 5 => 5 | 53 => 266 | 175 => 267 | 46 => 269 | 168 => 270 | 37 => 31 | 0 => 0 | 210 => 288 | 21 => 21 | 127 => 252 | 145 => 303 | 143 => 301 | 171 => 273 | 173 => 276 | 212 => 291 | 51 => 292 | 20 => 20 | 213 => 293 | 232 => 307 | 233 => 308 | 80 => 237 | n => n, fun | 15 => 1 | 16 => 2 | 17 => 3 | 18 => 6 | 19 => 7 | n => n⟩
theorem Tryz.laysC174 : LaysC.n174 Tryz.prog Tryz.laysC174_ren := by repeat' first | kernel_rfl | exact fun w => rfl | decide | constructor
def Tryz.lays145_ren : Ren := ⟨fun | 145 => 153 | 220 => 190 | 219 => 211 | 217 => 234 | 225 => 235 | 224 => 236 | 267 => 237 | 266 => 251 | 314 => 252 | n => n, fun | 9 => 9 | 4 => 4 | 59 => 205 | 3 => 3 | 5 => 5 | 46 => 269 | 146 => 295 | 51 => 292 | n => n, fun | 1 => 0 | n => n⟩
theorem Tryz.lays145 : Lays.n145 Tryz.prog Tryz.lays145_ren := by repeat' first | kernel_rfl | exact fun w => rfl | decide | constructor
def Tryz.lays100_ren : Ren := ⟨fun | 100 => 121 | 207 => 165 | n => n, fun | 9 => 9 | 4 => 4 | 3 => 3 | n => n, fun | n => n⟩
theorem Tryz.lays100 : Lays.n100 Tryz.prog Tryz.lays100_ren := by repeat' first | kernel_rfl | exact fun w => rfl | decide | constructor
def Tryz.lays221_ren : Ren := ⟨fun | 221 => 164 | 268 => 197 | 138 => 198 | 143 => 199 | 195 => 219 | 197 => 220 | 218 => 221 | 219 => 211 | 260 => 239 | 217 => 234 | 225 => 235 | 224 => 236 | 267 => 237 | 266 => 251 | 314 => 252 | n => n, fun | 9 => 9 | 3 => 3 | 31 => 171 | 4 => 4 | 0 => 0 | 105 => 262 | 21 => 21 | 5 => 5 | 46 => 269 | 119 => 297 | 139 => 300 | 138 => 299 | 146 => 295 | 51 => 292 | n => n, fun | 1 => 0 | 3 => 4 | 4 => 5 | n => n⟩
theorem Tryz.lays221 : Lays.n221 Tryz.prog Tryz.lays221_ren := by repeat' first | kernel_rfl | exact fun w => rfl | decide | constructor
def Tryz.lays146_ren : Ren := ⟨fun | 146 => 191 | 221 => 164 | 268 => 197 | 138 => 198 | 143 => 199 | 195 => 219 | 197 => 220 | 218 => 221 | 219 => 211 | 260 => 239 | 217 => 234 | 225 => 235 | 224 => 236 | 267 => 237 | 266 => 251 | 314 => 252 | n => n, fun | 9 => 9 | 31 => 171 | 3 => 3 | 4 => 4 | 0 => 0 | 105 => 262 | 21 => 21 | 5 => 5 | 46 => 269 | 119 => 297 | 139 => 300 | 138 => 299 | 146 => 295 | 51 => 292 | n => n, fun | 1 => 0 | 3 => 4 | 4 => 5 | n => n⟩
theorem Tryz.lays146 : Lays.n146 Tryz.prog Tryz.lays146_ren := by repeat' first | kernel_rfl | exact fun w => rfl | decide | constructor
end
end Go.Proofs
